import Derived.Test.YtkhkgfihodljmaaPr0
import Derived.Test.YtkhkgfihodljmaaPrd1
import Derived.Test.YtkhkgfihodljmaaPr7
namespace Go.Proofs.Ytkhkgfihodljmaa.Pr
open Go.RowKit Go.Proofs.YtkhkgfihodljmaaW.PrintWords Go.Proofs.YtkhkgfihodljmaaW.PrintLast Go.Proofs.YtkhkgfihodljmaaW.PrintMore
set_option linter.unusedVariables false
def laws_markIntSS.l0 : Nat → List (List Int) → Int → Int → Option (Int × List (List Int))
  | 0, _, _, _ => none
  | k + 1, x0, x1, x5 => if x5 < (x0.length : Int) then (if 0 ≤ x5 then ((laws_markIntS.f k (x0.getD (x5 : Int).toNat []) x1).bind fun t => laws_markIntSS.l0 k (x0.set (x5 : Int).toNat t.2) t.1 (wrap64 (x5 + 1))) else (none)) else (some (x1, x0))
def laws_markIntSS.f (k : Nat) (l0 : List (List Int)) (a1 : Int) : Option (Int × List (List Int)) := laws_markIntSS.l0 k l0 a1 0
/-- An element of a row of rows, out of the row of rows while it is written. -/
theorem lend_row {W : World} {base g n cap : Nat} {ok : Nat → Prop} {xs : List (List Int)} (h : Kd.S (Kd.slice 3 (Kd.int .i64)) 30 W base ok (.slice (some ⟨g, 0, none⟩) n cap) xs) (i : Int) (h0 : 0 ≤ i) (h1 : i < n) :
    ∃ (oki : Nat → Prop) (v : Value), W.cell? ⟨g, i.toNat, none⟩ = some v ∧ W.frozen? ⟨g, i.toNat, none⟩ = false ∧ Kd.R (Kd.int .i64) 3 W base oki v (xs.getD i.toNat []) ∧ (∀ k, oki k → ok k) ∧
      ∀ {W2 : World} {ok2 : Nat → Prop} {ys : List Int}, Kept W W2 oki → Kd.R (Kd.int .i64) 3 W2 base ok2 v ys → Kd.S (Kd.slice 3 (Kd.int .i64)) 30 W2 base ok (.slice (some ⟨g, 0, none⟩) n cap) (xs.set i.toNat ys) := by
  obtain ⟨oki, c, hcl, hM, hcc, hfr, hoki, hH⟩ := Kd.S_elem h [] i h0 h1
  obtain ⟨v, rfl, hR⟩ := hM
  have h3 := hcc 0 v rfl
  have h4 := hfr 0
  simp only [show ((Kd.slice 3 (Kd.int .i64))).sz = 1 from rfl, Nat.mul_one, Nat.add_zero] at h3 h4
  refine ⟨oki, v, h3, h4, hR, fun k hk => (hoki k hk).1, fun {W2 ok2 ys} hk hR2 => ?_⟩
  exact Kd.H_back (Kd.H_kept hH hk (fun k _ hn hs => hn hs)) (Kd.M_row (Kd.R_reok rfl hR2 (fun k e => hR.1 k e))) (fun _ hk => hk)
set_option maxHeartbeats 4000000 in
set_option maxRecDepth 100000 in
theorem laws_markIntSS.calls (k : Nat) (P0_ : Nat → Prop) (u9000_ : Value) (l0 : List (List Int)) (a1 : Int) (r1 : Int) (r2 : List (List Int)) (w0 w : World) (hB : Below w0.heap.size w0 w) (ho0 : Kd.S (Kd.slice 3 (Kd.int .i64)) 30 w w0.heap.size P0_ u9000_ l0) (h : laws_markIntSS.f k l0 a1 = some (r1, r2)) :
   Calls Try.prog 28 #[u9000_, .int .i64 a1] w fun e w' => e = .returned (.int .i64 r1) ∧ Kd.S (Kd.slice 3 (Kd.int .i64)) 30 w' w0.heap.size P0_ u9000_ r2 ∧ Below w0.heap.size w0 w' ∧ Kept w w' P0_ := by
  have HO0 := Aside0.mk ho0
  have HK := Aside0.mk (Kept.refl w P0_)
  have HB := Aside0.mk hB
  clear hB ho0
  have H : (laws_markIntSS.l0 k l0 a1 0) = some (r1, r2) := h
  clear h
  have H' := Aside0.mk H
  clear H
  go_enter Try.func28, Try.ntmps28
  go_wp2
  go_loopg [1, 5] k (fun kq v1 v5 w' => ∃ (x0_1 : List (List Int)) (x1_1 : Int) (x5_1 : Int), v1 = .int .i64 x1_1 ∧ v5 = .int .i64 x5_1 ∧ Aside0 (laws_markIntSS.l0 kq x0_1 x1_1 x5_1 = some (r1, r2)) ∧ Aside0 (kq ≤ k) ∧ Aside0 (Kd.S (Kd.slice 3 (Kd.int .i64)) 30 w' w0.heap.size P0_ u9000_ x0_1) ∧ Aside0 (Kept w w' P0_) ∧ Aside0 (Below w0.heap.size w0 w'))
  case atStart => exact ⟨(l0), (a1), (0), es_, es_, H', ⟨Nat.le_refl _⟩, HO0, HK, HB⟩
  case round =>
   clear H' HK HB HO0
   obtain ⟨x0_1, x1_1, x5_1, rfl, rfl, HA, HK1, HO_0, HK, HB⟩ := hrel
   cases gk with
   | zero => exact absurd HA.out (by simp [laws_markIntSS.l0])
   | succ k1 =>
    have H := HA.out
    clear HA
    simp only [laws_markIntSS.l0] at H
    by_cases c3 : x5_1 < (x0_1.length : Int)
    ·rw [if_pos c3] at H
     by_cases c4 : 0 ≤ x5_1
     ·rw [if_pos c4] at H
      replace H := Option.bind_eq_some_iff.mp H
      obtain ⟨⟨t1, t2⟩, A50, H⟩ := H
      have A5 := Aside0.mk A50
      have H' := Aside0.mk H
      clear A50 H
      obtain ⟨g, cap, eu, gb, gl, cl⟩ := Kd.S_form HO_0.out (by omega)
      subst eu
      obtain ⟨oki, v, hcell, hfr, hR, hok, hback⟩ := lend_row HO_0.out x5_1 c4 (by omega)
      generalize x0_1.getD x5_1.toNat [] = y at A5 hR
      obtain ⟨Av, cv, ev⟩ := Kd.R_slice hR
      subst ev
      have HRo := Aside0.mk hR
      have HOK := Aside0.mk hok
      have HBK := Aside0.mk (@hback)
      clear hR hok hback gb gl cl
      have c3b0 : decide (x5_1 < (x0_1.length : Int)) = true := decide_eq_true c3
      have c4b0 : decide (0 ≤ x5_1) = true := decide_eq_true c4
      replace c3 := eq_true c3
      replace c4 := eq_true c4
      go_wp2_with fail
      go_at_call 29
      refine (laws_markIntS.calls k1 oki _ y x1_1 t1 t2 w0 _ HB.out HRo.out A5.out).mono ?_
      rintro e w9 ⟨rfl, hr2, hb2, hk2⟩
      have n0_ := Aside0.mk (HBK.out hk2 hr2)
      have n1_ := Aside0.mk (HK.out.then_ hk2 (fun k h => .inl (HOK.out k h)))
      have n2_ := Aside0.mk hb2
      clear HBK HRo HOK HO_0 HK HB hr2 hb2 hk2 A5 hcell hfr
      go_wp2_with fail
      go_roundg k1
      case measure => have := HK1.out; omega
      case rel => exact ⟨_, _, _, es_, es_, H', ⟨by have := HK1.out; omega⟩, n0_, n1_, n2_⟩
     ·rw [if_neg c4] at H
      exact absurd H (by simp)
    ·rw [if_neg c3] at H
     have c3b0 : decide (x5_1 < (x0_1.length : Int)) = false := decide_eq_false c3
     clear c3
     simp only [Option.some.injEq, Prod.mk.injEq] at H
     obtain ⟨rfl, rfl⟩ := H
     obtain ⟨Ao9, co9, eo9⟩ := Kd.S_slice HO_0.out
     subst eo9
     go_wp2
     go_ret
     exact ⟨es_, HO_0.out, HB.out, HK.out⟩

end Go.Proofs.Ytkhkgfihodljmaa.Pr
