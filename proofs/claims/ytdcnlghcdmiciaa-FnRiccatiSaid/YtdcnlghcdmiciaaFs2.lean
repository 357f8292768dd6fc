/-
Own text: sums of floats, halved by the greatest power of two: plainly, and in the reference.
-/
import Derived.Test.YtdcnlghcdmiciaaFs1
import Derived.Test.YtdcnlghcdmiciaaWFour
import Derived.Test.YtdcnlghcdmiciaaWTab
namespace Go.Proofs.Ytdcnlghcdmiciaa.Fl
open Go Ieee Go.RowKit Go.Proofs.YtdcnlghcdmiciaaW.PrintWords Go.Proofs.YtdcnlghcdmiciaaW.PrintLast Go.Proofs.Ytdcnlghcdmiciaa.Opn
set_option linter.unusedVariables false
set_option linter.unusedSimpArgs false
def halfGo : Nat → Nat → Nat → Nat
  | 0, k, _ => k
  | f + 1, k, n => if 2 * k < n then halfGo f (2 * k) n else k
def half (n : Nat) : Nat := halfGo n 1 n
theorem half_end {g k n : Nat} (h : ¬ 2 * k < n) : halfGo g k n = k := by cases g with
  | zero => rfl
  | succ g => rw [halfGo, if_neg h]
theorem half_go {g k n : Nat} (h : 2 * k < n) : halfGo (g + 1) k n = halfGo g (2 * k) n := by rw [halfGo, if_pos h]
theorem halfGo_bounds : ∀ (f k n : Nat), 1 ≤ k → k < n → 1 ≤ halfGo f k n ∧ halfGo f k n < n
  | 0, k, n, h1, h2 => ⟨h1, h2⟩
  | f + 1, k, n, h1, h2 => by
    rw [halfGo]
    split
    · exact halfGo_bounds f (2 * k) n (by omega) (by omega)
    · exact ⟨h1, h2⟩
theorem half_bounds {n : Nat} (h : 2 ≤ n) : 1 ≤ half n ∧ half n < n := halfGo_bounds n 1 n (by omega) (by omega)
def sumF : Nat → List Nat → Nat
  | 0, _ => 0
  | f + 1, l => if l.length = 0 then 0 else if l.length = 1 then l.getD 0 0 else fop .add (sumF f (l.take (half l.length))) (sumF f (l.drop (half l.length)))
theorem sumF_0 {f : Nat} {l : List Nat} (h : l.length = 0) : sumF (f + 1) l = 0 := by rw [sumF, if_pos h]
theorem sumF_1 {f : Nat} {l : List Nat} (h : l.length = 1) : sumF (f + 1) l = l.getD 0 0 := by rw [sumF, if_neg (by omega), if_pos h]
theorem sumF_2 {f : Nat} {l : List Nat} (h : 2 ≤ l.length) : sumF (f + 1) l = fop .add (sumF f (l.take (half l.length))) (sumF f (l.drop (half l.length))) := by rw [sumF, if_neg (by omega), if_neg (by omega)]
theorem getD_map_ab {l : List Nat} (i : Nat) : (l.map ab).getD i 0 = ab (l.getD i 0) := by
  rw [List.getD_eq_getElem?_getD, List.getD_eq_getElem?_getD, List.getElem?_map]
  cases l[i]? with
  | none => exact (by decide : 0 = ab 0)
  | some x => rfl
/-- Which NaN is of no account. -/
theorem sumF_ab : ∀ (f : Nat) (l s : List Nat), l.map ab = s.map ab → ab (sumF f l) = ab (sumF f s)
  | 0, _, _, _ => rfl
  | f + 1, l, s, h => by
    have hl : l.length = s.length := by have := congrArg List.length h; simpa using this
    by_cases h0 : l.length = 0
    · rw [sumF_0 h0, sumF_0 (by omega)]
    by_cases h1 : l.length = 1
    · rw [sumF_1 h1, sumF_1 (by omega), ← getD_map_ab, ← getD_map_ab, h]
    · rw [sumF_2 (by omega), sumF_2 (by omega), ← hl]
      have e1 := sumF_ab f (l.take (half l.length)) (s.take (half l.length)) (by rw [List.map_take, List.map_take, h])
      have e2 := sumF_ab f (l.drop (half l.length)) (s.drop (half l.length)) (by rw [List.map_drop, List.map_drop, h])
      rw [← fop_ab_l, ← fop_ab_r, e1, e2, fop_ab_l, fop_ab_r]
theorem Bits.take {l : List Nat} (h : Bits l) (k : Nat) : Bits (l.take k) := fun x hx => h x (List.mem_of_mem_take hx)
theorem Bits.drop {l : List Nat} (h : Bits l) (k : Nat) : Bits (l.drop k) := fun x hx => h x (List.mem_of_mem_drop hx)
theorem run_fadd_op {P : Program} {a : Act} {o : Oper} {x y : Nat} {p q : Operand} {t t' : TypeId} (ho : o.op = .binOp .add t p q t') (hp : a.eval p = .float .f64 x) (hq : a.eval q = .float .f64 y) (w : World) : (execOp a.eval o).run P w = .ok (.value (.float .f64 (fv .add w x y))) (w.drewN (fc .add x y)) := by
  unfold execOp
  rw [ho]
  simp only [hp, hq]
  show (Sem.run P ((do pure (); binOp .add t (.float .f64 x) (.float .f64 y)) >>= fun v => pure (Next.value v)) w) = _
  simp only [go_sem] at *
  rw [Sem.run_bind, run_fadd]
  rfl
def SumOut (f : Nat) (l : List Nat) (w : World) (e : Ending) (w' : World) : Prop := ∃ r, e = .returned (.float .f64 r) ∧ (r < 18446744073709551616 ∧ ab r = ab (sumF f l)) ∧ ∃ m, w' = w.drewN m
set_option maxHeartbeats 2000000 in
set_option maxRecDepth 100000 in
theorem l2Sum : ∀ (f : Nat) (l : List Nat) (A : Option Addr) (c : Nat) (w : World), l.length < f → flt.C w A l.length l → l.length ≤ c → l.length * 8 ≤ 140737488351232 → Bits l →
    Calls Try.prog 49 #[.slice A l.length c] w (SumOut f l w)
  | 0, l, A, c, w, hf, _, _, _, _ => absurd hf (Nat.not_lt_zero _)
  | f + 1, l, A, c, w, hf, hr, hc, hn, hb => by
    have ih := l2Sum f
    have IH := Aside0.mk ih
    have HR := Aside0.mk hr
    have HB := Aside0.mk hb
    have HC := Aside0.mk hc
    have HN := Aside0.mk hn
    have HFF := Aside0.mk hf
    clear ih hr hb hc hn hf
    by_cases h0 : l.length = 0
    · have HS := Aside0.mk (sumF_0 (f := f) h0)
      have HO : Aside0 (SumOut (f + 1) l w (.returned (.float .f64 0)) w) := ⟨0, rfl, ⟨by decide, by rw [HS.out]⟩, 0, rfl⟩
      have h0' : ((l.length : Int) == 0) = true := by rw [h0]; rfl
      clear h0
      go_enter Try.func49, Try.ntmps49
      go_wp2_with fail
      go_ret
      exact HO.out
    have h0' : ((l.length : Int) == 0) = false := beq_eq_false_iff_ne.2 (by omega)
    by_cases h1 : l.length = 1
    · have HS := Aside0.mk (sumF_1 (f := f) h1)
      obtain ⟨ad, rfl, hx⟩ := at_flt HR.out 0 (by omega)
      have hx0 := HB.out.get 0
      have h1' : ((l.length : Int) == 1) = true := by rw [h1]; rfl
      have h1i : (0 : Int) < (l.length : Int) := by omega
      have h1n : 0 < l.length := by omega
      simp only [Addr.add_zero'] at hx
      have HO : Aside0 (SumOut (f + 1) l w (.returned (.float .f64 (l.getD 0 0))) w) := ⟨_, rfl, ⟨hx0, by rw [HS.out]⟩, 0, rfl⟩
      clear h0 h1 hx0
      generalize l.getD 0 0 = x at *
      go_enter Try.func49, Try.ntmps49
      go_wp2_with fail
      go_ret
      exact HO.out
    have h1' : ((l.length : Int) == 1) = false := beq_eq_false_iff_ne.2 (by omega)
    have H2 : Aside0 (2 ≤ l.length) := ⟨by omega⟩
    have HS := Aside0.mk (sumF_2 (f := f) H2.out)
    have HH := Aside0.mk (half_bounds H2.out)
    clear h0 h1
    have hlen : (l.length : Int) ≤ 17592186044416 := by have := HN.out; omega
    go_enter Try.func49, Try.ntmps49
    go_wp2_with fail
    go_loopg [3] l.length (fun g v3 wr => ∃ (k : Nat), v3 = .int .i64 (k : Int) ∧ wr = w ∧ Aside0 (1 ≤ k ∧ k < l.length ∧ l.length < k + g) ∧ Aside0 (halfGo g k l.length = half l.length))
    case atStart => exact ⟨1, rfl, rfl, ⟨by have := H2.out; omega⟩, ⟨rfl⟩⟩
    case round =>
      obtain ⟨k, rfl, rfl, HK, HG⟩ := hrel
      have hk0 : (0 : Int) ≤ (k : Int) := by omega
      have hk1 : (k : Int) ≤ (l.length : Int) := by have := HK.out; omega
      have hkb : (k : Int) ≤ 17592186044416 := by omega
      by_cases hlt : (k : Int) * 2 < (l.length : Int)
      · obtain ⟨g, rfl⟩ : ∃ g, gk = g + 1 := ⟨gk - 1, by have := HK.out; omega⟩
        have HG2 := Aside0.mk ((half_go (by omega)).symm.trans HG.out)
        go_wp2_with fail
        go_roundg g
        case measure => omega
        case rel => exact ⟨2 * k, by go_num, rfl, ⟨by have := HK.out; omega⟩, HG2⟩
      · have e : half l.length = k := by rw [← HG.out]; exact half_end (by omega)
        rw [e] at HS
        clear HG HH e
        have HL : Aside0 ((l.take k).length < f ∧ (l.take k).length ≤ c ∧ (l.take k).length * 8 ≤ 140737488351232 ∧ (l.drop k).length < f ∧ (l.drop k).length ≤ c - k ∧ (l.drop k).length * 8 ≤ 140737488351232) := ⟨by
          have := HK.out; have := HC.out; have := HN.out; have := HFF.out
          rw [List.length_take, List.length_drop, Nat.min_eq_left (by omega)]; omega⟩
        have CL := Aside0.mk (Kd.C_take HR.out (m := k) (by have := HK.out; omega))
        have CR := Aside0.mk (Kd.C_drop HR.out (m := k) (c := c) (by have := HK.out; omega) HC.out)
        have hcc : (l.length : Int) ≤ (c : Int) := by have := HC.out; omega
        have hkc : k ≤ c := by omega
        have hkl : k ≤ l.length := by omega
        have I1 := IH.out (l.take k) A c
        have I2 := IH.out (l.drop k) (if c = k then A else A.map (fun x => x.add k)) (c - k)
        have hT : (l.take k).length = k := by rw [List.length_take]; omega
        have hD : (l.drop k).length = l.length - k := List.length_drop
        have CL := CL.out
        have CR := CR.out
        have HLL := HL.out
        rw [show k * flt.sz = k from Nat.mul_one k] at CR
        rw [hT] at I1 CL HLL
        rw [hD] at I2 CR HLL
        clear hT hD HL
        have HL := Aside0.mk HLL
        have CL := Aside0.mk CL
        have CR := Aside0.mk CR
        have I1 := Aside0.mk I1
        have I2 := Aside0.mk I2
        clear HLL
        go_wp2_with fail
        refine start_ (n := 10) (S := fun _ => True) (ds := []) #[false, false, false, false, false, false, false, false, false, false] (by kernel_rfl) rfl rfl trivial (fun hHeld => ?_)
        refine pure_ (i := 0) (N := some 20) (v := ?_) (a' := ?_) #[true, false, false, false, false, false, false, false, false, false] rfl rfl (by kernel_rfl) (fun _ _ _ h => h) (Or.inl ⟨by rfl, ?_⟩) ?_ ?_
        rotate_left
        · intro w'
          go_simp
          with_reducible rfl
        rotate_left
        · simp only [Act.put, List.setIfInBounds_toArray, List.set_cons_zero, List.set_cons_succ]
          rfl
        refine pure_ (i := 1) (N := some 21) (v := ?_) (a' := ?_) #[true, true, false, false, false, false, false, false, false, false] rfl rfl (by kernel_rfl) (fun _ _ _ h => h) (Or.inl ⟨by rfl, ?_⟩) ?_ ?_
        rotate_left
        · intro w'
          go_simp
          with_reducible rfl
        rotate_left
        · simp only [Act.put, List.setIfInBounds_toArray, List.set_cons_zero, List.set_cons_succ]
          rfl
        refine pure_ (i := 2) (N := some 22) (v := ?_) (a' := ?_) #[true, true, true, false, false, false, false, false, false, false] rfl rfl (by kernel_rfl) (fun _ _ _ h => h) (Or.inl ⟨by rfl, ?_⟩) ?_ ?_
        rotate_left
        · intro w'
          go_simp
          with_reducible rfl
        rotate_left
        · simp only [Act.put, List.setIfInBounds_toArray, List.set_cons_zero, List.set_cons_succ]
          rfl
        refine pure_ (i := 4) (N := some 24) (v := ?_) (a' := ?_) #[true, true, true, false, true, false, false, false, false, false] rfl rfl (by kernel_rfl) (fun _ _ _ h => h) (Or.inl ⟨by rfl, ?_⟩) ?_ ?_
        rotate_left
        · intro w'
          go_simp
          with_reducible rfl
        rotate_left
        · simp only [Act.put, List.setIfInBounds_toArray, List.set_cons_zero, List.set_cons_succ]
          rfl
        refine pure_ (i := 5) (N := some 25) (v := ?_) (a' := ?_) #[true, true, true, false, true, true, false, false, false, false] rfl rfl (by kernel_rfl) (fun _ _ _ h => h) (Or.inl ⟨by rfl, ?_⟩) ?_ ?_
        rotate_left
        · intro w'
          go_simp
          with_reducible rfl
        rotate_left
        · simp only [Act.put, List.setIfInBounds_toArray, List.set_cons_zero, List.set_cons_succ]
          rfl
        refine pure_ (i := 6) (N := some 26) (v := ?_) (a' := ?_) #[true, true, true, false, true, true, true, false, false, false] rfl rfl (by kernel_rfl) (fun _ _ _ h => h) (Or.inl ⟨by rfl, ?_⟩) ?_ ?_
        rotate_left
        · intro w'
          go_simp
          with_reducible rfl
        rotate_left
        · simp only [Act.put, List.setIfInBounds_toArray, List.set_cons_zero, List.set_cons_succ]
          rfl
        refine one_ (i := 3) (N := some 23) #[true, true, true, true, true, true, true, false, false, false] rfl rfl (by kernel_rfl) (by decide) (fun K hK => ?_)
        refine goes_ Try.func49 (by kernel_rfl) rfl #[.slice A k c] (by rfl) rfl rfl (by simp only [List.map_toArray, List.map_cons, List.map_nil]; rfl) ?_
        refine (I1.out _ ?a1 ?a2 ?a3 ?a4 ?a5).mono ?_
        case a1 => exact HL.out.1
        case a2 => exact Kd.C_drew CL.out
        case a3 => exact HL.out.2.1
        case a4 => exact HL.out.2.2.1
        case a5 => exact HB.out.take k
        rintro e w1 ⟨x1, rfl, hx1, m1, rfl⟩
        have X1 := Aside0.mk hx1
        clear hx1
        refine ⟨_, rfl, ?_⟩
        refine hK.out _ _ trivial (fun hHeld => ?_)
        clear hK K
        refine norm_ (a' := ?_) ?_ ?_
        rotate_left
        · show Act.put _ (some 23) _ = _
          simp only [Act.put, List.setIfInBounds_toArray, List.set_cons_zero, List.set_cons_succ]
          rfl
        refine one_ (i := 7) (N := some 27) #[true, true, true, true, true, true, true, true, false, false] rfl rfl (by kernel_rfl) (by decide) (fun K hK => ?_)
        refine goes_ Try.func49 (by kernel_rfl) rfl #[.slice (if c = k then A else A.map (fun x => x.add k)) (l.length - k) (c - k)] (by rfl) rfl rfl (by simp only [List.map_toArray, List.map_cons, List.map_nil]; rfl) ?_
        refine (I2.out _ ?b1 ?b2 ?b3 ?b4 ?b5).mono ?_
        case b1 => exact HL.out.2.2.2.1
        case b2 => exact Kd.C_drewN (Kd.C_drew CR.out) _
        case b3 => exact HL.out.2.2.2.2.1
        case b4 => exact HL.out.2.2.2.2.2
        case b5 => exact HB.out.drop k
        rintro e w2 ⟨x2, rfl, hx2, m2, rfl⟩
        have X2 := Aside0.mk hx2
        clear hx2
        refine ⟨_, rfl, ?_⟩
        refine hK.out _ _ trivial (fun hHeld => ?_)
        clear hK K
        refine norm_ (a' := ?_) ?_ ?_
        rotate_left
        · show Act.put _ (some 27) _ = _
          simp only [Act.put, List.setIfInBounds_toArray, List.set_cons_zero, List.set_cons_succ]
          rfl
        refine one_ (i := 8) (N := some 28) #[true, true, true, true, true, true, true, true, true, false] rfl rfl (by kernel_rfl) (by decide) (fun K hK => ?_)
        refine event_step (by rfl) (run_fadd_op (by rfl) (by rfl) (by rfl) _) ?_
        refine hK.out _ _ trivial (fun hHeld => ?_)
        clear hK K
        refine norm_ (a' := ?_) ?_ ?_
        rotate_left
        · show Act.put _ (some 28) _ = _
          simp only [Act.put, List.setIfInBounds_toArray, List.set_cons_zero, List.set_cons_succ]
          rfl
        refine pure_ (i := 9) (N := some 2) (v := ?_) (a' := ?_) #[true, true, true, true, true, true, true, true, true, true] rfl rfl (by kernel_rfl) (fun _ _ _ h => h) (Or.inl ⟨by rfl, ?_⟩) ?_ ?_
        rotate_left
        · intro w'
          go_simp
          with_reducible rfl
        rotate_left
        · simp only [Act.put, List.setIfInBounds_toArray, List.set_cons_zero, List.set_cons_succ]
          rfl
        refine done_ (by kernel_rfl) ?_
        go_wp2_with fail
        all_goals
          go_ret
          refine ⟨_, rfl, ⟨fv_lt _ _ _ _, ?_⟩, _, rfl⟩
          rw [fv_ab, HS.out, fop_ab_, ← fop_ab_l, ← fop_ab_r, X1.out.2, X2.out.2, fop_ab_l, fop_ab_r]
end Go.Proofs.Ytdcnlghcdmiciaa.Fl
