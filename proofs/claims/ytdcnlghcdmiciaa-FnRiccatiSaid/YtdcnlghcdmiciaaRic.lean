/-
Own text: the law FnRiccati: one round more is what is missed by what there was.
-/
import Derived.Test.YtdcnlghcdmiciaaDrw
import Derived.Test.YtdcnlghcdmiciaaFwa
import Derived.Test.YtdcnlghcdmiciaaFwc
namespace Go.Proofs.Ytdcnlghcdmiciaa.Fl
open Go Ieee Go.RowKit Go.Proofs.YtdcnlghcdmiciaaW.PrintWords Go.Proofs.YtdcnlghcdmiciaaW.PrintLast Go.Proofs.YtdcnlghcdmiciaaW.PrintMore Go.Proofs.Ytdcnlghcdmiciaa.Opn Go.Proofs.Ytdcnlghcdmiciaa.Pr
set_option linter.unusedVariables false
set_option linter.unusedSimpArgs false
theorem ricS_next {a b q r : Nat} : ∀ (n p0 p : Nat), ricS a b q r n p0 = (p, true) → Neat p0 → Neat p ∧ ricS a b q r (n + 1) p0 = if rndOk a b q r p then (rndR a b q r p, true) else (0, false)
  | 0, p0, p, h, hp => by
    have e : p0 = p := by have := h; rw [ricS] at this; injection this
    subst e
    exact ⟨hp, by rw [ricS]; rfl⟩
  | n + 1, p0, p, h, hp => by
    rw [ricS] at h
    by_cases ho : rndOk a b q r p0 = true
    · rw [if_pos ho] at h
      have := ricS_next n (rndR a b q r p0) p h (rnd_neat ho).1
      refine ⟨this.1, ?_⟩
      rw [ricS, if_pos ho]
      exact this.2
    · rw [if_neg ho] at h
      cases h
theorem ric_next {a b q r : Nat} {n : Int} (h : (ricV a b q r n).2 = true) (hn : n < 40) : costB a b q r = true ∧ Neat (ricV a b q r n).1 ∧ ricV a b q r (n + 1) = if rndOk a b q r (ricV a b q r n).1 then (rndR a b q r (ricV a b q r n).1, true) else (0, false) := by
  have ok : ricOk a b q r n = true := by
    cases ho : ricOk a b q r n with
    | true => rfl
    | false => rw [ric_no ho] at h; cases h
  have hc : costB a b q r = true ∧ 0 ≤ n := by
    unfold ricOk at ok
    simp only [Bool.and_eq_true, Bool.not_eq_true', decide_eq_false_iff_not] at ok
    exact ⟨ok.1.1, by omega⟩
  have e := ric_yes ok
  have ok1 : ricOk a b q r (n + 1) = true := by
    unfold ricOk
    rw [hc.1, decide_eq_false (by omega), decide_eq_false (by omega)]; rfl
  have e1 := ric_yes ok1
  have hh := ricS_next n.toNat q (ricV a b q r n).1 (by rw [e] at h ⊢; exact Prod.ext rfl h) (neat_good (cost_good hc.1).2.2.1)
  rw [e1, show (n + 1).toNat = n.toNat + 1 by omega]
  exact ⟨hc.1, hh.1, hh.2⟩
theorem read_neg {x : Nat} (hx : x < 18446744073709551616) (h : finB x = true) : D.read (Op.negFloat .f64 x) = (D.read x).opposite := by
  have e : Op.negFloat .f64 x = x ^^^ 2 ^ 63 := rfl
  have h1 : (x ^^^ 2 ^ 63) % 9223372036854775808 = x % 9223372036854775808 := by
    have := Nat.xor_mod_two_pow (a := x) (b := 2 ^ 63) (n := 63)
    rw [show (2 : Nat) ^ 63 % 2 ^ 63 = 0 by decide, Nat.xor_zero] at this
    exact this
  have h2 : ((x ^^^ 2 ^ 63) / 9223372036854775808 % 2 == 1) = !(x / 9223372036854775808 % 2 == 1) := by
    have := Nat.xor_div_two_pow (a := x) (b := 2 ^ 63) (n := 63)
    rw [show (2 : Nat) ^ 63 / 2 ^ 63 = 1 by decide] at this
    rw [show (x ^^^ 2 ^ 63) / 9223372036854775808 = x / 9223372036854775808 ^^^ 1 from this]
    have hd : x / 9223372036854775808 = 0 ∨ x / 9223372036854775808 = 1 := by omega
    rcases hd with hd | hd <;> rw [hd] <;> rfl
  rw [e, read_eq, read_eq, h1, h2]
  by_cases c1 : x % 9223372036854775808 < 4503599627370496
  · rw [if_pos c1, if_pos c1]; rfl
  · rw [if_neg c1, if_neg c1]
    by_cases c2 : x % 9223372036854775808 < 9218868437227405312
    · rw [if_pos c2, if_pos c2]; rfl
    · exact absurd (of_decide_eq_true h) c2
theorem add_neg {x p : Nat} (hp : p < 18446744073709551616) (h : finB p = true) : plusC (fop .add x (plusC (Op.negFloat .f64 p))) = plusC (fop .sub x p) := by
  show plusC (fadd _ _) = plusC (fsub _ _)
  rw [add_plus_r]
  unfold fadd fsub
  rw [read_neg hp h]
theorem sum_two (x y : Nat) : sumS [x, y] = fop .add x y := by
  show sumF 3 [x, y] = _
  rw [sumF_2 (l := [x, y]) (Nat.le_refl 2)]
  rfl
theorem order_same {x : Nat} (h : nanB x = false) : (FloatKind.f64.format.order x x == some Ordering.eq) = true := by
  rw [show (FloatKind.f64.format.order x x == some Ordering.eq) = (D.order x x == some Ordering.eq) from rfl, order_self, h]; rfl
theorem told_nan (x : Nat) : nanB (told x) = false := by
  unfold told
  cases h : finB x with
  | false => exact (by decide : nanB 0 = false)
  | true => exact nan_fin (by rw [if_pos rfl, fin_plus]; exact h)
theorem neat_nan {p : Nat} (h : Neat p) : nanB p = false := nan_fin h.1
/-- The last test: the sum is what is missed. -/
theorem ric_last {a b q r p nx : Nat} {g : Bool} (hp : p < 18446744073709551616) (hn : Neat p) (hx : (nx, g) = if rndOk a b q r p then (rndR a b q r p, true) else (0, false)) (hg : g = true) (hm : missB a b q r p = true) (hi : sumsB [nx, plusC (Op.negFloat .f64 p)] = true) :
    (FloatKind.f64.format.order (sumsR [nx, plusC (Op.negFloat .f64 p)]) (missR a b q r p) == some Ordering.eq) = true := by
  have ho : rndOk a b q r p = true := by
    cases ho : rndOk a b q r p with
    | true => rfl
    | false => rw [ho] at hx; injection hx with _ h2; rw [h2] at hg; cases hg
  rw [ho, if_pos rfl] at hx
  have e1 : nx = rndR a b q r p := by injection hx
  have mo : missOk a b q r p = true := by
    cases mo : missOk a b q r p with
    | true => rfl
    | false => rw [(miss_no mo).2] at hm; cases hm
  have go : goodsB [nx, plusC (Op.negFloat .f64 p)] = true := by
    cases go : goodsB [nx, plusC (Op.negFloat .f64 p)] with
    | true => rfl
    | false => rw [(sums_no go).2] at hi; cases hi
  have e2 : sumsR [nx, plusC (Op.negFloat .f64 p)] = missR a b q r p := by
    rw [(sums_yes go).1, (miss_yes mo).1, sum_two, e1]
    exact told_plus (add_neg hp hn.1)
  rw [e2]
  refine order_same ?_
  rw [(miss_yes mo).1]
  exact told_nan _
theorem neqt {x : Nat} (h : nanB x = false) : (FloatKind.f64.format.order x x != some Ordering.eq) = false := by
  rw [show (FloatKind.f64.format.order x x != some Ordering.eq) = !(D.order x x == some Ordering.eq) from rfl, order_self, h]; rfl
theorem ricV_nan {a b q r : Nat} {n : Int} : nanB (ricV a b q r n).1 = false := by
  cases ok : ricOk a b q r n with
  | false => rw [ric_no ok]; decide
  | true =>
    rw [ric_yes ok]
    have hc : costB a b q r = true := by
      unfold ricOk at ok
      simp only [Bool.and_eq_true] at ok
      exact ok.1.1
    have : ∀ (m p0 : Nat), Neat p0 → nanB (ricS a b q r m p0).1 = false := by
      intro m
      induction m with
      | zero => exact fun p0 h => neat_nan h
      | succ m ih =>
        intro p0 h
        rw [ricS]
        by_cases ho : rndOk a b q r p0 = true
        · rw [if_pos ho]; exact ih _ (rnd_neat ho).1
        · rw [if_neg ho]; decide
    exact this _ _ (neat_good (cost_good hc).2.2.1)
set_option maxHeartbeats 8000000 in
set_option maxRecDepth 100000 in
theorem law_Riccati (A : Option Addr) (c : Nat) (l : List Int) (w : World) (hr : Kd.C (Kd.int .u8) w A l.length l) (hc : l.length ≤ c) (hn : l.length * 1 ≤ 140737488351232) (hb : ∀ x ∈ l, (Lit.int .u8 x).wf = true) :
    Calls Try.prog 10 #[.slice A l.length c] w fun e w' => e = .returned (.bool true) ∧ Below w.heap.size w w' := by
  by_cases big : (l.length : Int) > 1048576
  · clear hr hn hb
    go_enter Try.func10, Try.ntmps10
    go_wp2_with fail
    go_ret
    exact ⟨rfl, Below.refl _ _⟩
  have HD := Aside0.mk (drawRiccati A c l w hr hc ⟨by omega, fun y hy => by have := hb y hy; simp [Lit.wf, IntKind.min, IntKind.max, IntKind.bits, IntKind.signed] at this; omega⟩)
  clear hr hc hn hb
  go_enter Try.func10, Try.ntmps10
  go_wp2_with fail
  go_at_call 29
  refine (HD.out).mono ?_
  rintro e w1 ⟨a, b, q, r, n, rfl, hlt, hb1⟩
  have HLT := Aside0.mk hlt
  have HB := Aside0.mk hb1
  clear hlt hb1 HD
  go_wp2_with fail
  go_at_call 18
  refine (impl_RiccatiReal a b q r n HLT.out.1 HLT.out.2.1 HLT.out.2.2.1 HLT.out.2.2.2.1 _).mono ?_
  rintro e w2 ⟨rfl, hb2⟩
  have HB2 := Aside0.mk (below_step HB.out hb2)
  clear hb2 HB
  go_wp2_with fail
  go_at_call 17
  refine (spec_RiccatiReal a b q r n HLT.out.1 HLT.out.2.1 HLT.out.2.2.1 HLT.out.2.2.2.1 _).mono ?_
  rintro e w3 ⟨rfl, m3, rfl⟩
  have HB3 := Aside0.mk (pw_below_drewN HB2.out m3)
  clear HB2
  have HNX := Aside0.mk (fun h1 h2 => ric_next (a := a) (b := b) (q := q) (r := r) (n := n) h1 h2)
  have HPL := Aside0.mk (ricV_lt a b q r n HLT.out.2.2.1)
  have hne := neqt (ricV_nan (a := a) (b := b) (q := q) (r := r) (n := n))
  generalize (ricV a b q r n).1 = p at *
  generalize (ricV a b q r n).2 = ok at *
  cases ok
  case false =>
    go_wp2_with fail
    go_ret
    exact ⟨rfl, HB3.out⟩
  by_cases h40 : n ≥ 40
  · go_wp2_with fail
    go_ret
    exact ⟨rfl, HB3.out⟩
  have HX := Aside0.mk (HNX.out rfl (by omega))
  have hn1 : -100 ≤ n := HLT.out.2.2.2.2.1
  have hn2 : n ≤ 100 := HLT.out.2.2.2.2.2
  clear HNX
  go_wp2_with fail
  go_at_call 18
  refine (impl_RiccatiReal a b q r (n + 1) HLT.out.1 HLT.out.2.1 HLT.out.2.2.1 HLT.out.2.2.2.1 _).mono ?_
  rintro e w4 ⟨rfl, hb4⟩
  have HB4 := Aside0.mk (below_step HB3.out hb4)
  clear hb4 HB3
  have HXL := Aside0.mk (ricV_lt a b q r (n + 1) HLT.out.2.2.1)
  obtain ⟨nx, g, HG⟩ : ∃ nx g, Aside0 (ricV a b q r (n + 1) = (nx, g)) := ⟨_, _, ⟨rfl⟩⟩
  have e1 : (ricV a b q r (n + 1)).1 = nx := by rw [HG.out]
  have e2 : (ricV a b q r (n + 1)).2 = g := by rw [HG.out]
  rw [e1, e2]
  rw [e1] at HXL
  have HX2 : Aside0 ((nx, g) = if rndOk a b q r p then (rndR a b q r p, true) else (0, false)) := ⟨HG.out.symm.trans HX.out.2.2⟩
  have HNE : Aside0 (Neat p) := ⟨HX.out.2.1⟩
  clear e1 e2 HG HX
  go_wp2_with fail
  go_at_call 16
  refine (impl_MissReal a b q r p HLT.out.1 HLT.out.2.1 HLT.out.2.2.1 HLT.out.2.2.2.1 HPL.out _).mono ?_
  rintro e w5 ⟨rfl, hb5⟩
  have HB5 := Aside0.mk (below_step HB4.out hb5)
  clear hb5 HB4
  have HLAST := Aside0.mk (fun hg hm hi => ric_last (a := a) (b := b) (q := q) (r := r) (p := p) (nx := nx) (g := g) HPL.out HNE.out HX2.out hg hm hi)
  have HTL : Aside0 (plusC (Op.negFloat .f64 p) < 18446744073709551616) := ⟨plus_lt (neg_lt HPL.out)⟩
  generalize missR a b q r p = ms at *
  generalize missB a b q r p = mb at *
  go_wp2_with (first | (go_at_call 30; refine (turnedF p HPL.out _).mono ?_; rintro e w' ⟨rfl, rfl⟩; generalize plusC (Op.negFloat .f64 p) = tp at *) | ((with_reducible refine gate_dst (N := 84) rfl ?_); refine Kd.R_lit flt _ 22 ?hg (N := 84) ?hd (xs := [nx, tp]) (inner := [.float .f64 nx, .float .f64 tp]) (ok := fun k => True) (okp := fun _ => True) ?hr ?hp (fun _ hk => hk) trivial (Below.refl _ _) (Nat.le_refl _) (by simp) ?_; (case hd => rfl); (case hg => rfl); (case hr => first | (go_simp; done) | (go_simp; rfl)); (case hp => exact (Reps.one (show flt.M _ _ _ nx [.float .f64 nx] from rfl) (Reps.one (show flt.M _ _ _ tp [.float .f64 tp] from rfl) (Reps.none _ _)))); intro v16 w6 ho hb hg_ hnew_; clear hg_ hnew_; have HO := Aside0.mk ho; have HB6 := Aside0.mk (below_step HB5.out hb); clear hb ho))
  obtain ⟨A2, c2, rfl⟩ := Kd.R_slice HO.out
  go_at_call 24
  refine (impl_SumReals A2 c2 [nx, tp] _ (Kd.R_reads' HO.out).2.2 (Kd.R_reads' HO.out).2.1 (by simp) (by intro x hx; simp only [List.mem_cons, List.not_mem_nil, or_false] at hx; rcases hx with rfl | rfl; exact HXL.out; exact HTL.out)).mono ?_
  rintro e w7 ⟨rfl, hb7⟩
  have HB7 := Aside0.mk (below_step HB6.out hb7)
  clear hb7 HB6 HO
  generalize sumsR [nx, tp] = sr at *
  generalize sumsB [nx, tp] = sb at *
  cases g
  case false =>
    clear HLAST
    go_wp2_with fail
    go_ret
    exact ⟨rfl, HB7.out⟩
  cases mb
  case false =>
    clear HLAST
    go_wp2_with fail
    go_ret
    exact ⟨rfl, HB7.out⟩
  cases sb
  case false =>
    clear HLAST
    go_wp2_with fail
    go_ret
    exact ⟨rfl, HB7.out⟩
  have hq := HLAST.out rfl rfl rfl
  clear HLAST
  go_wp2_with fail
  go_ret
  exact ⟨rfl, HB7.out⟩
end Go.Proofs.Ytdcnlghcdmiciaa.Fl
