/-
Own text: the walk of the program's GainReal.
-/
import Derived.Test.YtdcnlghcdmiciaaFw5
namespace Go.Proofs.Ytdcnlghcdmiciaa.Fl
open Go Ieee Go.RowKit Go.Proofs.YtdcnlghcdmiciaaW.PrintWords
set_option linter.unusedVariables false
set_option linter.unusedSimpArgs false
theorem like_told {x q : Nat} (h : Like x q) (hf : finB q = true) : x = told q := by
  have hx : finB x = true := by rw [fin_like h, hf]
  have hn : nanB x = false := by
    cases hn : nanB x with
    | false => rfl
    | true => have := fin_of_nan hn; rw [hx] at this; cases this
  unfold told
  rw [hf, ← h.2, ab_of hn]; rfl
theorem off_op_l {op : BinOp} (hop : op = .add ∨ op = .sub ∨ op = .mul ∨ op = .quo) {x : Nat} (y : Nat) (h : finB x = false) : finB (fop op x y) = false := by
  rcases hop with rfl | rfl | rfl | rfl
  · exact off_add_l y h
  · exact off_sub_l y h
  · exact off_mul_l y h
  · exact off_div_l y h
theorem off_op_r {op : BinOp} (hop : op = .add ∨ op = .sub ∨ op = .mul) (x : Nat) {y : Nat} (h : finB y = false) : finB (fop op x y) = false := by
  rcases hop with rfl | rfl | rfl
  · exact off_add_r x h
  · exact off_sub_r x h
  · exact off_mul_r x h
theorem fin_l {op : BinOp} (hop : op = .add ∨ op = .sub ∨ op = .mul ∨ op = .quo) {x y : Nat} (h : finB (fop op x y) = true) : finB x = true := by
  cases hx : finB x with
  | true => rfl
  | false => rw [off_op_l hop y hx] at h; cases h
theorem fin_r {op : BinOp} (hop : op = .add ∨ op = .sub ∨ op = .mul) {x y : Nat} (h : finB (fop op x y) = true) : finB y = true := by
  cases hx : finB y with
  | true => rfl
  | false => rw [off_op_r hop x hx] at h; cases h
theorem gain_end {a b r p x : Nat} (hc : costB a b 4607182418800017408 r = true) (hg : goodB p = true) (hz : zeroB (gainD b r p) = false) (hx : Like x (fop .quo (gainN a b p) (gainD b r p))) {f : Bool}
    (hf : f = ((((((false || !finB (fop .mul b b)) || !finB (fop .mul (fop .mul b b) p)) || !finB (gainD b r p)) || !finB (fop .mul a b)) || !finB (gainN a b p)) || !finB (fop .quo (gainN a b p) (gainD b r p)))) :
    (if f then 0 else x) = gainR a b r p ∧ (!f) = gainB a b r p := by
  have ok : gainOk a b r p = (finB (gainD b r p) && finB (gainN a b p)) := by unfold gainOk; rw [hc, hg, hz]; rfl
  unfold gainR gainB
  rw [ok]
  cases h3 : finB (gainD b r p) with
  | false => rw [hf, h3]; simp
  | true =>
    have h2 : finB (fop .mul (fop .mul b b) p) = true := fin_r (op := .add) (by simp) h3
    have h1 : finB (fop .mul b b) = true := fin_l (op := .mul) (by simp) h2
    cases h5 : finB (gainN a b p) with
    | false => rw [hf, h5]; simp
    | true =>
      have h4 : finB (fop .mul a b) = true := fin_l (op := .mul) (by simp) h5
      rw [h1, h2, h3, h4, h5] at hf
      cases h6 : finB (fop .quo (gainN a b p) (gainD b r p)) with
      | false => rw [h6] at hf; subst hf; exact ⟨by unfold told; rw [h6]; rfl, rfl⟩
      | true => rw [h6] at hf; subst hf; exact ⟨like_told hx h6, rfl⟩
theorem order_like {x s : Nat} (h : Like x s) : (FloatKind.f64.format.order x 0 == some Ordering.eq) = zeroB s := by
  rw [show (FloatKind.f64.format.order x 0 == some Ordering.eq) = (D.order x 0 == some Ordering.eq) from rfl, order_zero h.1, ← zero_ab, h.2]
  exact zero_plus (plus_plus s)
theorem cost_good {a b q r : Nat} (h : costB a b q r = true) : goodB a = true ∧ goodB b = true ∧ goodB q = true ∧ goodB r = true ∧ zeroB b = false := by
  unfold costB at h
  simp only [Bool.and_eq_true, Bool.not_eq_true'] at h
  exact ⟨h.1.1.1.1.1.1, h.1.1.1.1.1.2, h.1.1.1.1.2, h.1.1.1.2, h.1.1.2⟩
theorem gain_no {a b r p : Nat} (h : gainOk a b r p = false) : gainR a b r p = 0 ∧ gainB a b r p = false := by unfold gainR gainB; rw [h]; exact ⟨rfl, rfl⟩
set_option maxHeartbeats 2000000 in
set_option maxRecDepth 100000 in
theorem impl_GainReal (a b r p : Nat) (ha : a < 18446744073709551616) (hb : b < 18446744073709551616) (hr : r < 18446744073709551616) (hp : p < 18446744073709551616) (w : World) :
    Calls Try.prog 13 #[.float .f64 a, .float .f64 b, .float .f64 r, .float .f64 p] w fun e w' => e = .returned (.tuple #[.float .f64 (gainR a b r p), .bool (gainB a b r p)]) ∧ Below w.heap.size w w' := by
  have HC := Aside0.mk (costReals a b 4607182418800017408 r ha hb (by decide) hr)
  have HG := Aside0.mk (impl_GoodReal p hp)
  cases hc : costB a b 4607182418800017408 r
  case false =>
    have HN := Aside0.mk (gain_no (a := a) (b := b) (r := r) (p := p) (by unfold gainOk; rw [hc]; rfl))
    rw [hc] at HC
    clear ha hb hr hp hc
    go_enter Try.func13, Try.ntmps13
    go_wp2_with (first | (go_at_call 38; refine (HC.out _).mono ?_; rintro e w' ⟨rfl, rfl⟩))
    go_ret2
    exact ⟨by rw [HN.out.1, HN.out.2]; rfl, Below.refl _ _⟩
  cases hg : goodB p
  case false =>
    have HN := Aside0.mk (gain_no (a := a) (b := b) (r := r) (p := p) (by unfold gainOk; rw [hc, hg]; rfl))
    rw [hc] at HC
    rw [hg] at HG
    clear ha hb hr hp hc hg
    go_enter Try.func13, Try.ntmps13
    go_wp2_with (first | (go_at_call 38; refine (HC.out _).mono ?_; rintro e w' ⟨rfl, rfl⟩) | (go_at_call 39; refine (HG.out _).mono ?_; rintro e w' ⟨rfl, rfl⟩))
    go_ret2
    exact ⟨by rw [HN.out.1, HN.out.2]; rfl, Below.refl _ _⟩
  have hgg := cost_good hc
  have LA := Aside0.mk (like_good ha hgg.1)
  have LB := Aside0.mk (like_good hb hgg.2.1)
  have LR := Aside0.mk (like_good hr hgg.2.2.2.1)
  have LP := Aside0.mk (like_good hp hg)
  have HE := Aside0.mk (fun hz x hx f hf => gain_end (a := a) (b := b) (r := r) (p := p) (x := x) hc hg hz hx (f := f) hf)
  have HZ := Aside0.mk (fun hz : zeroB (gainD b r p) = true => gain_no (a := a) (b := b) (r := r) (p := p) (by unfold gainOk; rw [hc, hg, hz]; rfl))
  rw [hc] at HC
  rw [hg] at HG
  clear hgg ha hb hr hp hc hg
  go_enter Try.func13, Try.ntmps13
  go_wp2_with (first | (go_at_call 38; refine (HC.out _).mono ?_; rintro e w' ⟨rfl, rfl⟩) | (go_at_call 39; refine (HG.out _).mono ?_; rintro e w' ⟨rfl, rfl⟩))
  have HS0 : Aside0 (St (w.alloc (.cells #[.bool false] 49 (0, 0))) w.heap.size false) := ⟨blk_new _ _⟩
  go_at_call 41
  refine (mulL _ (by exact HS0.out) LB.out LB.out).mono ?_
  rintro e w1 ⟨x1, rfl, l1, s1, k1⟩
  have L1 := Aside0.mk l1
  have S1 := Aside0.mk s1
  have K1 := Aside0.mk (Kp.fresh (below_alloc (Below.refl _ _) _) (Nat.le_refl _) k1)
  clear l1 s1 k1
  go_wp2_with fail
  go_at_call 41
  refine (mulL _ (by exact S1.out) L1.out LP.out).mono ?_
  rintro e w2 ⟨x2, rfl, l2, s2, k2⟩
  have L2 := Aside0.mk l2
  have S2 := Aside0.mk s2
  have K2 := Aside0.mk (Kp.fresh K1.out (Nat.le_refl _) k2)
  clear l2 s2 k2
  go_wp2_with fail
  go_at_call 40
  refine (addL _ (by exact S2.out) LR.out L2.out).mono ?_
  rintro e w3 ⟨x3, rfl, l3, s3, k3⟩
  have L3 := Aside0.mk l3
  have S3 := Aside0.mk s3
  have K3 := Aside0.mk (Kp.fresh K2.out (Nat.le_refl _) k3)
  clear l3 s3 k3
  have hz := order_like L3.out
  cases hzz : zeroB (gainD b r p)
  case true =>
    rw [show zeroB (fop .add r (fop .mul (fop .mul b b) p)) = true from hzz] at hz
    have HN := Aside0.mk (HZ.out hzz)
    clear hzz
    go_wp2_with fail
    go_ret2
    exact ⟨by rw [HN.out.1, HN.out.2]; rfl, K3.out⟩
  rw [show zeroB (fop .add r (fop .mul (fop .mul b b) p)) = false from hzz] at hz
  have HZZ := Aside0.mk hzz
  clear hzz
  go_wp2_with fail
  go_at_call 41
  refine (mulL _ (by exact S3.out) LA.out LB.out).mono ?_
  rintro e w4 ⟨x4, rfl, l4, s4, k4⟩
  have L4 := Aside0.mk l4
  have S4 := Aside0.mk s4
  have K4 := Aside0.mk (Kp.fresh K3.out (Nat.le_refl _) k4)
  clear l4 s4 k4
  go_wp2_with fail
  go_at_call 41
  refine (mulL _ (by exact S4.out) L4.out LP.out).mono ?_
  rintro e w5 ⟨x5, rfl, l5, s5, k5⟩
  have L5 := Aside0.mk l5
  have S5 := Aside0.mk s5
  have K5 := Aside0.mk (Kp.fresh K4.out (Nat.le_refl _) k5)
  clear l5 s5 k5
  go_wp2_with fail
  go_at_call 43
  refine (divL _ (by exact S5.out) L5.out L3.out HZZ.out).mono ?_
  rintro e w6 ⟨x6, rfl, l6, s6, k6⟩
  have L6 := Aside0.mk l6
  have S6 := Aside0.mk s6
  have K6 := Aside0.mk (Kp.fresh K5.out (Nat.le_refl _) k6)
  clear l6 s6 k6
  obtain ⟨f, S7, HF⟩ : ∃ f, Aside0 (St w6 w.heap.size f) ∧ Aside0 ((if f then 0 else x6) = gainR a b r p ∧ (!f) = gainB a b r p) := ⟨_, S6, ⟨HE.out HZZ.out x6 L6.out _ rfl⟩⟩
  clear S6
  cases f <;> (
    go_wp2_with (go_at_call 42; refine (end_ _ _ _ _ (by exact S7.out)).mono ?_; rintro e w' ⟨rfl, rfl⟩)
    go_ret2
    exact ⟨by rw [← HF.out.1, ← HF.out.2]; rfl, K6.out⟩)
end Go.Proofs.Ytdcnlghcdmiciaa.Fl
