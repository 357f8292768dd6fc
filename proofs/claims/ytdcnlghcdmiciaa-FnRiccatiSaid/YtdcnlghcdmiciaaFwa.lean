/-
Own text: MissReal, in the program and in the reference.
-/
import Derived.Test.YtdcnlghcdmiciaaFw9
import Derived.Test.YtdcnlghcdmiciaaFsame
namespace Go.Proofs.Ytdcnlghcdmiciaa.Fl
open Go Ieee Go.RowKit Go.Proofs.YtdcnlghcdmiciaaW.PrintWords
set_option linter.unusedVariables false
set_option linter.unusedSimpArgs false
def missOk (a b q r p : Nat) : Bool := costB a b q r && goodB p && rndOk a b q r p
def missR (a b q r p : Nat) : Nat := if missOk a b q r p then told (fop .sub (rndR a b q r p) p) else 0
def missB (a b q r p : Nat) : Bool := missOk a b q r p && finB (fop .sub (rndR a b q r p) p)
theorem miss_no {a b q r p : Nat} (h : missOk a b q r p = false) : missR a b q r p = 0 ∧ missB a b q r p = false := by unfold missR missB; rw [h]; exact ⟨rfl, rfl⟩
theorem miss_yes {a b q r p : Nat} (h : missOk a b q r p = true) : missR a b q r p = told (fop .sub (rndR a b q r p) p) ∧ missB a b q r p = finB (fop .sub (rndR a b q r p) p) := by unfold missR missB; rw [h]; exact ⟨rfl, rfl⟩
theorem rndR_lt (a b q r p : Nat) : rndR a b q r p < 18446744073709551616 := by
  unfold rndR
  split
  · exact plus_lt (fop_lt _ _ _)
  · decide
theorem told_plus {x y : Nat} (h : plusC x = plusC y) : told x = told y := by unfold told; rw [plus_fin h, h]
section
attribute [local go_sem] run_fadd run_fsub run_fmul run_fdiv order_fv fop_fv_l fop_fv_r fin_fv told_fv
set_option maxHeartbeats 2000000 in
set_option maxRecDepth 100000 in
theorem spec_MissReal (a b q r p : Nat) (ha : a < 18446744073709551616) (hb : b < 18446744073709551616) (hq : q < 18446744073709551616) (hr : r < 18446744073709551616) (hp : p < 18446744073709551616) (w : World) :
    Calls Try.prog 15 #[.float .f64 a, .float .f64 b, .float .f64 q, .float .f64 r, .float .f64 p] w fun e w' => e = .returned (.tuple #[.float .f64 (missR a b q r p), .bool (missB a b q r p)]) ∧ ∃ n, w' = w.drewN n := by
  have HC := Aside0.mk (l15Reals a b q r ha hb hq hr)
  have HG := Aside0.mk (spec_GoodReal p hp)
  have HX := Aside0.mk (l15Round a b q r p)
  have HN := Aside0.mk (miss_no (a := a) (b := b) (q := q) (r := r) (p := p))
  have HY := Aside0.mk (miss_yes (a := a) (b := b) (q := q) (r := r) (p := p))
  have HO : Aside0 (missOk a b q r p = (costB a b q r && goodB p && rndOk a b q r p)) := ⟨rfl⟩
  generalize missOk a b q r p = ok at *
  generalize missR a b q r p = R at *
  generalize missB a b q r p = B at *
  generalize costB a b q r = x1 at *
  generalize goodB p = x2 at *
  generalize rndOk a b q r p = x3 at *
  generalize rndR a b q r p = s at *
  clear ha hb hq hr hp
  cases x1
  case false =>
    have HN2 := Aside0.mk (HN.out HO.out)
    clear HN HY
    go_enter Try.func15, Try.ntmps15
    go_wp2_with (first | (go_at_call 34; refine (HC.out _).mono ?_; rintro e w' ⟨rfl, rfl⟩))
    go_ret2
    exact ⟨by rw [HN2.out.1, HN2.out.2]; rfl, 0, rfl⟩
  cases x2
  case false =>
    have HN2 := Aside0.mk (HN.out HO.out)
    clear HN HY
    go_enter Try.func15, Try.ntmps15
    go_wp2_with (first | (go_at_call 34; refine (HC.out _).mono ?_; rintro e w' ⟨rfl, rfl⟩) | (go_at_call 35; refine (HG.out _).mono ?_; rintro e w' ⟨rfl, rfl⟩))
    go_ret2
    exact ⟨by rw [HN2.out.1, HN2.out.2]; rfl, 0, rfl⟩
  cases x3
  case false =>
    have HN2 := Aside0.mk (HN.out HO.out)
    clear HN HY
    go_enter Try.func15, Try.ntmps15
    go_wp2_with (first | (go_at_call 34; refine (HC.out _).mono ?_; rintro e w' ⟨rfl, rfl⟩) | (go_at_call 35; refine (HG.out _).mono ?_; rintro e w' ⟨rfl, rfl⟩) | (go_at_call 44; refine (HX.out _).mono ?_; rintro e w' ⟨rfl, n, rfl⟩))
    go_ret2
    exact ⟨by rw [HN2.out.1, HN2.out.2]; rfl, _, rfl⟩
  have HY2 := Aside0.mk (HY.out HO.out)
  clear HN HY
  go_enter Try.func15, Try.ntmps15
  go_wp2_with (first | (go_at_call 34; refine (HC.out _).mono ?_; rintro e w' ⟨rfl, rfl⟩) | (go_at_call 35; refine (HG.out _).mono ?_; rintro e w' ⟨rfl, rfl⟩) | (go_at_call 44; refine (HX.out _).mono ?_; rintro e w' ⟨rfl, n, rfl⟩) | (go_at_call 37; refine (l2Told _ (fv_lt _ _ _ _) _).mono ?_; rintro e w' ⟨rfl, rfl⟩))
  go_ret2
  exact ⟨by rw [HY2.out.1, HY2.out.2]; rfl, _, rfl⟩
end
set_option maxHeartbeats 2000000 in
set_option maxRecDepth 100000 in
theorem impl_MissReal (a b q r p : Nat) (ha : a < 18446744073709551616) (hb : b < 18446744073709551616) (hq : q < 18446744073709551616) (hr : r < 18446744073709551616) (hp : p < 18446744073709551616) (w : World) :
    Calls Try.prog 16 #[.float .f64 a, .float .f64 b, .float .f64 q, .float .f64 r, .float .f64 p] w fun e w' => e = .returned (.tuple #[.float .f64 (missR a b q r p), .bool (missB a b q r p)]) ∧ Below w.heap.size w w' := by
  have HC := Aside0.mk (costReals a b q r ha hb hq hr)
  have HG := Aside0.mk (impl_GoodReal p hp)
  cases hc : costB a b q r
  case false =>
    have HN := Aside0.mk (miss_no (a := a) (b := b) (q := q) (r := r) (p := p) (by unfold missOk; rw [hc]; rfl))
    rw [hc] at HC
    clear ha hb hq hr hp hc
    go_enter Try.func16, Try.ntmps16
    go_wp2_with (first | (go_at_call 38; refine (HC.out _).mono ?_; rintro e w' ⟨rfl, rfl⟩))
    go_ret2
    exact ⟨by rw [HN.out.1, HN.out.2]; rfl, Below.refl _ _⟩
  cases hg : goodB p
  case false =>
    have HN := Aside0.mk (miss_no (a := a) (b := b) (q := q) (r := r) (p := p) (by unfold missOk; rw [hc, hg]; rfl))
    rw [hc] at HC
    rw [hg] at HG
    clear ha hb hq hr hp hc hg
    go_enter Try.func16, Try.ntmps16
    go_wp2_with (first | (go_at_call 38; refine (HC.out _).mono ?_; rintro e w' ⟨rfl, rfl⟩) | (go_at_call 39; refine (HG.out _).mono ?_; rintro e w' ⟨rfl, rfl⟩))
    go_ret2
    exact ⟨by rw [HN.out.1, HN.out.2]; rfl, Below.refl _ _⟩
  have hgg := cost_good hc
  have LA := Aside0.mk (like_good ha hgg.1)
  have LB := Aside0.mk (like_good hb hgg.2.1)
  have LQ := Aside0.mk (like_good hq hgg.2.2.1)
  have LR := Aside0.mk (like_good hr hgg.2.2.2.1)
  have LP := Aside0.mk (like_good hp hg)
  have HE : Aside0 (∀ t x, Like x (fop .sub t p) → (rndOk a b q r p = true → t = rndX a b q r p) → ∀ f, f = ((false || !rndOk a b q r p) || !finB (fop .sub t p)) → (if f then 0 else x) = missR a b q r p ∧ (!f) = missB a b q r p) := ⟨fun t x hx ht f hf => by
    cases ho : rndOk a b q r p with
    | false =>
      have hn := miss_no (a := a) (b := b) (q := q) (r := r) (p := p) (by unfold missOk; rw [hc, hg, ho]; rfl)
      rw [ho] at hf
      subst hf
      exact ⟨hn.1.symm, hn.2.symm⟩
    | true =>
      have hn := miss_yes (a := a) (b := b) (q := q) (r := r) (p := p) (by unfold missOk; rw [hc, hg, ho]; rfl)
      have ht2 := ht ho
      subst ht2
      have hv : rndR a b q r p = plusC (rndX a b q r p) := by unfold rndR; rw [ho]; rfl
      have hpl : plusC (fop .sub (rndR a b q r p) p) = plusC (fop .sub (rndX a b q r p) p) := by rw [hv]; exact sub_plus_l _ _
      rw [hn.1, hn.2, told_plus hpl, plus_fin hpl]
      rw [ho] at hf
      cases h6 : finB (fop .sub (rndX a b q r p) p) with
      | false => rw [h6] at hf; subst hf; exact ⟨by unfold told; rw [h6]; rfl, rfl⟩
      | true => rw [h6] at hf; subst hf; exact ⟨like_told hx h6, rfl⟩⟩
  rw [hc] at HC
  rw [hg] at HG
  clear hgg ha hb hq hr hp hc hg
  go_enter Try.func16, Try.ntmps16
  go_wp2_with (first | (go_at_call 38; refine (HC.out _).mono ?_; rintro e w' ⟨rfl, rfl⟩) | (go_at_call 39; refine (HG.out _).mono ?_; rintro e w' ⟨rfl, rfl⟩))
  have HS0 : Aside0 (St (w.alloc (.cells #[.bool false] 49 (0, 0))) w.heap.size false) := ⟨blk_new _ _⟩
  go_at_call 46
  refine (roundL _ (by exact HS0.out) LA.out LB.out LQ.out LR.out LP.out).mono ?_
  rintro e w1 ⟨x1, t, rfl, l1, ht, s1, k1⟩
  have L1 := Aside0.mk l1
  have HT := Aside0.mk ht
  have S1 := Aside0.mk s1
  have K1 := Aside0.mk (Kp.fresh (below_alloc (Below.refl _ _) _) (Nat.le_refl _) k1)
  clear l1 s1 k1 ht
  go_wp2_with fail
  go_at_call 45
  refine (subL _ (by exact S1.out) L1.out LP.out).mono ?_
  rintro e w2 ⟨x2, rfl, l2, s2, k2⟩
  have L2 := Aside0.mk l2
  have S2 := Aside0.mk s2
  have K2 := Aside0.mk (Kp.fresh K1.out (Nat.le_refl _) k2)
  clear l2 s2 k2
  obtain ⟨f, S7, HF⟩ : ∃ f, Aside0 (St w2 w.heap.size f) ∧ Aside0 ((if f then 0 else x2) = missR a b q r p ∧ (!f) = missB a b q r p) := ⟨_, S2, ⟨HE.out t x2 L2.out HT.out _ rfl⟩⟩
  clear S2 HE
  cases f <;> (
    go_wp2_with (go_at_call 42; refine (end_ _ _ _ _ (by exact S7.out)).mono ?_; rintro e w' ⟨rfl, rfl⟩)
    go_ret2
    exact ⟨by rw [← HF.out.1, ← HF.out.2]; rfl, K2.out⟩)
theorem missR_lt (a b q r p : Nat) : missR a b q r p < 18446744073709551616 := by
  unfold missR
  split
  · unfold told
    split
    · exact plus_lt (fop_lt _ _ _)
    · decide
  · decide
set_option maxHeartbeats 1000000 in
set_option maxRecDepth 100000 in
theorem law_MissReal (a b q r p : Nat) (ha : a < 18446744073709551616) (hb : b < 18446744073709551616) (hq : q < 18446744073709551616) (hr : r < 18446744073709551616) (hp : p < 18446744073709551616) (w : World) :
    Calls Try.prog 4 #[.float .f64 a, .float .f64 b, .float .f64 q, .float .f64 r, .float .f64 p] w fun e w' => e = .returned (.bool true) ∧ Below w.heap.size w w' := by
  have H1 := Aside0.mk (spec_MissReal a b q r p ha hb hq hr hp)
  have H2 := Aside0.mk (impl_MissReal a b q r p ha hb hq hr hp)
  have H3 := Aside0.mk (sameFloat (missR a b q r p) (missR_lt a b q r p))
  clear ha hb hq hr hp
  generalize missR a b q r p = R at *
  generalize missB a b q r p = B at *
  cases B <;> (
    go_enter Try.func4, Try.ntmps4
    go_wp2_with (first | (go_at_call 15; refine (H1.out _).mono ?_; rintro e w' ⟨rfl, n, rfl⟩) | (go_at_call 16; refine (H2.out _).mono ?_; rintro e w1 ⟨rfl, hb⟩; have K1 := Aside0.mk (below_step (pw_below_drewN (Below.refl w.heap.size w) n) hb); clear hb) | (go_at_call 14; refine (H3.out _).mono ?_; rintro e w' ⟨rfl, n2, rfl⟩))
    go_ret
    exact ⟨rfl, pw_below_drewN K1.out _⟩)
end Go.Proofs.Ytdcnlghcdmiciaa.Fl
