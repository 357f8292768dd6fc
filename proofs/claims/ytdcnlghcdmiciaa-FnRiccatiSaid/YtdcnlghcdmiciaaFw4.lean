/-
Own text: the walks of GainReal, MissReal and of a round.
-/
import Derived.Test.YtdcnlghcdmiciaaFw3
namespace Go.Proofs.Ytdcnlghcdmiciaa.Fl
open Go Ieee Go.RowKit Go.Proofs.YtdcnlghcdmiciaaW.PrintWords
set_option linter.unusedVariables false
set_option linter.unusedSimpArgs false
theorem zero_ab (x : Nat) : zeroB (ab x) = zeroB x := by
  by_cases h : nanB x = true
  · have hz : zeroB x = false := by
      have := fin_of_nan h
      cases hz : zeroB x with
      | false => rfl
      | true => rw [fin_zero hz] at this; cases this
    rw [hz]; unfold ab; rw [if_pos h]; decide
  · rw [ab_of (by simpa using h)]
theorem order_fv (op : BinOp) (w : World) (x y : Nat) : (FloatKind.f64.format.order (fv op w x y) 0 == some Ordering.eq) = zeroB (fop op x y) := by
  rw [show (FloatKind.f64.format.order (fv op w x y) 0 == some Ordering.eq) = (D.order (fv op w x y) 0 == some Ordering.eq) from rfl, order_zero (fv_lt _ _ _ _), ← zero_ab, fv_ab]
theorem fop_fv_l (op o : BinOp) (w : World) (x z y : Nat) : fop op (fv o w x z) y = fop op (fop o x z) y := by rw [← fop_ab_l, fv_ab]
theorem fop_fv_r (op o : BinOp) (w : World) (x z y : Nat) : fop op y (fv o w x z) = fop op y (fop o x z) := by rw [← fop_ab_r, fv_ab]
theorem told_fv (op : BinOp) (w : World) (x y : Nat) : told (fv op w x y) = told (fop op x y) := by
  unfold told
  rw [fin_fv]
  cases h : finB (fop op x y) with
  | false => rfl
  | true =>
    have hn : nanB (fv op w x y) = false := by
      cases hn : nanB (fv op w x y) with
      | false => rfl
      | true => have := fin_of_nan hn; rw [fin_fv, h] at this; cases this
    rw [show fv op w x y = fop op x y from (ab_of hn).symm.trans (fv_ab _ _ _ _)]
attribute [local go_sem] run_fadd run_fsub run_fmul run_fdiv order_fv fop_fv_l fop_fv_r fin_fv told_fv
def gainD (b r p : Nat) : Nat := fop .add r (fop .mul (fop .mul b b) p)
def gainN (a b p : Nat) : Nat := fop .mul (fop .mul a b) p
def gainOk (a b r p : Nat) : Bool := costB a b 4607182418800017408 r && goodB p && !zeroB (gainD b r p) && finB (gainD b r p) && finB (gainN a b p)
def gainR (a b r p : Nat) : Nat := if gainOk a b r p then told (fop .quo (gainN a b p) (gainD b r p)) else 0
def gainB (a b r p : Nat) : Bool := gainOk a b r p && finB (fop .quo (gainN a b p) (gainD b r p))
set_option maxHeartbeats 2000000 in
set_option maxRecDepth 100000 in
theorem spec_GainReal (a b r p : Nat) (ha : a < 18446744073709551616) (hb : b < 18446744073709551616) (hr : r < 18446744073709551616) (hp : p < 18446744073709551616) (w : World) :
    Calls Try.prog 12 #[.float .f64 a, .float .f64 b, .float .f64 r, .float .f64 p] w fun e w' => e = .returned (.tuple #[.float .f64 (gainR a b r p), .bool (gainB a b r p)]) ∧ ∃ n, w' = w.drewN n := by
  have HC := Aside0.mk (l15Reals a b 4607182418800017408 r ha hb (by decide) hr)
  have HG := Aside0.mk (spec_GoodReal p hp)
  have HR : Aside0 (gainR a b r p = if gainOk a b r p then told (fop .quo (gainN a b p) (gainD b r p)) else 0) := ⟨rfl⟩
  have HB : Aside0 (gainB a b r p = (gainOk a b r p && finB (fop .quo (gainN a b p) (gainD b r p)))) := ⟨rfl⟩
  have HO : Aside0 (gainOk a b r p = (costB a b 4607182418800017408 r && goodB p && !zeroB (gainD b r p) && finB (gainD b r p) && finB (gainN a b p))) := ⟨rfl⟩
  have hD : fop .add r (fop .mul (fop .mul b b) p) = gainD b r p := rfl
  have hN : fop .mul (fop .mul a b) p = gainN a b p := rfl
  generalize gainR a b r p = R at *
  generalize gainB a b r p = B at *
  generalize gainOk a b r p = ok at *
  generalize costB a b 4607182418800017408 r = x1 at *
  generalize goodB p = x2 at *
  clear ha hb hr hp
  generalize gainD b r p = d at *
  generalize gainN a b p = n at *
  cases x1
  · go_enter Try.func12, Try.ntmps12
    go_wp2_with (first | (go_at_call 34; refine (HC.out _).mono ?_; rintro e w' ⟨rfl, rfl⟩))
    go_ret2
    exact ⟨by rw [HB.out, HR.out, HO.out]; rfl, 0, rfl⟩
  cases x2
  · go_enter Try.func12, Try.ntmps12
    go_wp2_with (first | (go_at_call 34; refine (HC.out _).mono ?_; rintro e w' ⟨rfl, rfl⟩) | (go_at_call 35; refine (HG.out _).mono ?_; rintro e w' ⟨rfl, rfl⟩))
    go_ret2
    exact ⟨by rw [HB.out, HR.out, HO.out]; rfl, 0, rfl⟩
  cases hz : zeroB d
  case true =>
    go_enter Try.func12, Try.ntmps12
    go_wp2_with (first | (go_at_call 34; refine (HC.out _).mono ?_; rintro e w' ⟨rfl, rfl⟩) | (go_at_call 35; refine (HG.out _).mono ?_; rintro e w' ⟨rfl, rfl⟩) | (go_at_call 36; refine (l2Finite _ (fv_lt _ _ _ _) _).mono ?_; rintro e w' ⟨rfl, rfl⟩) | (go_at_call 37; refine (l2Told _ (fv_lt _ _ _ _) _).mono ?_; rintro e w' ⟨rfl, rfl⟩))
    go_ret2
    exact ⟨by rw [HB.out, HR.out, HO.out, hz]; rfl, _, rfl⟩
  cases hfd : finB d
  case false =>
    go_enter Try.func12, Try.ntmps12
    go_wp2_with (first | (go_at_call 34; refine (HC.out _).mono ?_; rintro e w' ⟨rfl, rfl⟩) | (go_at_call 35; refine (HG.out _).mono ?_; rintro e w' ⟨rfl, rfl⟩) | (go_at_call 36; refine (l2Finite _ (fv_lt _ _ _ _) _).mono ?_; rintro e w' ⟨rfl, rfl⟩) | (go_at_call 37; refine (l2Told _ (fv_lt _ _ _ _) _).mono ?_; rintro e w' ⟨rfl, rfl⟩))
    go_ret2
    exact ⟨by rw [HB.out, HR.out, HO.out, hz, hfd]; rfl, _, rfl⟩
  cases hfn : finB n
  case false =>
    go_enter Try.func12, Try.ntmps12
    go_wp2_with (first | (go_at_call 34; refine (HC.out _).mono ?_; rintro e w' ⟨rfl, rfl⟩) | (go_at_call 35; refine (HG.out _).mono ?_; rintro e w' ⟨rfl, rfl⟩) | (go_at_call 36; refine (l2Finite _ (fv_lt _ _ _ _) _).mono ?_; rintro e w' ⟨rfl, rfl⟩) | (go_at_call 37; refine (l2Told _ (fv_lt _ _ _ _) _).mono ?_; rintro e w' ⟨rfl, rfl⟩))
    go_ret2
    exact ⟨by rw [HB.out, HR.out, HO.out, hz, hfd, hfn]; rfl, _, rfl⟩
  have HR2 : Aside0 (R = told (fop .quo n d)) := ⟨by rw [HR.out, HO.out, hz, hfd, hfn]; rfl⟩
  have HB2 : Aside0 (B = finB (fop .quo n d)) := ⟨by rw [HB.out, HO.out, hz, hfd, hfn]; rfl⟩
  clear HO HR HB
  go_enter Try.func12, Try.ntmps12
  go_wp2_with (first | (go_at_call 34; refine (HC.out _).mono ?_; rintro e w' ⟨rfl, rfl⟩) | (go_at_call 35; refine (HG.out _).mono ?_; rintro e w' ⟨rfl, rfl⟩) | (go_at_call 36; refine (l2Finite _ (fv_lt _ _ _ _) _).mono ?_; rintro e w' ⟨rfl, rfl⟩) | (go_at_call 37; refine (l2Told _ (fv_lt _ _ _ _) _).mono ?_; rintro e w' ⟨rfl, rfl⟩))
  go_ret2
  exact ⟨by rw [HB2.out, HR2.out]; rfl, _, rfl⟩
end Go.Proofs.Ytdcnlghcdmiciaa.Fl
