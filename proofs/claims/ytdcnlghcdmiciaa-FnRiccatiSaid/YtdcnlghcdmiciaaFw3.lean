/-
Own text: the walks of the tests on floats.
-/
import Derived.Test.YtdcnlghcdmiciaaFw2
namespace Go.Proofs.Ytdcnlghcdmiciaa.Fl
open Go Ieee Go.RowKit Go.Proofs.YtdcnlghcdmiciaaW.PrintWords
set_option linter.unusedVariables false
set_option linter.unusedSimpArgs false
attribute [local go_sem] run_fadd run_fsub run_fmul run_fdiv
theorem good_of (x : Nat) : goodB x = ((!nanB x && !infB x) && !(zeroB x && decide (9223372036854775808 ≤ x))) := by unfold goodB; rw [fin_eq]
set_option maxRecDepth 100000 in
theorem spec_GoodReal (x : Nat) (hx : x < 18446744073709551616) (w : World) : Calls Try.prog 35 #[.float .f64 x] w fun e w' => e = .returned (.bool (goodB x)) ∧ w = w' := by
  have HN := Aside0.mk (isNaN x)
  have HI := Aside0.mk (isInf x hx)
  have HS := Aside0.mk (signbit x hx)
  have hz : (FloatKind.f64.format.order x 0 == some Ordering.eq) = zeroB x := order_zero hx
  have HG := Aside0.mk (good_of x)
  clear hx
  generalize goodB x = g at *
  generalize nanB x = f at *
  generalize infB x = f2 at *
  generalize zeroB x = b at *
  generalize decide (9223372036854775808 ≤ x) = c at *
  obtain rfl := HG.out
  cases f <;> cases f2 <;> cases b <;> cases c <;> (
    go_enter Try.func35, Try.ntmps35
    go_wp2_with (first | (go_at_call 71; refine (HN.out _).mono ?_; rintro e w' ⟨rfl, rfl⟩) | (go_at_call 72; refine (HI.out _).mono ?_; rintro e w' ⟨rfl, rfl⟩) | (go_at_call 73; refine (HS.out _).mono ?_; rintro e w' ⟨rfl, rfl⟩))
    go_ret
    exact ⟨rfl, rfl⟩)
set_option maxRecDepth 100000 in
theorem l2Finite (x : Nat) (hx : x < 18446744073709551616) (w : World) : Calls Try.prog 36 #[.float .f64 x] w fun e w' => e = .returned (.bool (finB x)) ∧ w = w' := by
  have HN := Aside0.mk (isNaN x)
  have HI := Aside0.mk (isInf x hx)
  have HF := Aside0.mk (fin_eq x)
  clear hx
  generalize finB x = f at *
  generalize nanB x = b at *
  generalize infB x = c at *
  obtain rfl := HF.out
  cases b <;> cases c <;> (
    go_enter Try.func36, Try.ntmps36
    go_wp2_with (first | (go_at_call 71; refine (HN.out _).mono ?_; rintro e w' ⟨rfl, rfl⟩) | (go_at_call 72; refine (HI.out _).mono ?_; rintro e w' ⟨rfl, rfl⟩))
    go_ret
    exact ⟨rfl, rfl⟩)
theorem l2Plain (x : Nat) (hx : x < 18446744073709551616) (w : World) : Calls Try.prog 61 #[.float .f64 x] w fun e w' => e = .returned (.float .f64 (plusC x)) ∧ w = w' := by
  have hz : (FloatKind.f64.format.order x 0 == some Ordering.eq) = zeroB x := order_zero hx
  have HP : Aside0 (plusC x = if zeroB x then 0 else x) := ⟨rfl⟩
  clear hx
  cases h : zeroB x
  · rw [h] at hz HP
    go_enter Try.func61, Try.ntmps61
    go_wp2
    go_ret
    exact ⟨by rw [HP.out]; rfl, rfl⟩
  · rw [h] at hz HP
    go_enter Try.func61, Try.ntmps61
    go_wp2
    go_ret
    exact ⟨by rw [HP.out]; rfl, rfl⟩
/-- What a reckoning tells of its result. -/
def told (s : Nat) : Nat := if finB s then plusC s else 0
theorem l2Told (x : Nat) (hx : x < 18446744073709551616) (w : World) : Calls Try.prog 37 #[.float .f64 x] w fun e w' => e = .returned (.tuple #[.float .f64 (told x), .bool (finB x)]) ∧ w = w' := by
  have HF := Aside0.mk (l2Finite x hx)
  have HP := Aside0.mk (l2Plain x hx)
  have HT : Aside0 (told x = if finB x then plusC x else 0) := ⟨rfl⟩
  clear hx
  generalize finB x = f at *
  cases f <;> (
    go_enter Try.func37, Try.ntmps37
    go_wp2_with (first | (go_at_call 36; refine (HF.out _).mono ?_; rintro e w' ⟨rfl, rfl⟩) | (go_at_call 61; refine (HP.out _).mono ?_; rintro e w' ⟨rfl, rfl⟩))
    go_ret2
    exact ⟨by rw [HT.out]; rfl, rfl⟩)
/-- What a cost of floats asks. -/
def posB (x : Nat) : Bool := D.order x 0 == some .gt
def costB (a b q r : Nat) : Bool := goodB a && goodB b && goodB q && goodB r && !zeroB b && posB q && posB r
theorem neq_zero {x : Nat} (hx : x < 18446744073709551616) : (FloatKind.f64.format.order x 0 != some Ordering.eq) = !zeroB x := by
  rw [show (FloatKind.f64.format.order x 0 != some Ordering.eq) = !(D.order x 0 == some Ordering.eq) from rfl, order_zero hx]
set_option maxHeartbeats 2000000 in
set_option maxRecDepth 100000 in
theorem l15Reals (a b q r : Nat) (ha : a < 18446744073709551616) (hb : b < 18446744073709551616) (hq : q < 18446744073709551616) (hr : r < 18446744073709551616) (w : World) : Calls Try.prog 34 #[.float .f64 a, .float .f64 b, .float .f64 q, .float .f64 r] w fun e w' => e = .returned (.bool (costB a b q r)) ∧ w = w' := by
  have HA := Aside0.mk (spec_GoodReal a ha)
  have HB := Aside0.mk (spec_GoodReal b hb)
  have HQ := Aside0.mk (spec_GoodReal q hq)
  have HR := Aside0.mk (spec_GoodReal r hr)
  have h1 := neq_zero hb
  have h2 : (FloatKind.f64.format.order q 0 == some Ordering.gt) = posB q := rfl
  have h3 : (FloatKind.f64.format.order r 0 == some Ordering.gt) = posB r := rfl
  have HC : Aside0 (costB a b q r = (goodB a && goodB b && goodB q && goodB r && !zeroB b && posB q && posB r)) := ⟨rfl⟩
  clear ha hb hq hr
  generalize costB a b q r = c at *
  generalize goodB a = x1 at *
  generalize goodB b = x2 at *
  generalize goodB q = x3 at *
  generalize goodB r = x4 at *
  generalize zeroB b = x5 at *
  generalize posB q = x6 at *
  generalize posB r = x7 at *
  obtain rfl := HC.out
  cases x1
  · go_enter Try.func34, Try.ntmps34
    go_wp2_with (go_at_call 35; (first | (with_reducible refine (HA.out _).mono ?_) | (with_reducible refine (HB.out _).mono ?_) | (with_reducible refine (HQ.out _).mono ?_) | (with_reducible refine (HR.out _).mono ?_)); rintro e w' ⟨rfl, rfl⟩)
    go_ret
    exact ⟨by simp, rfl⟩
  case true =>
    cases x2
    · go_enter Try.func34, Try.ntmps34
      go_wp2_with (go_at_call 35; (first | (with_reducible refine (HA.out _).mono ?_) | (with_reducible refine (HB.out _).mono ?_) | (with_reducible refine (HQ.out _).mono ?_) | (with_reducible refine (HR.out _).mono ?_)); rintro e w' ⟨rfl, rfl⟩)
      go_ret
      exact ⟨by simp, rfl⟩
    case true =>
      cases x3
      · go_enter Try.func34, Try.ntmps34
        go_wp2_with (go_at_call 35; (first | (with_reducible refine (HA.out _).mono ?_) | (with_reducible refine (HB.out _).mono ?_) | (with_reducible refine (HQ.out _).mono ?_) | (with_reducible refine (HR.out _).mono ?_)); rintro e w' ⟨rfl, rfl⟩)
        go_ret
        exact ⟨by simp, rfl⟩
      case true =>
        cases x4
        · go_enter Try.func34, Try.ntmps34
          go_wp2_with (go_at_call 35; (first | (with_reducible refine (HA.out _).mono ?_) | (with_reducible refine (HB.out _).mono ?_) | (with_reducible refine (HQ.out _).mono ?_) | (with_reducible refine (HR.out _).mono ?_)); rintro e w' ⟨rfl, rfl⟩)
          go_ret
          exact ⟨by simp, rfl⟩
        case true =>
          cases x5
          case true =>
            go_enter Try.func34, Try.ntmps34
            go_wp2_with (go_at_call 35; (first | (with_reducible refine (HA.out _).mono ?_) | (with_reducible refine (HB.out _).mono ?_) | (with_reducible refine (HQ.out _).mono ?_) | (with_reducible refine (HR.out _).mono ?_)); rintro e w' ⟨rfl, rfl⟩)
            go_ret
            exact ⟨by simp, rfl⟩
          case false =>
            cases x6
            · go_enter Try.func34, Try.ntmps34
              go_wp2_with (go_at_call 35; (first | (with_reducible refine (HA.out _).mono ?_) | (with_reducible refine (HB.out _).mono ?_) | (with_reducible refine (HQ.out _).mono ?_) | (with_reducible refine (HR.out _).mono ?_)); rintro e w' ⟨rfl, rfl⟩)
              go_ret
              exact ⟨by simp, rfl⟩
            case true =>
              cases x7
              · go_enter Try.func34, Try.ntmps34
                go_wp2_with (go_at_call 35; (first | (with_reducible refine (HA.out _).mono ?_) | (with_reducible refine (HB.out _).mono ?_) | (with_reducible refine (HQ.out _).mono ?_) | (with_reducible refine (HR.out _).mono ?_)); rintro e w' ⟨rfl, rfl⟩)
                go_ret
                exact ⟨by simp, rfl⟩
              · go_enter Try.func34, Try.ntmps34
                go_wp2_with (go_at_call 35; (first | (with_reducible refine (HA.out _).mono ?_) | (with_reducible refine (HB.out _).mono ?_) | (with_reducible refine (HQ.out _).mono ?_) | (with_reducible refine (HR.out _).mono ?_)); rintro e w' ⟨rfl, rfl⟩)
                go_ret
                exact ⟨by simp, rfl⟩
set_option maxHeartbeats 2000000 in
set_option maxRecDepth 100000 in
theorem costReals (a b q r : Nat) (ha : a < 18446744073709551616) (hb : b < 18446744073709551616) (hq : q < 18446744073709551616) (hr : r < 18446744073709551616) (w : World) : Calls Try.prog 38 #[.float .f64 a, .float .f64 b, .float .f64 q, .float .f64 r] w fun e w' => e = .returned (.bool (costB a b q r)) ∧ w = w' := by
  have HA := Aside0.mk (impl_GoodReal a ha)
  have HB := Aside0.mk (impl_GoodReal b hb)
  have HQ := Aside0.mk (impl_GoodReal q hq)
  have HR := Aside0.mk (impl_GoodReal r hr)
  have h1 := neq_zero hb
  have h2 : (FloatKind.f64.format.order q 0 == some Ordering.gt) = posB q := rfl
  have h3 : (FloatKind.f64.format.order r 0 == some Ordering.gt) = posB r := rfl
  have HC : Aside0 (costB a b q r = (goodB a && goodB b && goodB q && goodB r && !zeroB b && posB q && posB r)) := ⟨rfl⟩
  clear ha hb hq hr
  generalize costB a b q r = c at *
  generalize goodB a = x1 at *
  generalize goodB b = x2 at *
  generalize goodB q = x3 at *
  generalize goodB r = x4 at *
  generalize zeroB b = x5 at *
  generalize posB q = x6 at *
  generalize posB r = x7 at *
  obtain rfl := HC.out
  cases x1
  · go_enter Try.func38, Try.ntmps38
    go_wp2_with (go_at_call 39; (first | (with_reducible refine (HA.out _).mono ?_) | (with_reducible refine (HB.out _).mono ?_) | (with_reducible refine (HQ.out _).mono ?_) | (with_reducible refine (HR.out _).mono ?_)); rintro e w' ⟨rfl, rfl⟩)
    go_ret
    exact ⟨by simp, rfl⟩
  case true =>
    cases x2
    · go_enter Try.func38, Try.ntmps38
      go_wp2_with (go_at_call 39; (first | (with_reducible refine (HA.out _).mono ?_) | (with_reducible refine (HB.out _).mono ?_) | (with_reducible refine (HQ.out _).mono ?_) | (with_reducible refine (HR.out _).mono ?_)); rintro e w' ⟨rfl, rfl⟩)
      go_ret
      exact ⟨by simp, rfl⟩
    case true =>
      cases x3
      · go_enter Try.func38, Try.ntmps38
        go_wp2_with (go_at_call 39; (first | (with_reducible refine (HA.out _).mono ?_) | (with_reducible refine (HB.out _).mono ?_) | (with_reducible refine (HQ.out _).mono ?_) | (with_reducible refine (HR.out _).mono ?_)); rintro e w' ⟨rfl, rfl⟩)
        go_ret
        exact ⟨by simp, rfl⟩
      case true =>
        cases x4
        · go_enter Try.func38, Try.ntmps38
          go_wp2_with (go_at_call 39; (first | (with_reducible refine (HA.out _).mono ?_) | (with_reducible refine (HB.out _).mono ?_) | (with_reducible refine (HQ.out _).mono ?_) | (with_reducible refine (HR.out _).mono ?_)); rintro e w' ⟨rfl, rfl⟩)
          go_ret
          exact ⟨by simp, rfl⟩
        case true =>
          cases x6
          · go_enter Try.func38, Try.ntmps38
            go_wp2_with (go_at_call 39; (first | (with_reducible refine (HA.out _).mono ?_) | (with_reducible refine (HB.out _).mono ?_) | (with_reducible refine (HQ.out _).mono ?_) | (with_reducible refine (HR.out _).mono ?_)); rintro e w' ⟨rfl, rfl⟩)
            go_ret
            exact ⟨by simp, rfl⟩
          case true =>
            cases x7
            · go_enter Try.func38, Try.ntmps38
              go_wp2_with (go_at_call 39; (first | (with_reducible refine (HA.out _).mono ?_) | (with_reducible refine (HB.out _).mono ?_) | (with_reducible refine (HQ.out _).mono ?_) | (with_reducible refine (HR.out _).mono ?_)); rintro e w' ⟨rfl, rfl⟩)
              go_ret
              exact ⟨by simp, rfl⟩
            case true =>
              cases x5
              · go_enter Try.func38, Try.ntmps38
                go_wp2_with (go_at_call 39; (first | (with_reducible refine (HA.out _).mono ?_) | (with_reducible refine (HB.out _).mono ?_) | (with_reducible refine (HQ.out _).mono ?_) | (with_reducible refine (HR.out _).mono ?_)); rintro e w' ⟨rfl, rfl⟩)
                go_ret
                exact ⟨by simp, rfl⟩
              · go_enter Try.func38, Try.ntmps38
                go_wp2_with (go_at_call 39; (first | (with_reducible refine (HA.out _).mono ?_) | (with_reducible refine (HB.out _).mono ?_) | (with_reducible refine (HQ.out _).mono ?_) | (with_reducible refine (HR.out _).mono ?_)); rintro e w' ⟨rfl, rfl⟩)
                go_ret
                exact ⟨by simp, rfl⟩
end Go.Proofs.Ytdcnlghcdmiciaa.Fl
