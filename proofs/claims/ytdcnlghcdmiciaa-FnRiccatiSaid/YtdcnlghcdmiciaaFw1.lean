/-
Own text: the walks of the small functions on floats.
-/
import Derived.Test.YtdcnlghcdmiciaaProg
import Derived.Test.YtdcnlghcdmiciaaFlc
import Derived.Test.YtdcnlghcdmiciaaWWords
import Derived.WalkKit
import Derived.WalkLawsBesides
import Derived.Laws.Externs
import Derived.BigQuiet
import Derived.Deep.QuietTactic
import Derived.Outline
import Derived.Laws.BitsAllLaws
namespace Go.Proofs.Ytdcnlghcdmiciaa.Fl
open Go Ieee Go.RowKit Go.Proofs.YtdcnlghcdmiciaaW.PrintWords
set_option linter.unusedVariables false
set_option linter.unusedSimpArgs false
theorem bits_run (x : Nat) (w : World) : (callFunc 94 #[.float .f64 x]).run Try.prog w = .ok (.value (.int .u64 x)) w := by
  rw [run_callFunc_extern (e := Extern.MathFloatBits.float64bits) Try.func94 (by kernel_rfl) (by kernel_rfl) (by kernel_rfl) (by kernel_rfl)]; rfl
theorem frombits_run (x : Nat) (w : World) : (callFunc 78 #[.int .u64 x]).run Try.prog w = .ok (.value (.float .f64 x)) w := by
  rw [run_callFunc_extern (e := Extern.MathFloatBits.float64frombits) Try.func78 (by kernel_rfl) (by kernel_rfl) (by kernel_rfl) (by kernel_rfl)]; rfl
theorem ret_at {a b : Value} (h : a = b) : Ending.returned a = .returned b := by rw [h]
set_option maxRecDepth 100000 in
theorem isNaN (x : Nat) (w : World) : Calls Try.prog 71 #[.float .f64 x] w fun e w' => e = .returned (.bool (nanB x)) ∧ w = w' := by
  have h : (FloatKind.f64.format.order x x != some Ordering.eq) = nanB x := by
    rw [show (FloatKind.f64.format.order x x != some Ordering.eq) = !(D.order x x == some Ordering.eq) from rfl, order_self, Bool.not_not]
  go_enter Try.func71, Try.ntmps71
  go_wp2
  go_ret
  exact ⟨rfl, rfl⟩
set_option maxRecDepth 100000 in
theorem signbit (x : Nat) (hx : x < 18446744073709551616) (w : World) : Calls Try.prog 73 #[.float .f64 x] w fun e w' => e = .returned (.bool (decide (9223372036854775808 ≤ x))) ∧ w = w' := by
  have hb := bits_run x
  have HX := Aside0.mk hx
  clear hx
  go_enter Try.func73, Try.ntmps73
  go_wp2
  go_ret
  refine ⟨ret_at ?_, rfl⟩
  show Value.bool _ = Value.bool _
  have := HX.out
  congr 1
  by_cases h : 9223372036854775808 ≤ x
  · rw [decide_eq_true h]; exact decide_eq_true (by unfold wrap64; omega)
  · rw [decide_eq_false h]; exact decide_eq_false (by unfold wrap64; omega)
theorem abs_bits (x : Nat) (hx : x < 18446744073709551616) : bits .andNot .u64 (x : Int) 9223372036854775808 = ((x % 9223372036854775808 : Nat) : Int) := by
  have h := u64_andNot_nat x 9223372036854775808 hx (by decide)
  have h2 : x &&& (18446744073709551615 - 9223372036854775808) = x % 9223372036854775808 := Nat.and_two_pow_sub_one_eq_mod x 63
  rw [h2] at h
  exact h
set_option maxRecDepth 100000 in
theorem abs (x : Nat) (hx : x < 18446744073709551616) (w : World) : Calls Try.prog 93 #[.float .f64 x] w fun e w' => e = .returned (.float .f64 (x % 9223372036854775808)) ∧ w = w' := by
  have hb := bits_run x
  have hf := frombits_run (x % 9223372036854775808)
  have ha := abs_bits x hx
  clear hx
  generalize x % 9223372036854775808 = y at *
  go_enter Try.func93, Try.ntmps93
  go_wp2
  go_ret
  exact ⟨rfl, rfl⟩
/-- An infinity of either sign. -/
def infB (x : Nat) : Bool := !finB x && !nanB x
theorem inf_abs (x : Nat) : finB (x % 9223372036854775808) = finB x ∧ nanB (x % 9223372036854775808) = nanB x := by unfold finB nanB; rw [Nat.mod_mod]; exact ⟨rfl, rfl⟩
set_option maxRecDepth 100000 in
theorem isInf (x : Nat) (hx : x < 18446744073709551616) (w : World) : Calls Try.prog 72 #[.float .f64 x, .int .i64 0] w fun e w' => e = .returned (.bool (infB x)) ∧ w = w' := by
  have hm : (FloatKind.f64.format.order (x % 9223372036854775808) 9218868437227405311 == some Ordering.gt) = infB x := by
    rw [show (FloatKind.f64.format.order (x % 9223372036854775808) 9218868437227405311 == some Ordering.gt) = (D.order (x % 9223372036854775808) 9218868437227405311 == some Ordering.gt) from rfl, order_max _ (Nat.mod_lt _ (by decide)), (inf_abs x).1, (inf_abs x).2]; rfl
  have ha := abs x hx
  have HA := Aside0.mk ha
  clear ha hx
  generalize x % 9223372036854775808 = y at *
  go_enter Try.func72, Try.ntmps72
  go_wp2_with (go_at_call 93; refine (HA.out _).mono ?_; rintro e w' ⟨rfl, rfl⟩)
  go_ret
  exact ⟨rfl, rfl⟩
theorem fin_eq (x : Nat) : finB x = (!nanB x && !infB x) := by
  unfold infB
  cases h : nanB x
  · cases finB x <;> rfl
  · rw [fin_of_nan h]; rfl
set_option maxRecDepth 100000 in
theorem finite_ (x : Nat) (hx : x < 18446744073709551616) (w : World) : Calls Try.prog 74 #[.float .f64 x] w fun e w' => e = .returned (.bool (finB x)) ∧ w = w' := by
  have hn := isNaN x
  have hi := isInf x hx
  have HN := Aside0.mk hn
  have HI := Aside0.mk hi
  have HF := Aside0.mk (fin_eq x)
  clear hn hi hx
  generalize finB x = f at *
  generalize nanB x = b at *
  generalize infB x = c at *
  obtain rfl := HF.out
  cases b <;> cases c <;> (
    go_enter Try.func74, Try.ntmps74
    go_wp2_with (first | (go_at_call 71; refine (HN.out _).mono ?_; rintro e w' ⟨rfl, rfl⟩) | (go_at_call 72; refine (HI.out _).mono ?_; rintro e w' ⟨rfl, rfl⟩))
    go_ret
    exact ⟨rfl, rfl⟩)
set_option maxRecDepth 100000 in
theorem plus_ (x : Nat) (hx : x < 18446744073709551616) (w : World) : Calls Try.prog 76 #[.float .f64 x] w fun e w' => e = .returned (.float .f64 (plusC x)) ∧ w = w' := by
  have hz : (FloatKind.f64.format.order x 0 == some Ordering.eq) = zeroB x := order_zero hx
  have HP : Aside0 (plusC x = if zeroB x then 0 else x) := ⟨rfl⟩
  clear hx
  cases h : zeroB x
  · rw [h] at hz HP
    go_enter Try.func76, Try.ntmps76
    go_wp2
    go_ret
    exact ⟨by rw [HP.out]; rfl, rfl⟩
  · rw [h] at hz HP
    go_enter Try.func76, Try.ntmps76
    go_wp2
    go_ret
    exact ⟨by rw [HP.out]; rfl, rfl⟩
/-- A good float: a number, and no nought with a sign. -/
def goodB (x : Nat) : Bool := finB x && !(zeroB x && decide (9223372036854775808 ≤ x))
set_option maxRecDepth 100000 in
theorem impl_GoodReal (x : Nat) (hx : x < 18446744073709551616) (w : World) : Calls Try.prog 39 #[.float .f64 x] w fun e w' => e = .returned (.bool (goodB x)) ∧ w = w' := by
  have HN := Aside0.mk (finite_ x hx)
  have HI := Aside0.mk (signbit x hx)
  have hz : (FloatKind.f64.format.order x 0 == some Ordering.eq) = zeroB x := order_zero hx
  have HG : Aside0 (goodB x = (finB x && !(zeroB x && decide (9223372036854775808 ≤ x)))) := ⟨rfl⟩
  clear hx
  generalize goodB x = g at *
  generalize finB x = f at *
  generalize zeroB x = b at *
  generalize decide (9223372036854775808 ≤ x) = c at *
  obtain rfl := HG.out
  cases f <;> cases b <;> cases c <;> (
    go_enter Try.func39, Try.ntmps39
    go_wp2_with (first | (go_at_call 74; refine (HN.out _).mono ?_; rintro e w' ⟨rfl, rfl⟩) | (go_at_call 73; refine (HI.out _).mono ?_; rintro e w' ⟨rfl, rfl⟩))
    go_ret
    exact ⟨rfl, rfl⟩)
end Go.Proofs.Ytdcnlghcdmiciaa.Fl
