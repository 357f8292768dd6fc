/-
Own text: sameFloat says yes to a float and itself.
-/
import Derived.Test.YtdcnlghcdmiciaaFw5
namespace Go.Proofs.Ytdcnlghcdmiciaa.Fl
open Go Ieee Go.RowKit Go.Proofs.YtdcnlghcdmiciaaW.PrintWords
set_option linter.unusedVariables false
set_option linter.unusedSimpArgs false
theorem out_lt (d : Option Datum) : out d < 18446744073709551616 := by
  cases d with
  | none => exact (by decide : NANC < 18446744073709551616)
  | some x => exact D.write_lt x
theorem fop_lt (op : BinOp) (x y : Nat) : fop op x y < 18446744073709551616 := by
  cases op <;> first | exact out_lt _ | exact (by decide : NANC < 18446744073709551616)
set_option maxHeartbeats 1000000 in
set_option maxRecDepth 100000 in
theorem sameFloat (x : Nat) (hx : x < 18446744073709551616) (w : World) : Calls Try.prog 14 #[.float .f64 x, .float .f64 x] w fun e w' => e = .returned (.bool true) ∧ ∃ n, w' = w.drewN n := by
  have hn : (FloatKind.f64.format.order x x != some Ordering.eq) = nanB x := by
    rw [show (FloatKind.f64.format.order x x != some Ordering.eq) = !(D.order x x == some Ordering.eq) from rfl, order_self, Bool.not_not]
  have he : (FloatKind.f64.format.order x x == some Ordering.eq) = !nanB x := order_self x
  have hz : (FloatKind.f64.format.order x 0 == some Ordering.eq) = zeroB x := order_zero hx
  have HX := Aside0.mk hx
  clear hx
  cases hb : nanB x
  · rw [hb] at hn he
    cases hzz : zeroB x
    · rw [hzz] at hz
      clear hb hzz
      go_enter Try.func14, Try.ntmps14
      go_wp2
      go_ret
      exact ⟨rfl, 0, rfl⟩
    · rw [hzz] at hz
      rcases zero_cases hzz with rfl | rfl
      · clear hb hzz hn he hz
        have h1 : floatBits .quo .f64 4607182418800017408 0 = some 9218868437227405312 := by decide +kernel
        have hq := fun (t : TypeId) (w : World) => run_float_arith (P := Try.prog) w .quo t .f64 4607182418800017408 0 9218868437227405312 h1
        have hz : (FloatKind.f64.format.order 0 0 == some Ordering.eq) = true := by decide +kernel
        have hn : (FloatKind.f64.format.order 0 0 != some Ordering.eq) = false := by decide +kernel
        have hg : (FloatKind.f64.format.order 9218868437227405312 0 == some Ordering.gt) = true := by decide +kernel
        clear h1
        go_enter Try.func14, Try.ntmps14
        go_wp2
        go_ret
        exact ⟨rfl, 0, rfl⟩
      · clear hb hzz hn he hz
        have h1 : floatBits .quo .f64 4607182418800017408 9223372036854775808 = some 18442240474082181120 := by decide +kernel
        have hq := fun (t : TypeId) (w : World) => run_float_arith (P := Try.prog) w .quo t .f64 4607182418800017408 9223372036854775808 18442240474082181120 h1
        have hz : (FloatKind.f64.format.order 9223372036854775808 0 == some Ordering.eq) = true := by decide +kernel
        have hn : (FloatKind.f64.format.order 9223372036854775808 9223372036854775808 != some Ordering.eq) = false := by decide +kernel
        have hg : (FloatKind.f64.format.order 18442240474082181120 0 == some Ordering.gt) = false := by decide +kernel
        clear h1
        go_enter Try.func14, Try.ntmps14
        go_wp2
        go_ret
        exact ⟨rfl, 0, rfl⟩
  · rw [hb] at hn he
    clear hz hb
    go_enter Try.func14, Try.ntmps14
    go_wp2
    go_ret
    exact ⟨rfl, 0, rfl⟩
end Go.Proofs.Ytdcnlghcdmiciaa.Fl
