/-
Own text: the law of GainReal, walked.
-/
import Derived.Test.YtdcnlghcdmiciaaFw6
import Derived.Test.YtdcnlghcdmiciaaFsame
namespace Go.Proofs.Ytdcnlghcdmiciaa.Fl
open Go Ieee Go.RowKit Go.Proofs.YtdcnlghcdmiciaaW.PrintWords
set_option linter.unusedVariables false
set_option linter.unusedSimpArgs false
theorem gainR_lt (a b r p : Nat) : gainR a b r p < 18446744073709551616 := by
  unfold gainR
  split
  · unfold told
    split
    · exact plus_lt (fop_lt _ _ _)
    · decide
  · decide
set_option maxHeartbeats 1000000 in
set_option maxRecDepth 100000 in
theorem law_GainReal (a b r p : Nat) (ha : a < 18446744073709551616) (hb : b < 18446744073709551616) (hr : r < 18446744073709551616) (hp : p < 18446744073709551616) (w : World) :
    Calls Try.prog 3 #[.float .f64 a, .float .f64 b, .float .f64 r, .float .f64 p] w fun e w' => e = .returned (.bool true) ∧ Below w.heap.size w w' := by
  have H1 := Aside0.mk (spec_GainReal a b r p ha hb hr hp)
  have H2 := Aside0.mk (impl_GainReal a b r p ha hb hr hp)
  have H3 := Aside0.mk (sameFloat (gainR a b r p) (gainR_lt a b r p))
  clear ha hb hr hp
  generalize gainR a b r p = R at *
  generalize gainB a b r p = B at *
  cases B <;> (
    go_enter Try.func3, Try.ntmps3
    go_wp2_with (first | (go_at_call 12; refine (H1.out _).mono ?_; rintro e w' ⟨rfl, n, rfl⟩) | (go_at_call 13; refine (H2.out _).mono ?_; rintro e w1 ⟨rfl, hb⟩; have K1 := Aside0.mk (below_step (pw_below_drewN (Below.refl w.heap.size w) n) hb); clear hb) | (go_at_call 14; refine (H3.out _).mono ?_; rintro e w' ⟨rfl, n2, rfl⟩))
    go_ret
    exact ⟨rfl, pw_below_drewN K1.out _⟩)
end Go.Proofs.Ytdcnlghcdmiciaa.Fl
