/-
Own text: a round of the reckoning, in the program and in the reference.
-/
import Derived.Test.YtdcnlghcdmiciaaFw6
namespace Go.Proofs.Ytdcnlghcdmiciaa.Fl
open Go Ieee Go.RowKit Go.Proofs.YtdcnlghcdmiciaaW.PrintWords
set_option linter.unusedVariables false
set_option linter.unusedSimpArgs false
attribute [local go_sem] run_fadd run_fsub run_fmul run_fdiv order_fv fop_fv_l fop_fv_r fin_fv told_fv
/-- A round's result, by its bits. -/
def rndX (a b q r p : Nat) : Nat := fop .sub (fop .add q (fop .mul (fop .mul a a) p)) (fop .quo (fop .mul (gainN a b p) (gainN a b p)) (gainD b r p))
def rndOk (a b q r p : Nat) : Bool := !zeroB (gainD b r p) && finB (gainD b r p) && finB (gainN a b p) && finB (rndX a b q r p) && finB (fop .mul (gainN a b p) (gainN a b p))
def rndR (a b q r p : Nat) : Nat := if rndOk a b q r p then plusC (rndX a b q r p) else 0
theorem plus_fv (op : BinOp) (w : World) (x y : Nat) (h : finB (fop op x y) = true) : plusC (fv op w x y) = plusC (fop op x y) := by
  have := told_fv op w x y
  unfold told at this
  rw [fin_fv, h] at this
  simpa using this
set_option maxHeartbeats 4000000 in
set_option maxRecDepth 100000 in
theorem l15Round (a b q r p : Nat) (w : World) :
    Calls Try.prog 44 #[.float .f64 a, .float .f64 b, .float .f64 q, .float .f64 r, .float .f64 p] w fun e w' => e = .returned (.tuple #[.float .f64 (rndR a b q r p), .bool (rndOk a b q r p)]) ∧ ∃ n, w' = w.drewN n := by
  have HR : Aside0 (rndR a b q r p = if rndOk a b q r p then plusC (rndX a b q r p) else 0) := ⟨rfl⟩
  have HO : Aside0 (rndOk a b q r p = (!zeroB (gainD b r p) && finB (gainD b r p) && finB (gainN a b p) && finB (rndX a b q r p) && finB (fop .mul (gainN a b p) (gainN a b p)))) := ⟨rfl⟩
  have hX : fop .sub (fop .add q (fop .mul (fop .mul a a) p)) (fop .quo (fop .mul (gainN a b p) (gainN a b p)) (gainD b r p)) = rndX a b q r p := rfl
  have hD : fop .add r (fop .mul (fop .mul b b) p) = gainD b r p := rfl
  have hN : fop .mul (fop .mul a b) p = gainN a b p := rfl
  generalize rndR a b q r p = R at *
  generalize rndOk a b q r p = ok at *
  generalize rndX a b q r p = X at *
  generalize gainD b r p = d at *
  generalize gainN a b p = n at *
  generalize hm : fop .mul n n = m at *
  cases hz : zeroB d
  case true =>
    go_enter Try.func44, Try.ntmps44
    go_wp2_with (first | (go_at_call 36; refine (l2Finite _ (fv_lt _ _ _ _) _).mono ?_; rintro e w' ⟨rfl, rfl⟩) | (go_at_call 61; refine (l2Plain _ (fv_lt _ _ _ _) _).mono ?_; rintro e w' ⟨rfl, rfl⟩))
    go_ret2
    exact ⟨by rw [HR.out, HO.out, hz]; rfl, _, rfl⟩
  cases hfd : finB d
  case false =>
    go_enter Try.func44, Try.ntmps44
    go_wp2_with (first | (go_at_call 36; refine (l2Finite _ (fv_lt _ _ _ _) _).mono ?_; rintro e w' ⟨rfl, rfl⟩) | (go_at_call 61; refine (l2Plain _ (fv_lt _ _ _ _) _).mono ?_; rintro e w' ⟨rfl, rfl⟩))
    go_ret2
    exact ⟨by rw [HR.out, HO.out, hz, hfd]; rfl, _, rfl⟩
  cases hfn : finB n
  case false =>
    go_enter Try.func44, Try.ntmps44
    go_wp2_with (first | (go_at_call 36; refine (l2Finite _ (fv_lt _ _ _ _) _).mono ?_; rintro e w' ⟨rfl, rfl⟩) | (go_at_call 61; refine (l2Plain _ (fv_lt _ _ _ _) _).mono ?_; rintro e w' ⟨rfl, rfl⟩))
    go_ret2
    exact ⟨by rw [HR.out, HO.out, hz, hfd, hfn]; rfl, _, rfl⟩
  cases hfx : finB X
  case false =>
    go_enter Try.func44, Try.ntmps44
    go_wp2_with (first | (go_at_call 36; refine (l2Finite _ (fv_lt _ _ _ _) _).mono ?_; rintro e w' ⟨rfl, rfl⟩) | (go_at_call 61; refine (l2Plain _ (fv_lt _ _ _ _) _).mono ?_; rintro e w' ⟨rfl, rfl⟩))
    go_ret2
    exact ⟨by rw [HR.out, HO.out, hz, hfd, hfn, hfx]; rfl, _, rfl⟩
  cases hfm : finB m
  case false =>
    go_enter Try.func44, Try.ntmps44
    go_wp2_with (first | (go_at_call 36; refine (l2Finite _ (fv_lt _ _ _ _) _).mono ?_; rintro e w' ⟨rfl, rfl⟩) | (go_at_call 61; refine (l2Plain _ (fv_lt _ _ _ _) _).mono ?_; rintro e w' ⟨rfl, rfl⟩))
    go_ret2
    exact ⟨by rw [HR.out, HO.out, hz, hfd, hfn, hfx, hfm]; rfl, _, rfl⟩
  have HR2 : Aside0 (R = plusC X ∧ ok = true) := ⟨by rw [HR.out, HO.out, hz, hfd, hfn, hfx, hfm]; exact ⟨rfl, rfl⟩⟩
  clear HR HO
  have hpl : ∀ w x y, fop .sub x y = X → plusC (fv .sub w x y) = plusC X := fun w x y h => by subst h; exact plus_fv _ _ _ _ hfx
  have HPL := Aside0.mk hpl
  clear hpl
  go_enter Try.func44, Try.ntmps44
  go_wp2_with (first | (go_at_call 36; refine (l2Finite _ (fv_lt _ _ _ _) _).mono ?_; rintro e w' ⟨rfl, rfl⟩) | (go_at_call 61; refine (l2Plain _ (fv_lt _ _ _ _) _).mono ?_; rintro e w' ⟨rfl, rfl⟩))
  go_ret2
  refine ⟨?_, _, rfl⟩
  rw [HR2.out.1, HR2.out.2, ← HPL.out _ _ _ ?h]
  · rfl
  · simp only [fop_fv_l, fop_fv_r, hX, hN, hD, hm]
end Go.Proofs.Ytdcnlghcdmiciaa.Fl
