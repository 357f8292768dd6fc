/-
Own text: the reckoning that gives up: GainReal.
-/
import Derived.Test.YtdcnlghcdmiciaaFw4
namespace Go.Proofs.Ytdcnlghcdmiciaa.Fl
open Go Ieee Go.RowKit Go.Proofs.YtdcnlghcdmiciaaW.PrintWords
set_option linter.unusedVariables false
set_option linter.unusedSimpArgs false
/-- r stands for s but for a nought's sign. -/
def Like (r s : Nat) : Prop := r < 18446744073709551616 ∧ ab r = plusC s
theorem fin_like {r s : Nat} (h : Like r s) : finB r = finB s := by rw [← fin_ab, h.2, fin_plus]
theorem plus_op {op : BinOp} (hop : op = .add ∨ op = .sub ∨ op = .mul) {x y s t : Nat} (hx : Like x s) (hy : Like y t) : plusC (fop op x y) = plusC (fop op s t) := by
  rw [← fop_ab_l, ← fop_ab_r, hx.2, hy.2]
  rcases hop with rfl | rfl | rfl
  · show plusC (fadd _ _) = plusC (fadd _ _); rw [add_plus_l, add_plus_r]
  · show plusC (fsub _ _) = plusC (fsub _ _); rw [sub_plus_l, sub_plus_r]
  · show plusC (fmul _ _) = plusC (fmul _ _); rw [mul_plus_l, mul_plus_r]
theorem plus_fin {x y : Nat} (h : plusC x = plusC y) : finB x = finB y := by rw [← fin_plus x, h, fin_plus]
theorem zero_plus {x y : Nat} (h : plusC x = plusC y) : zeroB x = zeroB y := by
  cases hx : zeroB x <;> cases hy : zeroB y
  · rfl
  · rw [plus_not hx, plus_zero hy] at h; rw [h] at hx; cases hx
  · rw [plus_zero hx, plus_not hy] at h; rw [← h] at hy; cases hy
  · rfl
def OpL (op : BinOp) (g : Nat) (b : Bool) (s t : Nat) (w : World) (e : Ending) (w' : World) : Prop := ∃ r, e = .returned (.float .f64 r) ∧ Like r (fop op s t) ∧ St w' g (b || !finB (fop op s t)) ∧ Kp w w' g
theorem opL_of {op : BinOp} (hop : op = .add ∨ op = .sub ∨ op = .mul) {x y s t g : Nat} {b : Bool} {w w' : World} {e : Ending} (hx : Like x s) (hy : Like y t) (h : OpSt op g b x y w e w') : OpL op g b s t w e w' := by
  obtain ⟨r, he, ⟨hr, hv⟩, hs, hk⟩ := h
  have hp := plus_op hop hx hy
  exact ⟨r, he, ⟨hr, by rw [hv, hp]⟩, by rw [← plus_fin hp]; exact hs, hk⟩
theorem addL {x y s t g : Nat} {b : Bool} (w : World) (hs : St w g b) (hx : Like x s) (hy : Like y t) : Calls Try.prog 40 #[.pointer (some ⟨g, 0, none⟩), .float .f64 x, .float .f64 y] w (OpL .add g b s t w) := (add_ x y g b w hs).mono fun _ _ h => opL_of (by simp) hx hy h
theorem subL {x y s t g : Nat} {b : Bool} (w : World) (hs : St w g b) (hx : Like x s) (hy : Like y t) : Calls Try.prog 45 #[.pointer (some ⟨g, 0, none⟩), .float .f64 x, .float .f64 y] w (OpL .sub g b s t w) := (sub_ x y g b w hs).mono fun _ _ h => opL_of (by simp) hx hy h
theorem mulL {x y s t g : Nat} {b : Bool} (w : World) (hs : St w g b) (hx : Like x s) (hy : Like y t) : Calls Try.prog 41 #[.pointer (some ⟨g, 0, none⟩), .float .f64 x, .float .f64 y] w (OpL .mul g b s t w) := (mul_ x y g b w hs).mono fun _ _ h => opL_of (by simp) hx hy h
theorem divL {x y s t g : Nat} {b : Bool} (w : World) (hs : St w g b) (hx : Like x s) (hy : Like y t) (hz : zeroB t = false) : Calls Try.prog 43 #[.pointer (some ⟨g, 0, none⟩), .float .f64 x, .float .f64 y] w (OpL .quo g b s t w) := by
  refine (div_ x y g b w hs).mono fun e w' h => ?_
  obtain ⟨r, he, ⟨hr, hv⟩, hs, hk⟩ := h
  have hp : plusC (fop .quo x y) = plusC (fop .quo s t) := by
    rw [← fop_ab_l, ← fop_ab_r, hx.2, hy.2, plus_not hz]
    exact div_plus_l _ _
  exact ⟨r, he, ⟨hr, by rw [hv, hp]⟩, by rw [← plus_fin hp]; exact hs, hk⟩
/-- Over a nought: it gives up. -/
theorem divZ {x y t g : Nat} {b : Bool} (w : World) (hs : St w g b) (hy : Like y t) (hz : zeroB t = true) : Calls Try.prog 43 #[.pointer (some ⟨g, 0, none⟩), .float .f64 x, .float .f64 y] w (fun e w' => ∃ r s, e = .returned (.float .f64 r) ∧ Like r s ∧ St w' g true ∧ Kp w w' g) := by
  refine (div_ x y g b w hs).mono fun e w' h => ?_
  obtain ⟨r, he, ⟨hr, hv⟩, hs, hk⟩ := h
  have hf : finB (fop .quo x y) = false := by
    rw [← fop_ab_r, hy.2]
    exact off_div_zero _ (by rw [plus_zero hz]; rfl)
  rw [hf, Bool.not_false, Bool.or_true] at hs
  exact ⟨r, ab r, he, ⟨hr, by rw [hv, plus_plus]⟩, hs, hk⟩
theorem like_good {x : Nat} (hx : x < 18446744073709551616) (h : goodB x = true) : Like x x := by
  refine ⟨hx, ?_⟩
  unfold goodB at h
  simp only [Bool.and_eq_true, Bool.not_eq_true'] at h
  have hn : nanB x = false := by
    cases hn : nanB x with
    | false => rfl
    | true => have := fin_of_nan hn; rw [h.1] at this; cases this
  rw [ab_of hn]
  cases hz : zeroB x with
  | false => exact (plus_not hz).symm
  | true =>
    rcases zero_cases hz with rfl | rfl
    · rfl
    · rw [hz] at h; exact absurd h.2 (by decide)
end Go.Proofs.Ytdcnlghcdmiciaa.Fl
