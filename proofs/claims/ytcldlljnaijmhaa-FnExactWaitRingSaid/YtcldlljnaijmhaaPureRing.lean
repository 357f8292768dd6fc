/-
Own text: who waits in a ring: the program and the reference come to the same.
-/
import Derived.Test.YtcldlljnaijmhaaPureBase
import Derived.Test.YtcldlljnaijmhaaPureInts
namespace Go.Proofs.Ytcldlljnaijmhaa.Pure
open Go.RowKit Go.Proofs.YtcldlljnaijmhaaW.PrintWords Go.Proofs.YtcldlljnaijmhaaW.PrintLast Go.Proofs.Ytcldlljnaijmhaa.Pr Go.Proofs.Ytcldlljnaijmhaa.EvKit
open Classical

theorem ring_same12 (x0 : List Int) (k : Nat) : (∀ a b c, spec_WaitRing.l1 k x0 a b c = impl_WaitRing.l1 k x0 (x0.length : Int) a b c) ∧
    (∀ a b c d e f, spec_WaitRing.l2 k x0 a b c d e f = impl_WaitRing.l2 k x0 (x0.length : Int) a b c d e f) := by
  induction k with
  | zero => exact ⟨fun _ _ _ => rfl, fun _ _ _ _ _ _ => rfl⟩
  | succ k ih => exact ⟨fun a b c => by simp only [spec_WaitRing.l1, impl_WaitRing.l1, ih.2], fun a b c d e f => by simp only [spec_WaitRing.l2, impl_WaitRing.l2, ih.1, ih.2]⟩
theorem ring_same0 (x0 : List Int) (k : Nat) : ∀ a b c, spec_WaitRing.l0 k x0 a b c = impl_WaitRing.l0 k x0 (x0.length : Int) a b c := by
  induction k with
  | zero => exact fun _ _ _ => rfl
  | succ k ih => exact fun a b c => by simp only [spec_WaitRing.l0, impl_WaitRing.l0, ih, (ring_same12 x0 k).1]
theorem ring_same (k : Nat) (l : List Int) : spec_WaitRing.f k l = impl_WaitRing.f k l := by
  simp only [spec_WaitRing.f, impl_WaitRing.f, ring_same0]

/-- Waits that may be. -/
def Wts (l : List Int) (i : Nat) : Prop := From l.length i fun j => -1 ≤ l.getD j 0 ∧ l.getD j 0 < l.length

theorem ring_l2 (l : List Int) (hn : l.length ≤ 5) (hw : Wts l 0) (i : Nat) (acc : List Int) (ha : acc.length ≤ i) (hi : i < l.length)
    (next : ∀ acc' : List Int, acc'.length ≤ i + 1 → ∃ y : List Int, y.length ≤ l.length ∧ Ev (fun k => impl_WaitRing.l1 k l (l.length : Int) acc' (l.length : Int) ((i + 1 : Nat) : Int)) y) (d : Nat) :
    ∀ (j : Nat) (at_ : Int), j + d = l.length → -1 ≤ at_ → at_ < l.length → ∃ y : List Int, y.length ≤ l.length ∧ Ev (fun k => impl_WaitRing.l2 k l (l.length : Int) acc i at_ j (l.length : Int) i) y := by
  have fin : ∀ (j : Nat) (at_ : Int), (¬ ((j : Int) < (l.length : Int)) ∨ ¬ at_ ≥ 0 ∨ at_ = i) → -1 ≤ at_ → at_ < l.length → ∃ y : List Int, y.length ≤ l.length ∧ Ev (fun k => impl_WaitRing.l2 k l (l.length : Int) acc i at_ j (l.length : Int) i) y := by
    intro j at_ hc h0 h1
    by_cases he : at_ = (i : Int)
    · obtain ⟨y, hy, hy2⟩ := next (acc ++ [(i : Int)]) (by simp; omega)
      refine ⟨y, hy, Ev.succ ?_⟩
      simp only [impl_WaitRing.l2, succ_w (show i < 35184372088833 by omega)]
      have hl : acc.length < 17592186044416 := by omega
      exact Ev.ite (fun _ => Ev.pos (by omega) (Ev.pos he (Ev.pos hl hy2))) (fun _ => Ev.pos he (Ev.pos hl hy2))
    · obtain ⟨y, hy, hy2⟩ := next acc (by omega)
      refine ⟨y, hy, Ev.succ ?_⟩
      simp only [impl_WaitRing.l2, succ_w (show i < 35184372088833 by omega)]
      refine Ev.ite (fun _ => Ev.neg (by omega) (Ev.neg he hy2)) (fun _ => Ev.neg he hy2)
  induction d with
  | zero =>
    intro j at_ hj h0 h1
    exact fin j at_ (Or.inl (by omega)) h0 h1
  | succ d ih =>
    intro j at_ hj h0 h1
    by_cases hc : ¬ at_ ≥ 0 ∨ at_ = (i : Int)
    · exact fin j at_ (Or.inr hc) h0 h1
    · have hw' := hw at_.toNat (by omega) (by omega)
      obtain ⟨y, hy, hy2⟩ := ih (j + 1) (l.getD at_.toNat 0) (by omega) hw'.1 hw'.2
      refine ⟨y, hy, Ev.succ ?_⟩
      have e : rd l at_ = l.getD at_.toNat 0 := rfl
      simp only [impl_WaitRing.l2, succ_w (show j < 35184372088833 by omega), e]
      exact Ev.pos (by omega) (Ev.pos (by omega) (Ev.neg (by omega) (Ev.pos (by omega) (Ev.pos (by omega) hy2))))

theorem ring_l1 (l : List Int) (hn : l.length ≤ 5) (hw : Wts l 0) (d : Nat) : ∀ (i : Nat) (acc : List Int), i + d = l.length → acc.length ≤ i →
    ∃ y : List Int, y.length ≤ l.length ∧ Ev (fun k => impl_WaitRing.l1 k l (l.length : Int) acc (l.length : Int) i) y := by
  induction d with
  | zero =>
    intro i acc hi ha
    refine ⟨acc, by omega, Ev.succ ?_⟩
    simp only [impl_WaitRing.l1, show ¬ ((i : Int) < (l.length : Int)) by omega, if_false]
    exact Ev.some rfl
  | succ d ih =>
    intro i acc hi ha
    have hw' := hw i (by omega) (by omega)
    obtain ⟨y, hy, hy2⟩ := ring_l2 l hn hw i acc ha (by omega) (fun acc' h => ih (i + 1) acc' (by omega) h) l.length 0 (l.getD i 0) (by omega) hw'.1 hw'.2
    refine ⟨y, hy, Ev.succ ?_⟩
    have e : rd l (i : Int) = l.getD i 0 := rfl
    simp only [impl_WaitRing.l1, e]
    exact Ev.pos (by omega) (Ev.pos (by omega) (Ev.pos (by omega) hy2))

theorem ring_l0 (l : List Int) (hn : l.length ≤ 5) (r : List Int) (d : Nat) : ∀ i : Nat, i + d = l.length → (Wts l i → Ev (fun k => impl_WaitRing.l1 k l (l.length : Int) [] (l.length : Int) 0) r) → (¬ Wts l i → r = []) →
    Ev (fun k => impl_WaitRing.l0 k l (l.length : Int) l (l.length : Int) i) r := by
  induction d with
  | zero =>
    intro i hi h1 h2
    apply Ev.succ
    simp only [impl_WaitRing.l0, show ¬ ((i : Int) < (l.length : Int)) by omega, if_false]
    exact h1 (From.end_ (by omega))
  | succ d ih =>
    intro i hi h1 h2
    apply Ev.succ
    have e : rd l (i : Int) = l.getD i 0 := rfl
    have step := From.step (n := l.length) (i := i) (C := fun j => -1 ≤ l.getD j 0 ∧ l.getD j 0 < l.length) (by omega)
    simp only [impl_WaitRing.l0, e, succ_w (show i < 35184372088833 by omega)]
    refine Ev.pos (by omega) (Ev.pos (by omega) (Ev.pos (by omega) (Ev.ite (fun h => Ev.some (h2 (fun a => ?_)).symm) (fun h => Ev.ite (fun h' => Ev.some (h2 (fun a => ?_)).symm) (fun h' => ?_)))))
    · have := (step.1 a).1; omega
    · have := (step.1 a).1; omega
    · exact ih (i + 1) (by omega) (fun a => h1 (step.2 ⟨by omega, a⟩)) (fun a => h2 (fun b => a (step.1 b).2))

theorem ring_both (l : List Int) : ∃ y : List Int, y.length ≤ 5 ∧ Ev (fun k => impl_WaitRing.f k l) y ∧ Ev (fun k => spec_WaitRing.f k l) y := by
  simp only [ring_same]
  suffices h : ∃ y : List Int, y.length ≤ 5 ∧ Ev (fun k => impl_WaitRing.f k l) y by
    obtain ⟨y, a, b⟩ := h
    exact ⟨y, a, b, b⟩
  simp only [impl_WaitRing.f]
  by_cases h5 : (l.length : Int) > 5
  · exact ⟨[], by simp, Ev.pos h5 (Ev.some rfl)⟩
  · by_cases hw : Wts l 0
    · obtain ⟨y, hy, hy2⟩ := ring_l1 l (by omega) hw l.length 0 [] (by omega) (by simp)
      exact ⟨y, by omega, Ev.neg h5 (ring_l0 l (by omega) y l.length 0 (by omega) (fun _ => hy2) (fun a => absurd hw a))⟩
    · exact ⟨[], by simp, Ev.neg h5 (ring_l0 l (by omega) [] l.length 0 (by omega) (fun a => absurd a hw) (fun _ => rfl))⟩
end Go.Proofs.Ytcldlljnaijmhaa.Pure
