/- THE LAW FnExactGoodFrame, as a statement over numbers and lists: for every frame the two checks agree. No condition. -/
import Derived.Test.YtbdonoeellmeoaaPureArbitrate
import Derived.Test.YtbdonoeellmeoaaPureBytes
namespace Go.Proofs.Ytbdonoeellmeoaa.Pure
open Go.RowKit Go.Proofs.YtbdonoeellmeoaaW.PrintWords Go.Proofs.YtbdonoeellmeoaaW.PrintLast Go.Proofs.Ytbdonoeellmeoaa.Pr Go.Proofs.Ytbdonoeellmeoaa.EvKit

/-- A good frame. -/
def GF (a : Int) (l : List Int) : Prop := (0 ≤ a ∧ a ≤ 2047) ∧ l.length ≤ 8
theorem goodFrame_both (a : Int) (l : List Int) : impl_GoodFrame.f a l = some (decide ((0 ≤ a ∧ a ≤ 2047) ∧ l.length ≤ 8)) ∧ spec_GoodFrame.f a l = some (decide ((0 ≤ a ∧ a ≤ 2047) ∧ l.length ≤ 8)) := by
  unfold impl_GoodFrame.f spec_GoodFrame.f
  rw [btw]
  by_cases h1 : 0 ≤ a
  · by_cases h2 : a ≤ 2047
    · refine ⟨?_, ?_⟩
      · simp [h1, h2]
        omega
      · simp [h1, h2]
        omega
    · refine ⟨?_, ?_⟩ <;> simp [h2]
  · refine ⟨?_, ?_⟩ <;> simp [h1]
theorem toFrame_ev (a : Int) (l : List Int) (hl : l.length ≤ 1048576) : Ev (fun k => laws_toFrame.f k a l) (a, l) := by
  simp only [laws_toFrame.f]
  exact Ev.bnd (toByteS_ev l (by omega)) (Ev.some rfl)
theorem eqFrame_ev (a : Int) (l : List Int) (hl : l.length ≤ 1048576) : Ev (fun k => laws_eqFrame.f k a l a l) true := by
  simp only [laws_eqFrame.f]
  exact Ev.pos trivial (Ev.bnd (eqByteS_ev l (by omega)) (Ev.pos rfl (Ev.some rfl)))
theorem szFrame_eq (a0 : Int) (l : List Int) (a : Int) (hl : l.length ≤ 9223372036854775807) (h0 : 0 ≤ a) (h1 : a ≤ 1048576) :
    ∃ r, laws_szFrame.f a0 l a = some r ∧ (¬ r < 0 → (l.length : Int) ≤ a ∧ r ≤ a) := by
  simp only [laws_szFrame.f, laws_szByteS.f]
  rw [wrap64_id (x := a - (l.length : Int)) (by omega) (by omega)]
  by_cases h : a - (l.length : Int) < 0
  · exact ⟨-1, by simp [h], by omega⟩
  · exact ⟨a - (l.length : Int), by simp only [h, if_false, Option.bind_some], by omega⟩

theorem FnExactGoodFrame : ∀ (a0_0 : Int) (l0_1 : List Int), ((Lit.int .i64 a0_0).wf = true ∧ (l0_1.length ≤ maxLen ∧ l0_1.length * 1 ≤ 140737488351232 ∧ ∀ y0 ∈ l0_1, (Lit.int .u8 y0).wf = true)) → ∃ k, laws_FnExactGoodFrame.f k a0_0 l0_1 = some true := by
  intro a l h
  have hl : l.length ≤ 9223372036854775807 := by have := h.2.1; unfold maxLen at this; omega
  apply Ev.rounds
  simp only [laws_FnExactGoodFrame.f]
  obtain ⟨s, e1, e2⟩ := szFrame_eq a l 1048576 hl (by omega) (by omega)
  refine Ev.bnd0 e1 (Ev.ite (fun _ => Ev.some rfl) (fun h0 => ?_))
  obtain ⟨h1, _⟩ := e2 h0
  have t := toFrame_ev a l (by omega)
  obtain ⟨x, y⟩ := goodFrame_both a l
  exact Ev.bnd t (Ev.bnd0 y (Ev.bnd t (Ev.bnd0 x (Ev.neg (by simp) (Ev.bnd t (Ev.bnd (eqFrame_ev a l (by omega)) (Ev.pos rfl (Ev.some rfl))))))))

end Go.Proofs.Ytbdonoeellmeoaa.Pure
