/- Own text: what the laws' helpers on frames come to. -/
import Derived.Test.YtbdonoeellmeoaaPureBytes
namespace Go.Proofs.Ytbdonoeellmeoaa.Pure
open Go.RowKit Go.Proofs.YtbdonoeellmeoaaW.PrintWords Go.Proofs.YtbdonoeellmeoaaW.PrintLast Go.Proofs.Ytbdonoeellmeoaa.Pr Go.Proofs.Ytbdonoeellmeoaa.EvKit

theorem btw (a lo hi : Int) : impl_between.f a lo hi = some (decide (lo ≤ a ∧ a ≤ hi)) := by
  unfold impl_between.f
  by_cases h : a ≥ lo <;> simp [h] <;> omega
/-- A good frame. -/
def GF (a : Int) (l : List Int) : Prop := (0 ≤ a ∧ a ≤ 2047) ∧ l.length ≤ 8
theorem goodFrame_both (a : Int) (l : List Int) : impl_GoodFrame.f a l = some (decide ((0 ≤ a ∧ a ≤ 2047) ∧ l.length ≤ 8)) ∧ spec_GoodFrame.f a l = some (decide ((0 ≤ a ∧ a ≤ 2047) ∧ l.length ≤ 8)) := by
  unfold impl_GoodFrame.f spec_GoodFrame.f
  rw [btw]
  by_cases h1 : 0 ≤ a
  · by_cases h2 : a ≤ 2047
    · refine ⟨?_, ?_⟩
      · simp [h1, h2]
        omega
      · simp [h1, h2]
        omega
    · refine ⟨?_, ?_⟩ <;> simp [h2]
  · refine ⟨?_, ?_⟩ <;> simp [h1]
theorem toFrame_ev (a : Int) (l : List Int) (hl : l.length ≤ 1048576) : Ev (fun k => laws_toFrame.f k a l) (a, l) := by
  simp only [laws_toFrame.f]
  exact Ev.bnd (toByteS_ev l (by omega)) (Ev.some rfl)
theorem eqFrame_ev (a : Int) (l : List Int) (hl : l.length ≤ 1048576) : Ev (fun k => laws_eqFrame.f k a l a l) true := by
  simp only [laws_eqFrame.f]
  exact Ev.pos trivial (Ev.bnd (eqByteS_ev l (by omega)) (Ev.pos rfl (Ev.some rfl)))
theorem szFrame_eq (a0 : Int) (l : List Int) (a : Int) (hl : l.length ≤ 9223372036854775807) (h0 : 0 ≤ a) (h1 : a ≤ 1048576) :
    ∃ r, laws_szFrame.f a0 l a = some r ∧ (¬ r < 0 → (l.length : Int) ≤ a ∧ r ≤ a) := by
  simp only [laws_szFrame.f, laws_szByteS.f]
  rw [wrap64_id (x := a - (l.length : Int)) (by omega) (by omega)]
  by_cases h : a - (l.length : Int) < 0
  · exact ⟨-1, by simp [h], by omega⟩
  · exact ⟨a - (l.length : Int), by simp only [h, if_false, Option.bind_some], by omega⟩

end Go.Proofs.Ytbdonoeellmeoaa.Pure
