/- THE LAW FnExactFirstMeet, as a statement over numbers and lists: for all paths the program and the reference tell the same tick. No condition. -/
import Derived.Test.YtcldlljnaijmhaaPureMeet
namespace Go.Proofs.Ytcldlljnaijmhaa.Pure
open Go.RowKit Go.Proofs.YtcldlljnaijmhaaW.PrintWords Go.Proofs.YtcldlljnaijmhaaW.PrintLast Go.Proofs.Ytcldlljnaijmhaa.Pr Go.Proofs.Ytcldlljnaijmhaa.EvKit

theorem FnExactFirstMeet : ∀ (l0 : List (List Int)), (l0.length ≤ maxLen ∧ l0.length * 24 ≤ 140737488351232 ∧ ∀ y0 ∈ l0, (y0.length ≤ maxLen ∧ y0.length * 8 ≤ 140737488351232 ∧ ∀ y1 ∈ y0, (Lit.int .i64 y1).wf = true)) → ∃ k, laws_FnExactFirstMeet.f k l0 = some true := by
  intro l h
  have hl : l.length ≤ 9223372036854775807 := by have := h.1; unfold maxLen at this; omega
  have hr : ∀ x ∈ l, x.length ≤ 9223372036854775807 := fun x hx => by have := (h.2.2 x hx).1; unfold maxLen at this; omega
  apply Ev.rounds
  simp only [laws_FnExactFirstMeet.f]
  obtain ⟨s, e1, e2⟩ := szIntSS_ev l 1048576 (by omega) (by omega) hl hr
  refine Ev.bnd e1 (Ev.ite (fun _ => Ev.some rfl) (fun h0 => ?_))
  obtain ⟨_, h1, h2⟩ := e2 h0
  have t := toIntSS_ev l h1 h2
  obtain ⟨r, _, _, _, a, b⟩ := meet_both l h2
  exact Ev.bnd t (Ev.bnd b (Ev.bnd t (Ev.bnd a (Ev.pos rfl (Ev.bnd t (Ev.bnd (eqIntSS_ev l h1 h2) (Ev.pos rfl (Ev.some rfl))))))))

end Go.Proofs.Ytcldlljnaijmhaa.Pure
