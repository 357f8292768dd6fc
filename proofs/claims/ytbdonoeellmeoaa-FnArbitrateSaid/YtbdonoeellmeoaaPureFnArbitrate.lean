/- THE LAW FnArbitrate, as a statement over numbers and lists: proved here. -/
import Derived.Test.YtbdonoeellmeoaaPureLeast
namespace Go.Proofs.Ytbdonoeellmeoaa.Pure
open Go.RowKit Go.Proofs.YtbdonoeellmeoaaW.PrintWords Go.Proofs.YtbdonoeellmeoaaW.PrintLast Go.Proofs.Ytbdonoeellmeoaa.Pr Go.Proofs.Ytbdonoeellmeoaa.EvKit

theorem FnArbitrate : ∀ (l0 : List Int), (l0.length ≤ maxLen ∧ l0.length * 1 ≤ 140737488351232 ∧ ∀ y0 ∈ l0, (Lit.int .u8 y0).wf = true) → ∃ k, laws_FnArbitrate.f k l0 = some true := by
  intro c hc
  apply Ev.rounds
  simp only [laws_FnArbitrate.f]
  refine Ev.ite (fun _ => Ev.some rfl) (fun h => ?_)
  have hC : Code c := ⟨by omega, fun y hy => by
    have := hc.2.2 y hy
    simp [Lit.wf, IntKind.min, IntKind.max, IntKind.bits, IntKind.signed] at this
    omega⟩
  obtain ⟨l, e1⟩ := drawA hC
  by_cases hf : Fine l
  · obtain ⟨w, w1, _, w2, w3, w4, e2, e3⟩ := arbitrate_yes l hf
    have lf := least_first l hf w w2 w1 w3 w4
    generalize Fin l = x at w1 e2 e3 lf
    exact Ev.bnd e1 (Ev.bnd e2 (Ev.bnd e3 (Ev.neg (by simp) (Ev.pos rfl (Ev.pos (show (x.length : Int) = (l.length : Int) by omega) (Ev.bnd lf (Ev.some rfl)))))))
  · obtain ⟨e2, e3⟩ := arbitrate_no l hf
    exact Ev.bnd e1 (Ev.bnd e2 (Ev.bnd e3 (Ev.neg (by simp) (Ev.neg (by simp) (Ev.some rfl)))))

end Go.Proofs.Ytbdonoeellmeoaa.Pure
