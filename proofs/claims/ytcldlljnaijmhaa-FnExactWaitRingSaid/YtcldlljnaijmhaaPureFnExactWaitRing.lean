/- THE LAW FnExactWaitRing, as a statement over numbers and lists: for all waits the program and the reference tell the same; what is handed back is the call's own. No condition. -/
import Derived.Test.YtcldlljnaijmhaaPureRing
namespace Go.Proofs.Ytcldlljnaijmhaa.Pure
open Go.RowKit Go.Proofs.YtcldlljnaijmhaaW.PrintWords Go.Proofs.YtcldlljnaijmhaaW.PrintLast Go.Proofs.Ytcldlljnaijmhaa.Pr Go.Proofs.Ytcldlljnaijmhaa.EvKit

theorem FnExactWaitRing : ∀ (l0 : List Int), (l0.length ≤ maxLen ∧ l0.length * 8 ≤ 140737488351232 ∧ ∀ y0 ∈ l0, (Lit.int .i64 y0).wf = true) → ∃ k, laws_FnExactWaitRing.f k l0 = some true := by
  intro l _
  apply Ev.rounds
  simp only [laws_FnExactWaitRing.f]
  refine Ev.ite (fun _ => Ev.some rfl) (fun h => ?_)
  have hl : l.length ≤ 35184372088832 := by omega
  obtain ⟨y, hy, e1, e2⟩ := ring_both l
  have t := toIntS_ev l hl
  have ey := eqIntS_ev y (by omega)
  have m := markIntS_ev y 1 (by omega) (by omega)
  have hh := heldIntS_ev y.length 1 (by omega) (by omega)
  refine Ev.bnd t (Ev.bnd e2 (Ev.bnd t (Ev.bnd e1 (Ev.bnd ey (Ev.pos rfl (Ev.bnd t (Ev.bnd (eqIntS_ev l hl) (Ev.pos rfl (Ev.bnd (markIntS_ev l 1 (by omega) (by omega)) (Ev.neg (by simp; omega) (Ev.bnd ey (Ev.succ ?_))))))))))))
  simp only [laws_FnExactWaitRing.j0, Bool.not_true, Bool.false_eq_true, if_false]
  exact Ev.bnd m (Ev.bnd hh (Ev.neg (by omega) (Ev.pos rfl (Ev.bnd t (Ev.bnd e1 (Ev.bnd ey (Ev.pos rfl (Ev.bnd hh (Ev.neg (by omega) (Ev.pos rfl (Ev.some rfl)))))))))))

end Go.Proofs.Ytcldlljnaijmhaa.Pure
