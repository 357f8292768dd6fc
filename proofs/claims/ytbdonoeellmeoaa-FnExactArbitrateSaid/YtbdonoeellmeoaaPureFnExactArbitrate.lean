/- THE LAW FnExactArbitrate, as a statement over numbers and lists: for all ids the program and the reference arbitrate alike; what is handed back is the call's own. No condition. -/
import Derived.Test.YtbdonoeellmeoaaPureArbitrate
namespace Go.Proofs.Ytbdonoeellmeoaa.Pure
open Go.RowKit Go.Proofs.YtbdonoeellmeoaaW.PrintWords Go.Proofs.YtbdonoeellmeoaaW.PrintLast Go.Proofs.Ytbdonoeellmeoaa.Pr Go.Proofs.Ytbdonoeellmeoaa.EvKit

theorem FnExactArbitrate : ∀ (l0 : List Int), (l0.length ≤ maxLen ∧ l0.length * 8 ≤ 140737488351232 ∧ ∀ y0 ∈ l0, (Lit.int .i64 y0).wf = true) → ∃ k, laws_FnExactArbitrate.f k l0 = some true := by
  intro l _
  apply Ev.rounds
  simp only [laws_FnExactArbitrate.f]
  refine Ev.ite (fun _ => Ev.some rfl) (fun h => ?_)
  have hl : l.length ≤ 35184372088832 := by omega
  obtain ⟨w, x, b, hx, e1, e2⟩ := arbitrate_both l
  have t := toIntS_ev l hl
  have ex := eqIntS_ev x (by omega)
  have m := markIntS_ev x 1 (by omega) (by omega)
  have hh := heldIntS_ev x.length 1 (by omega) (by omega)
  refine Ev.bnd t (Ev.bnd e2 (Ev.bnd t (Ev.bnd e1 (Ev.pos rfl (Ev.bnd ex (Ev.pos rfl (Ev.succ ?_)))))))
  simp only [laws_FnExactArbitrate.j0, bne_self_eq_false, Bool.false_eq_true, if_false]
  refine Ev.bnd t (Ev.bnd (eqIntS_ev l hl) (Ev.pos rfl (Ev.bnd (markIntS_ev l 1 (by omega) (by omega)) (Ev.neg (by simp; omega) (Ev.pos (by first | rfl | trivial) (Ev.bnd ex (Ev.pos rfl (Ev.succ ?_))))))))
  simp only [laws_FnExactArbitrate.j1, Bool.false_eq_true, if_false]
  refine Ev.bnd m (Ev.bnd hh (Ev.neg (by omega) (Ev.pos rfl (Ev.bnd t (Ev.bnd e1 (Ev.pos rfl (Ev.bnd ex (Ev.pos rfl (Ev.succ ?_)))))))))
  simp only [laws_FnExactArbitrate.j2, bne_self_eq_false, Bool.false_eq_true, if_false]
  exact Ev.bnd hh (Ev.neg (by omega) (Ev.pos rfl (Ev.some rfl)))

end Go.Proofs.Ytbdonoeellmeoaa.Pure
