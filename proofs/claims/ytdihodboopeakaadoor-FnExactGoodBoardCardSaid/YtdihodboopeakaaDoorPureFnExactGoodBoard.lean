/- THE LAW FnExactGoodBoard, as a statement over numbers and lists: for every board the two checks agree. No condition. -/
import Derived.Test.YtdihodboopeakaaDoorPureBoard
namespace Go.Proofs.YtdihodboopeakaaDoor.Pure
open Go.RowKit Go.Proofs.YtdihodboopeakaaDoorW.PrintWords Go.Proofs.YtdihodboopeakaaDoorW.PrintLast Go.Proofs.YtdihodboopeakaaDoor.Pr Go.Proofs.YtdihodboopeakaaDoor.EvKit

theorem FnExactGoodBoard : ∀ (l0_0 : List ByteArray) (l0_1 : List Bool) (l0_2 : List (List Int)), ((l0_0.length ≤ maxLen ∧ l0_0.length * 16 ≤ 140737488351232 ∧ ∀ y0 ∈ l0_0, y0.size ≤ 140737488351232) ∧ (l0_1.length ≤ maxLen ∧ l0_1.length * 1 ≤ 140737488351232 ∧ ∀ y0 ∈ l0_1, True) ∧ (l0_2.length ≤ maxLen ∧ l0_2.length * 24 ≤ 140737488351232 ∧ ∀ y0 ∈ l0_2, (y0.length ≤ maxLen ∧ y0.length * 8 ≤ 140737488351232 ∧ ∀ y1 ∈ y0, (Lit.int .i64 y1).wf = true))) → ∃ k, laws_FnExactGoodBoard.f k l0_0 l0_1 l0_2 = some true := by
  rintro names mine next ⟨⟨_, n2, n3⟩, ⟨_, m2, _⟩, ⟨_, x2, x3⟩⟩
  apply Ev.rounds
  simp only [laws_FnExactGoodBoard.f]
  obtain ⟨r, e, f⟩ := szBoard_ev names mine next 1048576 (by decide) (by decide) (by omega) n3 (by omega) (by omega) (fun x hx => by have := (x3 x hx).2.1; omega)
  refine Ev.bnd e (Ev.ite (fun _ => Ev.some rfl) (fun h => ?_))
  obtain ⟨_, hsm⟩ := f h
  obtain ⟨a, b⟩ := goodBoard_both names mine next hsm.n2 hsm.x2
  exact Ev.bnd (toBoard_ev hsm) (Ev.bnd a (Ev.bnd (toBoard_ev hsm) (Ev.bnd b (Ev.neg (by simp) (Ev.bnd (toBoard_ev hsm) (Ev.bnd (eqBoard_ev hsm) (Ev.pos rfl (Ev.some rfl))))))))

end Go.Proofs.YtdihodboopeakaaDoor.Pure
