/- THE LAW FnExactGoodTrips, as a statement over numbers and lists: for all cells and trips the two checks agree. No condition. -/
import Derived.Test.YtcldlljnaijmhaaPureTrips
namespace Go.Proofs.Ytcldlljnaijmhaa.Pure
open Go.RowKit Go.Proofs.YtcldlljnaijmhaaW.PrintWords Go.Proofs.YtcldlljnaijmhaaW.PrintLast Go.Proofs.Ytcldlljnaijmhaa.Pr Go.Proofs.Ytcldlljnaijmhaa.EvKit

theorem FnExactGoodTrips : ∀ (a0_0 : Int) (l0_1 : List Int) (l1 : List (S47)), ((Lit.int .i64 a0_0).wf = true ∧ (l0_1.length ≤ maxLen ∧ l0_1.length * 8 ≤ 140737488351232 ∧ ∀ y0 ∈ l0_1, (Lit.int .i64 y0).wf = true)) → (l1.length ≤ maxLen ∧ l1.length * 16 ≤ 140737488351232 ∧ ∀ y0 ∈ l1, ((Lit.int .i64 y0.f0).wf = true ∧ (Lit.int .i64 y0.f1).wf = true)) → ∃ k, laws_FnExactGoodTrips.f k a0_0 l0_1 l1 = some true := by
  intro w c l hc hl
  have h1 : c.length ≤ 9223372036854775807 := by have := hc.2.1; unfold maxLen at this; omega
  have h2 : l.length ≤ 9223372036854775807 := by have := hl.1; unfold maxLen at this; omega
  apply Ev.rounds
  simp only [laws_FnExactGoodTrips.f]
  obtain ⟨s, e1, e2⟩ := szCells_eq w c 1048576 h1 (by omega) (by omega)
  refine Ev.bnd0 e1 (Ev.ite (fun _ => Ev.some rfl) (fun h0 => ?_))
  obtain ⟨h3, h4⟩ := e2 h0
  obtain ⟨s2, e3, e4⟩ := szTripS_eq l s h2 (by omega) (by omega)
  refine Ev.bnd0 e3 (Ev.ite (fun _ => Ev.some rfl) (fun h0' => ?_))
  obtain ⟨h5, h6⟩ := e4 h0'
  have tc := toCells_ev w c (by omega)
  have tt := toTripS_ev l (by omega)
  obtain ⟨a, b⟩ := goodTrips_both w c (l.map cpT) (by omega)
  exact Ev.bnd tc (Ev.bnd tt (Ev.bnd b (Ev.bnd tc (Ev.bnd tt (Ev.bnd a (Ev.neg (by simp) (Ev.bnd tc (Ev.bnd (eqCells_ev w c (by omega)) (Ev.pos rfl (Ev.bnd tt (Ev.bnd (eqTripS_ev _ (by rw [List.length_map]; omega)) (Ev.pos rfl (Ev.some rfl)))))))))))))

end Go.Proofs.Ytcldlljnaijmhaa.Pure
