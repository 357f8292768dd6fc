/- THE LAW FnExactClear, as a statement over numbers and lists: proved here. -/
import Derived.Test.YtjcmlggdaajicaaPureClear
namespace Go.Proofs.Ytjcmlggdaajicaa.Pure
open Go.RowKit Go.Proofs.YtjcmlggdaajicaaW.PrintWords Go.Proofs.YtjcmlggdaajicaaW.PrintLast Go.Proofs.Ytjcmlggdaajicaa.Pr Go.Proofs.Ytjcmlggdaajicaa.EvKit
open Classical

theorem clear_both (w : Int) (c : List Int) (a b : Int) (hn : c.length ≤ 35184372088832) : ∃ r, Ev (fun k => impl_Clear.f k w c a b) r ∧ Ev (fun k => spec_Clear.f k w c a b) r := by
  simp only [impl_Clear.f, spec_Clear.f]
  by_cases h : Cl w c
  · have s := clear_spec h a b
    refine ⟨decide (Clr w c a b), Ev.bnd (goodCells_impl w c hn) (Ev.pos (by simpa using h) ?_), Ev.bnd (goodCells_spec w c hn) (Ev.pos (by simpa using h) (Ev.bnd s (Ev.some rfl)))⟩
    by_cases ha : Fr c a
    · by_cases hb : Fr c b
      · exact Ev.bnd0 (free_impl w c a) (Ev.pos (by simpa using ha) (Ev.bnd0 (free_impl w c b) (Ev.pos (by simpa using hb) (Ev.bnd0 (clear_impl h ha hb) (Ev.some rfl)))))
      · rw [decide_eq_false (fun x : Clr w c a b => hb x.2.1)]
        exact Ev.bnd0 (free_impl w c a) (Ev.pos (by simpa using ha) (Ev.bnd0 (free_impl w c b) (Ev.neg (by simpa using hb) (Ev.some rfl))))
    · rw [decide_eq_false (fun x : Clr w c a b => ha x.1)]
      exact Ev.bnd0 (free_impl w c a) (Ev.neg (by simpa using ha) (Ev.some rfl))
  · exact ⟨false, Ev.bnd (goodCells_impl w c hn) (Ev.neg (by simpa using h) (Ev.some rfl)), Ev.bnd (goodCells_spec w c hn) (Ev.neg (by simpa using h) (Ev.some rfl))⟩

theorem FnExactClear : ∀ (a0_0 : Int) (l0_1 : List Int) (a1 : Int) (a2 : Int), ((Lit.int .i64 a0_0).wf = true ∧ (l0_1.length ≤ maxLen ∧ l0_1.length * 8 ≤ 140737488351232 ∧ ∀ y0 ∈ l0_1, (Lit.int .i64 y0).wf = true)) → (Lit.int .i64 a1).wf = true → (Lit.int .i64 a2).wf = true → ∃ k, laws_FnExactClear.f k a0_0 l0_1 a1 a2 = some true := by
  intro w c a b hc _ _
  have h1 : c.length ≤ 9223372036854775807 := by have := hc.2.1; unfold maxLen at this; omega
  apply Ev.rounds
  simp only [laws_FnExactClear.f]
  obtain ⟨s, e1, e2⟩ := szCells_eq w c 1048576 h1 (by omega) (by omega)
  refine Ev.bnd0 e1 (Ev.ite (fun _ => Ev.some rfl) (fun h0 => ?_))
  obtain ⟨h3, h4⟩ := e2 h0
  have tc := toCells_ev w c (by omega)
  obtain ⟨r, x, y⟩ := clear_both w c a b (by omega)
  exact Ev.bnd tc (Ev.bnd y (Ev.bnd tc (Ev.bnd x (Ev.neg (by simp) (Ev.bnd tc (Ev.bnd (eqCells_ev w c (by omega)) (Ev.pos rfl (Ev.some rfl))))))))

end Go.Proofs.Ytjcmlggdaajicaa.Pure
