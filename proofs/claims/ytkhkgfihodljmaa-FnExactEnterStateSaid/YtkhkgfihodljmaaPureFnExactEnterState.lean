/- THE LAW FnExactEnterState, as a statement over numbers and lists: for every chart and number to enter a state comes to the same. No condition. -/
import Derived.Test.YtkhkgfihodljmaaPureStep
namespace Go.Proofs.Ytkhkgfihodljmaa.Pure
open Go.RowKit Go.Proofs.YtkhkgfihodljmaaW.PrintWords Go.Proofs.YtkhkgfihodljmaaW.PrintLast Go.Proofs.Ytkhkgfihodljmaa.Pr Go.Proofs.Ytkhkgfihodljmaa.EvKit
open Classical

theorem FnExactEnterState : ∀ (l0_0 : List (S101)) (l0_1 : List (S103)) (a1 : Int), ((l0_0.length ≤ maxLen ∧ l0_0.length * 16 ≤ 140737488351232 ∧ ∀ y0 ∈ l0_0, ((Lit.int .i64 y0.f0).wf = true ∧ (Lit.int .i64 y0.f1).wf = true)) ∧ (l0_1.length ≤ maxLen ∧ l0_1.length * 24 ≤ 140737488351232 ∧ ∀ y0 ∈ l0_1, ((Lit.int .i64 y0.f0).wf = true ∧ (Lit.int .i64 y0.f1).wf = true ∧ (Lit.int .i64 y0.f2).wf = true))) → (Lit.int .i64 a1).wf = true → ∃ k, laws_FnExactEnterState.f k l0_0 l0_1 a1 = some true := by
  intro l m a h _
  have hl : l.length ≤ 9223372036854775807 := by have := h.1.1; unfold maxLen at this; omega
  have hm : m.length ≤ 9223372036854775807 := by have := h.2.1; unfold maxLen at this; omega
  apply Ev.rounds
  simp only [laws_FnExactEnterState.f]
  obtain ⟨r, hr, hb⟩ := szChart_eq l m hl hm
  refine Ev.bnd0 hr (Ev.ite (fun _ => Ev.some rfl) (fun h0 => ?_))
  obtain ⟨hl2, hm2⟩ := hb h0
  have tc := toChart_ev l m hl2 hm2
  obtain ⟨x, e1, e2⟩ := enterState_both (l.map cpS) (m.map cpA) a
  exact Ev.bnd tc (Ev.bnd e2 (Ev.bnd tc (Ev.bnd e1 (Ev.pos rfl (Ev.bnd tc (Ev.bnd (eqChart_ev _ _ (by simpa using hl2) (by simpa using hm2)) (Ev.pos rfl (Ev.some rfl))))))))

end Go.Proofs.Ytkhkgfihodljmaa.Pure
