/- THE LAW FnExactRunChart, as a statement over numbers and lists: for every chart and events to run comes to the same, and what is handed back is its own. No condition. -/
import Derived.Test.YtkhkgfihodljmaaPureRun
namespace Go.Proofs.Ytkhkgfihodljmaa.Pure
open Go.RowKit Go.Proofs.YtkhkgfihodljmaaW.PrintWords Go.Proofs.YtkhkgfihodljmaaW.PrintLast Go.Proofs.Ytkhkgfihodljmaa.Pr Go.Proofs.Ytkhkgfihodljmaa.EvKit
open Classical

theorem FnExactRunChart : ∀ (l0_0 : List (S101)) (l0_1 : List (S103)) (l1 : List Int), ((l0_0.length ≤ maxLen ∧ l0_0.length * 16 ≤ 140737488351232 ∧ ∀ y0 ∈ l0_0, ((Lit.int .i64 y0.f0).wf = true ∧ (Lit.int .i64 y0.f1).wf = true)) ∧ (l0_1.length ≤ maxLen ∧ l0_1.length * 24 ≤ 140737488351232 ∧ ∀ y0 ∈ l0_1, ((Lit.int .i64 y0.f0).wf = true ∧ (Lit.int .i64 y0.f1).wf = true ∧ (Lit.int .i64 y0.f2).wf = true))) → (l1.length ≤ maxLen ∧ l1.length * 8 ≤ 140737488351232 ∧ ∀ y0 ∈ l1, (Lit.int .i64 y0).wf = true) → ∃ k, laws_FnExactRunChart.f k l0_0 l0_1 l1 = some true := by
  intro l m ev h he
  have hl : l.length ≤ 9223372036854775807 := by have := h.1.1; unfold maxLen at this; omega
  have hm : m.length ≤ 9223372036854775807 := by have := h.2.1; unfold maxLen at this; omega
  apply Ev.rounds
  simp only [laws_FnExactRunChart.f]
  refine Ev.ite (fun _ => Ev.some rfl) (fun hev => ?_)
  obtain ⟨r, hr, hb⟩ := szChart_eq l m hl hm
  refine Ev.bnd0 hr (Ev.ite (fun _ => Ev.some rfl) (fun h0 => ?_))
  obtain ⟨hl2, hm2⟩ := hb h0
  have tc := toChart_ev l m hl2 hm2
  have te := toIntS_ev ev (by omega)
  obtain ⟨y, b, hy, e1, e2⟩ := runChart_both (l.map cpS) (m.map cpA) ev (by omega)
  obtain ⟨l', m', e3⟩ := markChart_ev (l.map cpS) (m.map cpA) (by simpa using hl2) (by simpa using hm2)
  have e4 := markIntS_ev ev (1 + 2 * (l.map cpS).length + 3 * (m.map cpA).length) (by omega) (by simp; omega)
  have ey := eqIntS_ev y (by omega)
  have my := markIntS_ev y 1 (by omega) (by omega)
  have hy2 := heldIntS_ev y.length 1 (by omega) (by omega)
  refine Ev.bnd tc (Ev.bnd te (Ev.bnd e2 (Ev.bnd tc (Ev.bnd te (Ev.bnd e1 (Ev.bnd ey (Ev.pos rfl (Ev.succ ?_))))))))
  simp only [laws_FnExactRunChart.j0, bne_self_eq_false, Bool.false_eq_true, if_false]
  refine Ev.bnd tc (Ev.bnd (eqChart_ev _ _ (by simpa using hl2) (by simpa using hm2)) (Ev.pos rfl (Ev.bnd te (Ev.bnd (eqIntS_ev ev (by omega)) (Ev.pos rfl (Ev.bnd e3 (Ev.bnd e4 (Ev.neg (by simp; omega) (Ev.bnd ey (Ev.pos rfl (Ev.succ ?_)))))))))))
  simp only [laws_FnExactRunChart.j1, Bool.false_eq_true, if_false]
  refine Ev.bnd my (Ev.bnd hy2 (Ev.neg (by omega) (Ev.pos rfl (Ev.bnd tc (Ev.bnd te (Ev.bnd e1 (Ev.bnd ey (Ev.pos rfl (Ev.succ ?_)))))))))
  simp only [laws_FnExactRunChart.j2, bne_self_eq_false, Bool.false_eq_true, if_false]
  exact Ev.bnd hy2 (Ev.neg (by omega) (Ev.pos rfl (Ev.some rfl)))

end Go.Proofs.Ytkhkgfihodljmaa.Pure
