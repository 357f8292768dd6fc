/- THE LAW FnExactWayCost, as a statement over numbers and lists: for all cells and ways the program and the reference tell the same cost. No condition. -/
import Derived.Test.YtjcmlggdaajicaaPureStep
namespace Go.Proofs.Ytjcmlggdaajicaa.Pure
open Go.RowKit Go.Proofs.YtjcmlggdaajicaaW.PrintWords Go.Proofs.YtjcmlggdaajicaaW.PrintLast Go.Proofs.Ytjcmlggdaajicaa.Pr Go.Proofs.Ytjcmlggdaajicaa.EvKit
open Classical

theorem way_l0 {w : Int} {c : List Int} (h : Cl w c) (l : List Int) (hn : l.length ≤ 256) (d : Nat) : ∀ (i : Nat) (p q : Int), 1 ≤ i → i + d = l.length → 0 ≤ p → p ≤ i → 0 ≤ q → q ≤ i →
    ∃ r, Ev (fun k => impl_WayCost.l0 k l i w c p q) r ∧ Ev (fun k => spec_WayCost.l0 k l p q i w c) r := by
  induction d with
  | zero =>
    intro i p q h1 hi _ _ _ _
    refine ⟨(p, q, true), Ev.succ ?_, Ev.succ ?_⟩
    · simp only [impl_WayCost.l0]
      exact Ev.neg (by omega) (Ev.some rfl)
    · simp only [spec_WayCost.l0]
      exact Ev.neg (by omega) (Ev.some rfl)
  | succ d ih =>
    intro i p q h1 hi hp hp2 hq hq2
    obtain ⟨sp, sq, e1, e2, e3⟩ := step_impl h (rd l ((i : Int) - 1)) (rd l (i : Int))
    have e4 := step_spec h (rd l ((i : Int) - 1)) (rd l (i : Int))
    generalize hS : Stp w c (rd l ((i : Int) - 1)) (rd l (i : Int)) = S at *
    have hor := Stp_or w c (rd l ((i : Int) - 1)) (rd l (i : Int))
    rw [hS] at hor
    have pre : wrap64 ((i : Int) - 1) = (i : Int) - 1 := wrap64_id (by omega) (by omega)
    rcases hor with h0 | h0 | h0
    · subst h0
      refine ⟨(0, 0, false), Ev.succ ?_, Ev.succ ?_⟩
      · simp only [impl_WayCost.l0, pre]
        exact Ev.pos (by omega) (Ev.pos (by omega) (Ev.pos (by omega) (Ev.pos (by omega) (Ev.bnd e1 (Ev.neg (by simp) (Ev.some rfl))))))
      · simp only [spec_WayCost.l0, pre]
        exact Ev.pos (by omega) (Ev.pos (by omega) (Ev.pos (by omega) (Ev.pos (by omega) (Ev.bnd e4 (Ev.neg (by omega) (Ev.neg (by omega) (Ev.some rfl)))))))
    · subst h0
      obtain ⟨hsp, hsq⟩ := e2 rfl
      subst hsp hsq
      obtain ⟨r, a, b⟩ := ih (i + 1) (p + 1) q (by omega) (by omega) (by omega) (by omega) (by omega) (by omega)
      refine ⟨r, Ev.succ ?_, Ev.succ ?_⟩
      · simp only [impl_WayCost.l0, pre, succ_w (show i < 35184372088833 by omega)]
        refine Ev.pos (by omega) (Ev.pos (by omega) (Ev.pos (by omega) (Ev.pos (by omega) (Ev.bnd e1 (Ev.pos (by simp) ?_)))))
        simp only [Int.add_zero, wrap64_id (x := p + 1) (by omega) (by omega), wrap64_id (x := q) (by omega) (by omega)]
        exact a
      · simp only [spec_WayCost.l0, pre, succ_w (show i < 35184372088833 by omega), wrap64_id (x := p + 1) (by omega) (by omega)]
        exact Ev.pos (by omega) (Ev.pos (by omega) (Ev.pos (by omega) (Ev.pos (by omega) (Ev.bnd e4 (Ev.pos rfl b)))))
    · subst h0
      obtain ⟨hsp, hsq⟩ := e3 rfl
      subst hsp hsq
      obtain ⟨r, a, b⟩ := ih (i + 1) p (q + 1) (by omega) (by omega) (by omega) (by omega) (by omega) (by omega)
      refine ⟨r, Ev.succ ?_, Ev.succ ?_⟩
      · simp only [impl_WayCost.l0, pre, succ_w (show i < 35184372088833 by omega)]
        refine Ev.pos (by omega) (Ev.pos (by omega) (Ev.pos (by omega) (Ev.pos (by omega) (Ev.bnd e1 (Ev.pos (by simp) ?_)))))
        simp only [Int.add_zero, wrap64_id (x := p) (by omega) (by omega), wrap64_id (x := q + 1) (by omega) (by omega)]
        exact a
      · simp only [spec_WayCost.l0, pre, succ_w (show i < 35184372088833 by omega), wrap64_id (x := q + 1) (by omega) (by omega)]
        exact Ev.pos (by omega) (Ev.pos (by omega) (Ev.pos (by omega) (Ev.pos (by omega) (Ev.bnd e4 (Ev.neg (by omega) (Ev.pos rfl b))))))

theorem wayCost_both (w : Int) (c l : List Int) (hn : c.length ≤ 1048576) : ∃ r, Ev (fun k => impl_WayCost.f k w c l) r ∧ Ev (fun k => spec_WayCost.f k w c l) r := by
  simp only [impl_WayCost.f, spec_WayCost.f]
  have no : Ev (fun k => impl_WayCost.j0 k l true w c) (0, 0, false) ∧ Ev (fun k => spec_WayCost.j0 k l true w c) (0, 0, false) := by
    refine ⟨Ev.succ ?_, Ev.succ ?_⟩
    · simp only [impl_WayCost.j0, if_true]; exact Ev.some rfl
    · simp only [spec_WayCost.j0, if_true]; exact Ev.some rfl
  by_cases hc : Cl w c
  · by_cases h1 : (l.length : Int) < 1
    · exact ⟨_, Ev.bnd (goodCells_impl w c (by omega)) (Ev.pos (by simpa using hc) (Ev.pos h1 no.1)), Ev.bnd (goodCells_spec w c (by omega)) (Ev.pos (by simpa using hc) (Ev.pos h1 no.2))⟩
    · by_cases h2 : (l.length : Int) > 256
      · exact ⟨_, Ev.bnd (goodCells_impl w c (by omega)) (Ev.pos (by simpa using hc) (Ev.neg h1 (Ev.pos h2 no.1))), Ev.bnd (goodCells_spec w c (by omega)) (Ev.pos (by simpa using hc) (Ev.neg h1 (Ev.pos h2 no.2)))⟩
      · by_cases hf : Fr c (rd l 0)
        · obtain ⟨r, a, b⟩ := way_l0 hc l (by omega) (l.length - 1) 1 0 0 (by omega) (by omega) (by omega) (by omega) (by omega) (by omega)
          refine ⟨r, Ev.bnd (goodCells_impl w c (by omega)) (Ev.pos (by simpa using hc) (Ev.neg h1 (Ev.neg h2 (Ev.pos (by omega) (Ev.bnd0 (free_impl w c _) ?_))))), Ev.bnd (goodCells_spec w c (by omega)) (Ev.pos (by simpa using hc) (Ev.neg h1 (Ev.neg h2 (Ev.pos (by omega) (Ev.bnd0 (free_spec w c _) ?_)))))⟩
          · rw [decide_eq_true hf]
            apply Ev.succ
            simp only [impl_WayCost.j0, Bool.not_true, Bool.false_eq_true, if_false]
            exact a
          · rw [decide_eq_true hf]
            apply Ev.succ
            simp only [spec_WayCost.j0, Bool.not_true, Bool.false_eq_true, if_false]
            exact b
        · refine ⟨(0, 0, false), Ev.bnd (goodCells_impl w c (by omega)) (Ev.pos (by simpa using hc) (Ev.neg h1 (Ev.neg h2 (Ev.pos (by omega) (Ev.bnd0 (free_impl w c _) ?_))))), Ev.bnd (goodCells_spec w c (by omega)) (Ev.pos (by simpa using hc) (Ev.neg h1 (Ev.neg h2 (Ev.pos (by omega) (Ev.bnd0 (free_spec w c _) ?_)))))⟩
          · rw [decide_eq_false hf]
            exact no.1
          · rw [decide_eq_false hf]
            exact no.2
  · exact ⟨_, Ev.bnd (goodCells_impl w c (by omega)) (Ev.neg (by simpa using hc) no.1), Ev.bnd (goodCells_spec w c (by omega)) (Ev.neg (by simpa using hc) no.2)⟩

theorem FnExactWayCost : ∀ (a0_0 : Int) (l0_1 : List Int) (l1 : List Int), ((Lit.int .i64 a0_0).wf = true ∧ (l0_1.length ≤ maxLen ∧ l0_1.length * 8 ≤ 140737488351232 ∧ ∀ y0 ∈ l0_1, (Lit.int .i64 y0).wf = true)) → (l1.length ≤ maxLen ∧ l1.length * 8 ≤ 140737488351232 ∧ ∀ y0 ∈ l1, (Lit.int .i64 y0).wf = true) → ∃ k, laws_FnExactWayCost.f k a0_0 l0_1 l1 = some true := by
  intro w c l hc _
  have h1 : c.length ≤ 9223372036854775807 := by have := hc.2.1; unfold maxLen at this; omega
  apply Ev.rounds
  simp only [laws_FnExactWayCost.f]
  refine Ev.ite (fun _ => Ev.some rfl) (fun hl => ?_)
  obtain ⟨s, e1, e2⟩ := szCells_eq w c 1048576 h1 (by omega) (by omega)
  refine Ev.bnd0 e1 (Ev.ite (fun _ => Ev.some rfl) (fun h0 => ?_))
  obtain ⟨h3, h4⟩ := e2 h0
  have tc := toCells_ev w c (by omega)
  have tt := toIntS_ev l (by omega)
  obtain ⟨r, a, b⟩ := wayCost_both w c l (by omega)
  refine Ev.bnd tc (Ev.bnd tt (Ev.bnd b (Ev.bnd tc (Ev.bnd tt (Ev.bnd a (Ev.pos rfl (Ev.pos rfl (Ev.succ ?_))))))))
  simp only [laws_FnExactWayCost.j0, bne_self_eq_false, Bool.false_eq_true, if_false]
  exact Ev.bnd tc (Ev.bnd (eqCells_ev w c (by omega)) (Ev.pos rfl (Ev.bnd tt (Ev.bnd (eqIntS_ev l (by omega)) (Ev.pos rfl (Ev.some rfl))))))

end Go.Proofs.Ytjcmlggdaajicaa.Pure
