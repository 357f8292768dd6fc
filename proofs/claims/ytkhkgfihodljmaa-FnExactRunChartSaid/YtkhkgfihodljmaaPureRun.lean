/-
Own text: to run a chart: the program and the reference come to the same.
-/
import Derived.Test.YtkhkgfihodljmaaPureStep
namespace Go.Proofs.Ytkhkgfihodljmaa.Pure
open Go.RowKit Go.Proofs.YtkhkgfihodljmaaW.PrintWords Go.Proofs.YtkhkgfihodljmaaW.PrintLast Go.Proofs.Ytkhkgfihodljmaa.Pr Go.Proofs.Ytkhkgfihodljmaa.EvKit
open Classical


def Evts (l : List Int) (i : Nat) : Prop := From l.length i fun j => 0 ≤ l.getD j 0 ∧ l.getD j 0 ≤ 5

theorem goodEvents_l0 (l : List Int) (hl : l.length ≤ 1048576) (d : Nat) : ∀ i : Nat, i + d = l.length → Ev (fun k => impl_goodEvents.l0 k l l (l.length : Int) i) (decide (Evts l i ∧ l.length ≤ 60)) := by
  induction d with
  | zero =>
    intro i hi
    apply Ev.succ
    simp only [impl_goodEvents.l0, show ¬ ((i : Int) < (l.length : Int)) by omega, if_false]
    refine Ev.some ?_
    rw [decide_eq_decide]
    exact ⟨fun h => ⟨From.end_ (by omega), by omega⟩, fun h => by omega⟩
  | succ d ih =>
    intro i hi
    apply Ev.succ
    have e : rd l (i : Int) = l.getD i 0 := rfl
    simp only [impl_goodEvents.l0, show ((i : Int) < (l.length : Int)) by omega, show (0 : Int) ≤ (i : Int) by omega, if_true, e, btw, Option.bind_some, decide_eq_true_eq, succ_w (show i < 1048577 by omega)]
    have step := From.step (n := l.length) (i := i) (C := fun j => 0 ≤ l.getD j 0 ∧ l.getD j 0 ≤ 5) (by omega)
    refine Ev.ite (fun h => ?_) (fun h => ?_)
    · refine Ev.eq (ih (i + 1) (by omega)) ?_
      rw [decide_eq_decide]
      exact ⟨fun a => ⟨step.2 ⟨h, a.1⟩, a.2⟩, fun a => ⟨(step.1 a.1).2, a.2⟩⟩
    · refine Ev.some ?_
      symm
      rw [decide_eq_false_iff_not]
      exact fun a => h (step.1 a.1).1

theorem events_l0 (l : List Int) (hl : l.length ≤ 60) (d : Nat) : ∀ i : Nat, i + d = l.length → Ev (fun k => spec_l21Events.l0 k l (l.length : Int) i) (decide (Evts l i)) := by
  induction d with
  | zero =>
    intro i hi
    apply Ev.succ
    simp only [spec_l21Events.l0, show ¬ ((i : Int) < (l.length : Int)) by omega, if_false]
    refine Ev.some ?_
    symm
    rw [decide_eq_true_eq]
    exact From.end_ (by omega)
  | succ d ih =>
    intro i hi
    apply Ev.succ
    have e : rd l (i : Int) = l.getD i 0 := rfl
    have ev1 : ∀ ev, spec_l21Event.f ev = some (decide (0 ≤ ev ∧ ev ≤ 5)) := by
      intro ev
      unfold spec_l21Event.f
      by_cases h : ev ≥ 0 <;> simp [h] <;> omega
    simp only [spec_l21Events.l0, show ((i : Int) < (l.length : Int)) by omega, show (0 : Int) ≤ (i : Int) by omega, if_true, e, ev1, Option.bind_some, decide_eq_true_eq, succ_w (show i < 1048577 by omega)]
    have step := From.step (n := l.length) (i := i) (C := fun j => 0 ≤ l.getD j 0 ∧ l.getD j 0 ≤ 5) (by omega)
    refine Ev.ite (fun h => ?_) (fun h => ?_)
    · refine Ev.eq (ih (i + 1) (by omega)) ?_
      rw [decide_eq_decide]
      exact ⟨fun a => step.2 ⟨h, a⟩, fun a => (step.1 a).2⟩
    · refine Ev.some ?_
      symm
      rw [decide_eq_false_iff_not]
      exact fun a => h (step.1 a).1
theorem goodEvents_ev (l : List Int) (hl : l.length ≤ 1048576) : Ev (fun k => impl_goodEvents.f k l) (decide (Evts l 0 ∧ l.length ≤ 60)) := by
  simp only [impl_goodEvents.f]
  exact goodEvents_l0 l hl l.length 0 (by omega)
theorem events_ev (l : List Int) : Ev (fun k => spec_l21Events.f k l) (decide (Evts l 0 ∧ l.length ≤ 60)) := by
  simp only [spec_l21Events.f]
  refine Ev.ite (fun h => Ev.some ?_) (fun h => ?_)
  · symm
    rw [decide_eq_false_iff_not]
    omega
  · refine Ev.eq (events_l0 l (by omega) l.length 0 (by omega)) ?_
    rw [decide_eq_decide]
    exact ⟨fun a => ⟨a, by omega⟩, fun a => a.1⟩

/-- The two runs, from event i on, over what has been run. -/
theorem run_both {st : List S88} {ar : List S90} (g : GC st ar) (l : List Int) (hl : l.length ≤ 60) (d : Nat) : ∀ (i leaf : Nat) (x : List Int), i + d = l.length → leaf < st.length → (ST st leaf).f1 < 0 → x.length = i →
    ∃ y : List Int, y.length = x.length + 1 + d ∧ (∀ z ∈ y, z ∈ x ++ [(leaf : Int)] ∨ (0 ≤ z ∧ z < st.length)) ∧ Ev (fun k => impl_RunChart.l0 k (x ++ [(leaf : Int)]) l (l.length : Int) i st ar) (y, true) ∧ Ev (fun k => spec_RunChart.l0 k leaf (x ++ [(leaf : Int)]) l (l.length : Int) i st ar) (y, true) := by
  induction d with
  | zero =>
    intro i leaf x hi h1 h2 hx
    refine ⟨x ++ [(leaf : Int)], by simp, fun z hz => Or.inl hz, Ev.succ ?_, Ev.succ ?_⟩
    · simp only [impl_RunChart.l0, show ¬ ((i : Int) < (l.length : Int)) by omega, if_false]
      exact Ev.some rfl
    · simp only [spec_RunChart.l0, show ¬ ((i : Int) < (l.length : Int)) by omega, if_false]
      exact Ev.some rfl
  | succ d ih =>
    intro i leaf x hi h1 h2 hx
    obtain ⟨r, q1, q2, q3⟩ := step_ev g leaf h1 h2 (rd l (i : Int))
    obtain ⟨y, y1, y2, y3, y4⟩ := ih (i + 1) r (x ++ [(leaf : Int)]) (by omega) q1 q2 (by simp [hx])
    have hlast : rd (x ++ [(leaf : Int)]) (((x ++ [(leaf : Int)]).length : Int) - 1) = leaf := by
      unfold rd
      rw [show (((x ++ [(leaf : Int)]).length : Int) - 1).toNat = x.length by simp]
      simp [List.getD_eq_getElem?_getD]
    have hlen : (x ++ [(leaf : Int)]).length = x.length + 1 := by simp
    refine ⟨y, by simp at y1; omega, ?_, Ev.succ ?_, Ev.succ ?_⟩
    · intro z hz
      rcases y2 z hz with h | h
      · rcases List.mem_append.1 h with h | h
        · exact Or.inl h
        · have := List.mem_singleton.1 h
          exact Or.inr (by omega)
      · exact Or.inr h
    · simp only [impl_RunChart.l0, show ((i : Int) < (l.length : Int)) by omega, show (0 : Int) ≤ (i : Int) by omega, if_true, succ_w (show i < 1048577 by omega),
        wrap64_id (x := ((x ++ [(leaf : Int)]).length : Int) - 1) (by rw [hlen]; omega) (by rw [hlen]; omega), hlast]
      refine Ev.pos (by rw [hlen]; omega) (Ev.pos (by rw [hlen]; omega) (Ev.bnd q3 (Ev.pos (by rw [hlen]; omega) y3)))
    · simp only [spec_RunChart.l0, show ((i : Int) < (l.length : Int)) by omega, show (0 : Int) ≤ (i : Int) by omega, if_true, succ_w (show i < 1048577 by omega), step_same_f]
      exact Ev.bnd q3 (Ev.pos (by rw [hlen]; omega) y4)

theorem runChart_both (st : List S88) (ar : List S90) (l : List Int) (hl : l.length ≤ 1048576) :
    ∃ (y : List Int) (b : Bool), y.length ≤ 61 ∧ Ev (fun k => impl_RunChart.f k st ar l) (y, b) ∧ Ev (fun k => spec_RunChart.f k st ar l) (y, b) := by
  simp only [impl_RunChart.f, spec_RunChart.f]
  have no : ∀ q x st ar, q = true → Ev (fun k => impl_RunChart.j0 k x q st ar) ([], false) ∧ Ev (fun k => spec_RunChart.j0 k x q st ar) ([], false) := by
    intro q x st ar hq
    subst hq
    refine ⟨Ev.succ ?_, Ev.succ ?_⟩
    · simp only [impl_RunChart.j0, if_true]; exact Ev.some rfl
    · simp only [spec_RunChart.j0, if_true]; exact Ev.some rfl
  by_cases g : GC st ar
  · by_cases he : Evts l 0 ∧ l.length ≤ 60
    · obtain ⟨r, h1, h2, h3⟩ := enter_ev g st.length 0 (by have := g.1; omega) (by omega)
      obtain ⟨y, y1, _, y3, y4⟩ := run_both g l he.2 l.length 0 r [] (by omega) h1 h2 rfl
      refine ⟨y, true, by simp at y1; omega, Ev.bnd (implGC st ar) (Ev.pos (by simpa using g) (Ev.bnd (goodEvents_ev l hl) ?_)), Ev.bnd (specGC st ar) (Ev.pos (by simpa using g) (Ev.bnd (events_ev l) ?_))⟩
      · rw [show (!decide (Evts l 0 ∧ l.length ≤ 60)) = false by simpa using he]
        apply Ev.succ
        simp only [impl_RunChart.j0, Bool.false_eq_true, if_false, impl_Chart_enter.f]
        exact Ev.bnd h3 y3
      · rw [show (!decide (Evts l 0 ∧ l.length ≤ 60)) = false by simpa using he]
        apply Ev.succ
        simp only [spec_RunChart.j0, Bool.false_eq_true, if_false, enter_same_f, impl_Chart_enter.f]
        exact Ev.bnd h3 y4
    · refine ⟨[], false, by simp, Ev.bnd (implGC st ar) (Ev.pos (by simpa using g) (Ev.bnd (goodEvents_ev l hl) ?_)), Ev.bnd (specGC st ar) (Ev.pos (by simpa using g) (Ev.bnd (events_ev l) ?_))⟩
      · exact (no _ _ _ _ (by rw [decide_eq_false he]; rfl)).1
      · exact (no _ _ _ _ (by rw [decide_eq_false he]; rfl)).2
  · exact ⟨[], false, by simp, Ev.bnd (implGC st ar) (Ev.neg (by simpa using g) (no _ _ _ _ rfl).1), Ev.bnd (specGC st ar) (Ev.neg (by simpa using g) (no _ _ _ _ rfl).2)⟩

end Go.Proofs.Ytkhkgfihodljmaa.Pure
