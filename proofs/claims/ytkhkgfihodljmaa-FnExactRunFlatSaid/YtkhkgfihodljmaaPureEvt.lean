/-
Own text: to run a chart: the program and the reference come to the same.
-/
import Derived.Test.YtkhkgfihodljmaaPureStp
namespace Go.Proofs.Ytkhkgfihodljmaa.Pure
open Go.RowKit Go.Proofs.YtkhkgfihodljmaaW.PrintWords Go.Proofs.YtkhkgfihodljmaaW.PrintLast Go.Proofs.Ytkhkgfihodljmaa.Pr Go.Proofs.Ytkhkgfihodljmaa.EvKit
open Classical


def Evts (l : List Int) (i : Nat) : Prop := From l.length i fun j => 0 ≤ l.getD j 0 ∧ l.getD j 0 ≤ 5

theorem goodEvents_l0 (l : List Int) (hl : l.length ≤ 1048576) (d : Nat) : ∀ i : Nat, i + d = l.length → Ev (fun k => impl_goodEvents.l0 k l l (l.length : Int) i) (decide (Evts l i ∧ l.length ≤ 60)) := by
  induction d with
  | zero =>
    intro i hi
    apply Ev.succ
    simp only [impl_goodEvents.l0, show ¬ ((i : Int) < (l.length : Int)) by omega, if_false]
    refine Ev.some ?_
    rw [decide_eq_decide]
    exact ⟨fun h => ⟨From.end_ (by omega), by omega⟩, fun h => by omega⟩
  | succ d ih =>
    intro i hi
    apply Ev.succ
    have e : rd l (i : Int) = l.getD i 0 := rfl
    simp only [impl_goodEvents.l0, show ((i : Int) < (l.length : Int)) by omega, show (0 : Int) ≤ (i : Int) by omega, if_true, e, btw, Option.bind_some, decide_eq_true_eq, succ_w (show i < 1048577 by omega)]
    have step := From.step (n := l.length) (i := i) (C := fun j => 0 ≤ l.getD j 0 ∧ l.getD j 0 ≤ 5) (by omega)
    refine Ev.ite (fun h => ?_) (fun h => ?_)
    · refine Ev.eq (ih (i + 1) (by omega)) ?_
      rw [decide_eq_decide]
      exact ⟨fun a => ⟨step.2 ⟨h, a.1⟩, a.2⟩, fun a => ⟨(step.1 a.1).2, a.2⟩⟩
    · refine Ev.some ?_
      symm
      rw [decide_eq_false_iff_not]
      exact fun a => h (step.1 a.1).1

theorem events_l0 (l : List Int) (hl : l.length ≤ 60) (d : Nat) : ∀ i : Nat, i + d = l.length → Ev (fun k => spec_l21Events.l0 k l (l.length : Int) i) (decide (Evts l i)) := by
  induction d with
  | zero =>
    intro i hi
    apply Ev.succ
    simp only [spec_l21Events.l0, show ¬ ((i : Int) < (l.length : Int)) by omega, if_false]
    refine Ev.some ?_
    symm
    rw [decide_eq_true_eq]
    exact From.end_ (by omega)
  | succ d ih =>
    intro i hi
    apply Ev.succ
    have e : rd l (i : Int) = l.getD i 0 := rfl
    have ev1 : ∀ ev, spec_l21Event.f ev = some (decide (0 ≤ ev ∧ ev ≤ 5)) := by
      intro ev
      unfold spec_l21Event.f
      by_cases h : ev ≥ 0 <;> simp [h] <;> omega
    simp only [spec_l21Events.l0, show ((i : Int) < (l.length : Int)) by omega, show (0 : Int) ≤ (i : Int) by omega, if_true, e, ev1, Option.bind_some, decide_eq_true_eq, succ_w (show i < 1048577 by omega)]
    have step := From.step (n := l.length) (i := i) (C := fun j => 0 ≤ l.getD j 0 ∧ l.getD j 0 ≤ 5) (by omega)
    refine Ev.ite (fun h => ?_) (fun h => ?_)
    · refine Ev.eq (ih (i + 1) (by omega)) ?_
      rw [decide_eq_decide]
      exact ⟨fun a => step.2 ⟨h, a⟩, fun a => (step.1 a).2⟩
    · refine Ev.some ?_
      symm
      rw [decide_eq_false_iff_not]
      exact fun a => h (step.1 a).1
theorem goodEvents_ev (l : List Int) (hl : l.length ≤ 1048576) : Ev (fun k => impl_goodEvents.f k l) (decide (Evts l 0 ∧ l.length ≤ 60)) := by
  simp only [impl_goodEvents.f]
  exact goodEvents_l0 l hl l.length 0 (by omega)
theorem events_ev (l : List Int) : Ev (fun k => spec_l21Events.f k l) (decide (Evts l 0 ∧ l.length ≤ 60)) := by
  simp only [spec_l21Events.f]
  refine Ev.ite (fun h => Ev.some ?_) (fun h => ?_)
  · symm
    rw [decide_eq_false_iff_not]
    omega
  · refine Ev.eq (events_l0 l (by omega) l.length 0 (by omega)) ?_
    rw [decide_eq_decide]
    exact ⟨fun a => ⟨a, by omega⟩, fun a => a.1⟩

end Go.Proofs.Ytkhkgfihodljmaa.Pure
