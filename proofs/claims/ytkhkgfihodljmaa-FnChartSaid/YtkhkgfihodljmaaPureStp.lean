/-
Own text: to enter a state, to step, to run: the program's and the reference's come to the same, on a good chart.
-/
import Derived.Test.YtkhkgfihodljmaaPureGoodChart
namespace Go.Proofs.Ytkhkgfihodljmaa.Pure
open Go.RowKit Go.Proofs.YtkhkgfihodljmaaW.PrintWords Go.Proofs.YtkhkgfihodljmaaW.PrintLast Go.Proofs.Ytkhkgfihodljmaa.Pr Go.Proofs.Ytkhkgfihodljmaa.EvKit
open Classical

theorem enter_same (k : Nat) : ∀ (x : Int) (st : List S88) (ar : List S90), spec_l21Enter.l0 k x st ar = impl_Chart_enter.l0 k x st ar := by
  induction k with
  | zero => intros; rfl
  | succ k ih =>
    intro x st ar
    simp only [spec_l21Enter.l0, impl_Chart_enter.l0, ih]
theorem enter_same_f (k : Nat) (st : List S88) (ar : List S90) (x : Int) : spec_l21Enter.f k st ar x = impl_Chart_enter.f k st ar x := enter_same k x st ar

theorem first_up {st : List S88} {ar : List S90} (g : GC st ar) {s : Nat} (hs : s < st.length) (hf : (ST st s).f1 ≥ 0) : (ST st s).f1.toNat < st.length ∧ s < (ST st s).f1.toNat := by
  obtain ⟨_, _, _, a, _⟩ := g
  have h := (a s (by omega) hs).2
  unfold Fi at h
  by_cases hk : KidTo st s st.length
  · obtain ⟨h1, h2, h3⟩ := h.1 hk
    refine ⟨by omega, ?_⟩
    have hp := (a (ST st s).f1.toNat (by omega) (by omega)).1
    unfold Pa at hp
    omega
  · have := h.2 hk
    omega

theorem enter_ev {st : List S88} {ar : List S90} (g : GC st ar) (d : Nat) : ∀ s : Nat, s < st.length → st.length - s ≤ d → ∃ r : Nat, r < st.length ∧ (ST st r).f1 < 0 ∧ Ev (fun k => impl_Chart_enter.l0 k s st ar) r := by
  induction d with
  | zero => intro s h1 h2; omega
  | succ d ih =>
    intro s hs hd
    have e : rd_T88 st (s : Int) = ST st s := rfl
    by_cases hf : (ST st s).f1 ≥ 0
    · obtain ⟨h1, h2⟩ := first_up g hs hf
      obtain ⟨r, hr, hr1, hr2⟩ := ih _ h1 (by omega)
      refine ⟨r, hr, hr1, Ev.succ ?_⟩
      simp only [impl_Chart_enter.l0, show (0 : Int) ≤ (s : Int) by omega, show (s : Int) < (st.length : Int) by omega, if_true, e, hf]
      rwa [show (((ST st s).f1.toNat : Nat) : Int) = (ST st s).f1 by omega] at hr2
    · refine ⟨s, hs, by omega, Ev.succ ?_⟩
      simp only [impl_Chart_enter.l0, show (0 : Int) ≤ (s : Int) by omega, show (s : Int) < (st.length : Int) by omega, if_true, e, hf, if_false]
      exact Ev.some rfl

theorem step_same (k : Nat) : (∀ (a b c : Int) (st : List S88) (ar : List S90), spec_l21Step.l0 k a b c st ar = impl_Chart_step.l0 k a b c st ar) ∧
    (∀ (a b c : Int) (x : List S90) (p q : Int) (st : List S88) (ar : List S90), spec_l21Step.l1 k a b c x p q st ar = impl_Chart_step.l1 k a b c x p q st ar) := by
  induction k with
  | zero => exact ⟨fun _ _ _ _ _ => rfl, fun _ _ _ _ _ _ _ _ => rfl⟩
  | succ k ih =>
    refine ⟨fun a b c st ar => ?_, fun a b c x p q st ar => ?_⟩
    · simp only [spec_l21Step.l0, impl_Chart_step.l0, ih.2]
    · simp only [spec_l21Step.l1, impl_Chart_step.l1, ih.1, ih.2, enter_same_f]
theorem step_same_f (k : Nat) (st : List S88) (ar : List S90) (x y : Int) : spec_l21Step.f k st ar x y = impl_Chart_step.f k st ar x y := (step_same k).1 x y x st ar

/-- The arrows from i on: an arrow is taken, or none. -/
theorem step_l1 {st : List S88} {ar : List S90} (g : GC st ar) (leaf ev : Int) (s : Nat) (hs : s < st.length)
    (up : ∃ r : Nat, r < st.length ∧ (ST st r).f1 < 0 ∧ Ev (fun k => impl_Chart_step.l0 k leaf ev (ST st s).f0 st ar) r) (d : Nat) : ∀ i : Nat, i + d = ar.length →
    ∃ r : Nat, r < st.length ∧ (ST st r).f1 < 0 ∧ Ev (fun k => impl_Chart_step.l1 k leaf ev s ar (ar.length : Int) i st ar) r := by
  induction d with
  | zero =>
    intro i hi
    obtain ⟨r, h1, h2, h3⟩ := up
    refine ⟨r, h1, h2, Ev.succ ?_⟩
    have e : rd_T88 st (s : Int) = ST st s := rfl
    simp only [impl_Chart_step.l1, show ¬ ((i : Int) < (ar.length : Int)) by omega, if_false, show (0 : Int) ≤ (s : Int) by omega, show (s : Int) < (st.length : Int) by omega, if_true, e]
    exact h3
  | succ d ih =>
    intro i hi
    obtain ⟨r, h1, h2, h3⟩ := ih (i + 1) (by omega)
    have e : rd_T90 ar (i : Int) = ar.getD i z90 := rfl
    have hA := g.2.2.2.2 i (by omega) (by omega)
    have har := g.2.2.1
    by_cases ht : (ar.getD i z90).f0 = (s : Int) ∧ (ar.getD i z90).f1 = ev
    · obtain ⟨p, q1, q2, q3⟩ := enter_ev g st.length (ar.getD i z90).f2.toNat (by unfold Arr at hA; omega) (by omega)
      rw [show (((ar.getD i z90).f2.toNat : Nat) : Int) = (ar.getD i z90).f2 by unfold Arr at hA; omega] at q3
      refine ⟨p, q1, q2, Ev.succ ?_⟩
      simp only [impl_Chart_step.l1, show ((i : Int) < (ar.length : Int)) by omega, show (0 : Int) ≤ (i : Int) by omega, if_true, e, impl_Chart_enter.f]
      exact Ev.pos ht.1 (Ev.pos ht.2 (Ev.bnd q3 (Ev.some rfl)))
    · refine ⟨r, h1, h2, Ev.succ ?_⟩
      simp only [impl_Chart_step.l1, show ((i : Int) < (ar.length : Int)) by omega, show (0 : Int) ≤ (i : Int) by omega, if_true, e, succ_w (show i < 1048577 by omega)]
      exact Ev.ite (fun a => Ev.neg (fun b => ht ⟨a, b⟩) h3) (fun _ => h3)

theorem step_l0 {st : List S88} {ar : List S90} (g : GC st ar) (leaf : Nat) (hl : leaf < st.length) (hl1 : (ST st leaf).f1 < 0) (ev : Int) (d : Nat) : ∀ s : Int, -1 ≤ s → s < st.length → s < d →
    ∃ r : Nat, r < st.length ∧ (ST st r).f1 < 0 ∧ Ev (fun k => impl_Chart_step.l0 k leaf ev s st ar) r := by
  induction d with
  | zero =>
    intro s h0 h1 h2
    refine ⟨leaf, hl, hl1, Ev.succ ?_⟩
    simp only [impl_Chart_step.l0, show ¬ (s ≥ 0) by omega, if_false]
    exact Ev.some rfl
  | succ d ih =>
    intro s h0 h1 h2
    by_cases hs : s ≥ 0
    · obtain ⟨n, rfl⟩ := nat_of hs
      have hp := (g.2.2.2.1 n (by omega) (by omega)).1
      unfold Pa at hp
      have up := ih (ST st n).f0 (by omega) (by omega) (by omega)
      obtain ⟨r, q1, q2, q3⟩ := step_l1 g leaf ev n (by omega) up ar.length 0 (by omega)
      refine ⟨r, q1, q2, Ev.succ ?_⟩
      simp only [impl_Chart_step.l0, hs, if_true]
      exact q3
    · refine ⟨leaf, hl, hl1, Ev.succ ?_⟩
      simp only [impl_Chart_step.l0, hs, if_false]
      exact Ev.some rfl
theorem step_ev {st : List S88} {ar : List S90} (g : GC st ar) (leaf : Nat) (hl : leaf < st.length) (hl1 : (ST st leaf).f1 < 0) (ev : Int) :
    ∃ r : Nat, r < st.length ∧ (ST st r).f1 < 0 ∧ Ev (fun k => impl_Chart_step.f k st ar leaf ev) r :=
  step_l0 g leaf hl hl1 ev (leaf + 1) leaf (by omega) (by omega) (by omega)

theorem btw (a lo hi : Int) : impl_between.f a lo hi = some (decide (lo ≤ a ∧ a ≤ hi)) := by
  unfold impl_between.f
  by_cases h : a ≥ lo <;> simp [h] <;> omega

/-- A good chart's first is -1, or a state. -/
theorem first_or {st : List S88} {ar : List S90} (g : GC st ar) {s : Nat} (hs : s < st.length) : (ST st s).f1 = -1 ∨ 0 ≤ (ST st s).f1 := by
  have h := (g.2.2.2.1 s (by omega) hs).2
  unfold Fi at h
  by_cases hk : KidTo st s st.length
  · exact Or.inr (h.1 hk).1
  · exact Or.inl (h.2 hk)

end Go.Proofs.Ytkhkgfihodljmaa.Pure
