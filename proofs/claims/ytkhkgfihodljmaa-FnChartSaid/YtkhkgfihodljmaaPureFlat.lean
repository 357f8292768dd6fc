/- FlatChart, both: the same table, of at most 12 rows of at most 6 numbers. -/
import Derived.Test.YtkhkgfihodljmaaPureStp
namespace Go.Proofs.Ytkhkgfihodljmaa.Pure
open Go.RowKit Go.Proofs.YtkhkgfihodljmaaW.PrintWords Go.Proofs.YtkhkgfihodljmaaW.PrintLast Go.Proofs.Ytkhkgfihodljmaa.Pr Go.Proofs.Ytkhkgfihodljmaa.EvKit
open Classical
set_option linter.unusedVariables false

noncomputable def stp (st : List S88) (ar : List S90) (s e : Nat) : Int := if h : ∃ r : Int, Ev (fun k => impl_Chart_step.f k st ar s e) r then Classical.choose h else 0
theorem stp_ev {st : List S88} {ar : List S90} (g : GC st ar) (s : Nat) (hs : s < st.length) (h1 : (ST st s).f1 < 0) (e : Nat) : Ev (fun k => impl_Chart_step.f k st ar s e) (stp st ar s e) := by
  obtain ⟨r, _, _, h⟩ := step_ev g s hs h1 (e : Int)
  have hx : ∃ r : Int, Ev (fun k => impl_Chart_step.f k st ar s e) r := ⟨r, h⟩
  unfold stp
  rw [dif_pos hx]
  exact Classical.choose_spec hx
noncomputable def row (st : List S88) (ar : List S90) (s : Nat) : List Int := if (ST st s).f1 < 0 then (List.range 6).map (stp st ar s) else []
noncomputable def tab (st : List S88) (ar : List S90) : List (List Int) := (List.range st.length).map (row st ar)

theorem flat_l1 {st : List S88} {ar : List S90} (g : GC st ar) (s : Nat) (hs : s < st.length) (h1 : (ST st s).f1 < 0) (R : List (List Int) × Bool) (x4 : List (List Int)) (hx : x4.length ≤ 12) (p : Int)
    (hk : Ev (fun k => impl_FlatChart.l0 k (x4 ++ [row st ar s]) st (st.length : Int) (wrap64 ((s : Int) + 1)) st ar) R) (d : Nat) : ∀ e : Nat, e + d = 6 →
    Ev (fun k => impl_FlatChart.l1 k x4 s ((List.range e).map (stp st ar s)) e st (st.length : Int) s st ar p (ST st s).f1) R := by
  induction d with
  | zero =>
    intro e he
    obtain rfl : e = 6 := by omega
    refine Ev.succ ?_
    simp only [impl_FlatChart.l1, show ¬ (((6 : Nat) : Int) < 6) by omega, if_false]
    refine Ev.pos (by omega) ?_
    have : row st ar s = (List.range 6).map (stp st ar s) := by unfold row; rw [if_pos h1]
    rw [← this]
    exact hk
  | succ d ih =>
    intro e he
    refine Ev.succ ?_
    simp only [impl_FlatChart.l1, show (((e : Nat) : Int) < 6) by omega, h1, if_true]
    refine Ev.bnd (stp_ev g s hs h1 e) (Ev.pos (by simp; omega) ?_)
    rw [show wrap64 ((e : Int) + 1) = ((e + 1 : Nat) : Int) by rw [wrap64_id (by omega) (by omega)]; omega]
    have := ih (e + 1) (by omega)
    rw [List.range_succ, List.map_append] at this
    exact this

theorem flat_l0 {st : List S88} {ar : List S90} (g : GC st ar) (hn : st.length ≤ 12) (d : Nat) : ∀ i : Nat, i + d = st.length →
    Ev (fun k => impl_FlatChart.l0 k ((List.range i).map (row st ar)) st (st.length : Int) i st ar) (tab st ar, true) := by
  induction d with
  | zero =>
    intro i hi
    obtain rfl : i = st.length := by omega
    refine Ev.succ ?_
    simp only [impl_FlatChart.l0, show ¬ ((st.length : Int) < (st.length : Int)) by omega, if_false]
    exact Ev.some rfl
  | succ d ih =>
    intro i hi
    have e : rd_T88 st (i : Int) = ST st i := rfl
    have nx : wrap64 ((i : Int) + 1) = ((i + 1 : Nat) : Int) := by rw [wrap64_id (by omega) (by omega)]; omega
    have := ih (i + 1) (by omega)
    rw [List.range_succ, List.map_append, ← nx] at this
    refine Ev.succ ?_
    simp only [impl_FlatChart.l0, show ((i : Int) < (st.length : Int)) by omega, show (0 : Int) ≤ (i : Int) by omega, if_true, e]
    by_cases h1 : (ST st i).f1 < 0
    · exact flat_l1 g i (by omega) h1 _ _ (by simp; omega) _ this 6 0 (by omega)
    · refine Ev.succ ?_
      simp only [impl_FlatChart.l1, show ((0 : Int) < 6) by omega, h1, if_true, if_false]
      refine Ev.pos (by simp; omega) ?_
      have hr : row st ar i = [] := by unfold row; rw [if_neg h1]
      rw [List.map_singleton, hr] at this
      exact this

theorem sflat_l1 {st : List S88} {ar : List S90} (g : GC st ar) (s : Nat) (hs : s < st.length) (hn : st.length ≤ 12) (h1 : (ST st s).f1 < 0) (R : List (List Int) × Bool) (X Y : List (List Int)) (hx : X.length = s)
    (hk : Ev (fun k => spec_FlatChart.l0 k (X ++ row st ar s :: Y) st (st.length : Int) (wrap64 ((s : Int) + 1)) st ar) R) (d : Nat) : ∀ e : Nat, e + d = 6 →
    Ev (fun k => spec_FlatChart.l1 k (X ++ (List.range e).map (stp st ar s) :: Y) s e st (st.length : Int) s st ar) R := by
  induction d with
  | zero =>
    intro e he
    obtain rfl : e = 6 := by omega
    refine Ev.succ ?_
    simp only [spec_FlatChart.l1, show ¬ (((6 : Nat) : Int) < 6) by omega, if_false]
    have : row st ar s = (List.range 6).map (stp st ar s) := by unfold row; rw [if_pos h1]
    rw [← this]
    exact hk
  | succ d ih =>
    intro e he
    have hg : rd_L2 (X ++ (List.range e).map (stp st ar s) :: Y) (s : Int) = (List.range e).map (stp st ar s) := by
      unfold rd_L2
      rw [Int.toNat_natCast, ← hx, List.getD_eq_getElem?_getD, List.getElem?_append_right (Nat.le_refl _)]
      simp
    refine Ev.succ ?_
    simp only [spec_FlatChart.l1, show (((e : Nat) : Int) < 6) by omega, show (0 : Int) ≤ (s : Int) by omega, if_true, hg, step_same_f]
    refine Ev.pos (by simp; omega) (Ev.bnd (stp_ev g s hs h1 e) (Ev.pos (by simp; omega) ?_))
    rw [show wrap64 ((e : Int) + 1) = ((e + 1 : Nat) : Int) by rw [wrap64_id (by omega) (by omega)]; omega]
    have := ih (e + 1) (by omega)
    rw [List.range_succ, List.map_append] at this
    rw [Int.toNat_natCast, show (X ++ (List.range e).map (stp st ar s) :: Y).set s ((List.range e).map (stp st ar s) ++ [stp st ar s e]) = X ++ ((List.range e).map (stp st ar s) ++ [stp st ar s e]) :: Y from by
      rw [List.set_append, if_neg (by omega), ← hx, Nat.sub_self]; rfl]
    exact this

theorem sflat_l0 {st : List S88} {ar : List S90} (g : GC st ar) (hn : st.length ≤ 12) (d : Nat) : ∀ i : Nat, i + d = st.length →
    Ev (fun k => spec_FlatChart.l0 k ((List.range i).map (row st ar) ++ List.replicate d []) st (st.length : Int) i st ar) (tab st ar, true) := by
  induction d with
  | zero =>
    intro i hi
    obtain rfl : i = st.length := by omega
    refine Ev.succ ?_
    simp only [spec_FlatChart.l0, show ¬ ((st.length : Int) < (st.length : Int)) by omega, if_false]
    exact Ev.some (by simp [tab])
  | succ d ih =>
    intro i hi
    have e : rd_T88 st (i : Int) = ST st i := rfl
    have nx : wrap64 ((i : Int) + 1) = ((i + 1 : Nat) : Int) := by rw [wrap64_id (by omega) (by omega)]; omega
    have := ih (i + 1) (by omega)
    rw [List.range_succ, List.map_append, List.map_singleton, List.append_assoc, List.singleton_append, ← nx] at this
    have hf := first_or g (s := i) (by omega)
    refine Ev.succ ?_
    simp only [spec_FlatChart.l0, show ((i : Int) < (st.length : Int)) by omega, show (0 : Int) ≤ (i : Int) by omega, if_true, e, List.replicate_succ]
    by_cases h1 : (ST st i).f1 < 0
    · refine Ev.pos (by omega) ?_
      exact sflat_l1 g i (by omega) hn h1 _ _ _ (by simp) this 6 0 (by omega)
    · refine Ev.neg (by omega) ?_
      have hr : row st ar i = [] := by unfold row; rw [if_neg h1]
      rw [hr] at this
      exact this

theorem tab_small {st : List S88} {ar : List S90} (hn : st.length ≤ 12) : (tab st ar).length ≤ 12 ∧ ∀ x ∈ tab st ar, x.length ≤ 6 := by
  refine ⟨by simp [tab]; exact hn, fun x hx => ?_⟩
  obtain ⟨s, _, rfl⟩ := List.mem_map.1 hx
  unfold row
  split <;> simp
theorem flat_both (st : List S88) (ar : List S90) : ∃ (t : List (List Int)) (b : Bool), t.length ≤ 12 ∧ (∀ x ∈ t, x.length ≤ 6) ∧ Ev (fun k => impl_FlatChart.f k st ar) (t, b) ∧ Ev (fun k => spec_FlatChart.f k st ar) (t, b) := by
  simp only [impl_FlatChart.f, spec_FlatChart.f]
  by_cases g : GC st ar
  · have hn := g.2.1
    refine ⟨tab st ar, true, (tab_small (ar := ar) hn).1, (tab_small (ar := ar) hn).2, Ev.bnd (implGC st ar) (Ev.pos (by simpa using g) (flat_l0 g hn st.length 0 (by omega))), Ev.bnd (specGC st ar) (Ev.pos (by simpa using g) (Ev.pos (by omega) (Ev.pos (by omega) ?_)))⟩
    exact sflat_l0 g hn st.length 0 (by omega)
  · exact ⟨[], false, by simp, by simp, Ev.bnd (implGC st ar) (Ev.neg (by simpa using g) (Ev.some rfl)), Ev.bnd (specGC st ar) (Ev.neg (by simpa using g) (Ev.some rfl))⟩
end Go.Proofs.Ytkhkgfihodljmaa.Pure
