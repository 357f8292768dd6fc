/- RunFlat, both: the same. -/
import Derived.Test.YtkhkgfihodljmaaPureStp
import Derived.Test.YtkhkgfihodljmaaRfd
namespace Go.Proofs.Ytkhkgfihodljmaa.Pure
open Go.RowKit Go.Proofs.YtkhkgfihodljmaaW.PrintWords Go.Proofs.YtkhkgfihodljmaaW.PrintLast Go.Proofs.Ytkhkgfihodljmaa.Pr Go.Proofs.Ytkhkgfihodljmaa.EvKit
open Classical



def Evts (l : List Int) (i : Nat) : Prop := From l.length i fun j => 0 ≤ l.getD j 0 ∧ l.getD j 0 ≤ 5

theorem goodEvents_l0 (l : List Int) (hl : l.length ≤ 1048576) (d : Nat) : ∀ i : Nat, i + d = l.length → Ev (fun k => impl_goodEvents.l0 k l l (l.length : Int) i) (decide (Evts l i ∧ l.length ≤ 60)) := by
  induction d with
  | zero =>
    intro i hi
    apply Ev.succ
    simp only [impl_goodEvents.l0, show ¬ ((i : Int) < (l.length : Int)) by omega, if_false]
    refine Ev.some ?_
    rw [decide_eq_decide]
    exact ⟨fun h => ⟨From.end_ (by omega), by omega⟩, fun h => by omega⟩
  | succ d ih =>
    intro i hi
    apply Ev.succ
    have e : rd l (i : Int) = l.getD i 0 := rfl
    simp only [impl_goodEvents.l0, show ((i : Int) < (l.length : Int)) by omega, show (0 : Int) ≤ (i : Int) by omega, if_true, e, btw, Option.bind_some, decide_eq_true_eq, succ_w (show i < 1048577 by omega)]
    have step := From.step (n := l.length) (i := i) (C := fun j => 0 ≤ l.getD j 0 ∧ l.getD j 0 ≤ 5) (by omega)
    refine Ev.ite (fun h => ?_) (fun h => ?_)
    · refine Ev.eq (ih (i + 1) (by omega)) ?_
      rw [decide_eq_decide]
      exact ⟨fun a => ⟨step.2 ⟨h, a.1⟩, a.2⟩, fun a => ⟨(step.1 a.1).2, a.2⟩⟩
    · refine Ev.some ?_
      symm
      rw [decide_eq_false_iff_not]
      exact fun a => h (step.1 a.1).1

theorem events_l0 (l : List Int) (hl : l.length ≤ 60) (d : Nat) : ∀ i : Nat, i + d = l.length → Ev (fun k => spec_l21Events.l0 k l (l.length : Int) i) (decide (Evts l i)) := by
  induction d with
  | zero =>
    intro i hi
    apply Ev.succ
    simp only [spec_l21Events.l0, show ¬ ((i : Int) < (l.length : Int)) by omega, if_false]
    refine Ev.some ?_
    symm
    rw [decide_eq_true_eq]
    exact From.end_ (by omega)
  | succ d ih =>
    intro i hi
    apply Ev.succ
    have e : rd l (i : Int) = l.getD i 0 := rfl
    have ev1 : ∀ ev, spec_l21Event.f ev = some (decide (0 ≤ ev ∧ ev ≤ 5)) := by
      intro ev
      unfold spec_l21Event.f
      by_cases h : ev ≥ 0 <;> simp [h] <;> omega
    simp only [spec_l21Events.l0, show ((i : Int) < (l.length : Int)) by omega, show (0 : Int) ≤ (i : Int) by omega, if_true, e, ev1, Option.bind_some, decide_eq_true_eq, succ_w (show i < 1048577 by omega)]
    have step := From.step (n := l.length) (i := i) (C := fun j => 0 ≤ l.getD j 0 ∧ l.getD j 0 ≤ 5) (by omega)
    refine Ev.ite (fun h => ?_) (fun h => ?_)
    · refine Ev.eq (ih (i + 1) (by omega)) ?_
      rw [decide_eq_decide]
      exact ⟨fun a => step.2 ⟨h, a⟩, fun a => (step.1 a).2⟩
    · refine Ev.some ?_
      symm
      rw [decide_eq_false_iff_not]
      exact fun a => h (step.1 a).1
theorem goodEvents_ev (l : List Int) (hl : l.length ≤ 1048576) : Ev (fun k => impl_goodEvents.f k l) (decide (Evts l 0 ∧ l.length ≤ 60)) := by
  simp only [impl_goodEvents.f]
  exact goodEvents_l0 l hl l.length 0 (by omega)
theorem events_ev (l : List Int) : Ev (fun k => spec_l21Events.f k l) (decide (Evts l 0 ∧ l.length ≤ 60)) := by
  simp only [spec_l21Events.f]
  refine Ev.ite (fun h => Ev.some ?_) (fun h => ?_)
  · symm
    rw [decide_eq_false_iff_not]
    omega
  · refine Ev.eq (events_l0 l (by omega) l.length 0 (by omega)) ?_
    rw [decide_eq_decide]
    exact ⟨fun a => ⟨a, by omega⟩, fun a => a.1⟩


set_option linter.unusedVariables false
def Rws (l : List (List Int)) (i : Nat) : Prop := From l.length i fun j => (l.getD j []).length = 0 ∨ (l.getD j []).length = 6
theorem irows (l0 : List (List Int)) (hn : l0.length ≤ 12) (a1 : Int) (l2 : List Int) (R : List Int × Bool) (d : Nat) : ∀ i : Nat, i + d = l0.length →
    (Rws l0 i → Ev (fun k => if isB l0 a1 = true then (impl_RunFlat.l1 k l0 a1 [a1] l2 0) else (some (([] : List Int), false))) R) → (¬ Rws l0 i → R = ([], false)) → Ev (fun k => impl_RunFlat.l0 k l0 a1 l2 i) R := by
  induction d with
  | zero =>
    intro i hi h1 _
    refine Ev.succ ?_
    simp only [impl_RunFlat.l0, show ¬ ((i : Int) < (l0.length : Int)) by omega, if_false]
    exact h1 (From.end_ (by omega))
  | succ d ih =>
    intro i hi h1 h2
    refine Ev.succ ?_
    have e : rd_L2 l0 (i : Int) = l0.getD i [] := rfl
    have step := From.step (n := l0.length) (i := i) (C := fun j => (l0.getD j []).length = 0 ∨ (l0.getD j []).length = 6) (by omega)
    have nx : wrap64 ((i : Int) + 1) = ((i + 1 : Nat) : Int) := by rw [wrap64_id (by omega) (by omega)]; omega
    simp only [impl_RunFlat.l0, show ((i : Int) < (l0.length : Int)) by omega, show (0 : Int) ≤ (i : Int) by omega, if_true, e, nx]
    have go : (l0.getD i []).length = 0 ∨ (l0.getD i []).length = 6 → Ev (fun k => impl_RunFlat.l0 k l0 a1 l2 ((i + 1 : Nat) : Int)) R := fun hc =>
      ih (i + 1) (by omega) (fun hr => h1 (step.2 ⟨hc, hr⟩)) (fun hr => h2 (fun hh => hr (step.1 hh).2))
    refine Ev.ite (fun h => go (Or.inl (by omega))) (fun h => Ev.ite (fun h' => go (Or.inr (by omega))) (fun h' => Ev.some ?_))
    exact (h2 (fun hh => (step.1 hh).1.elim (fun z => h (by omega)) (fun z => h' (by omega)))).symm
theorem srows (l0 : List (List Int)) (hn : l0.length ≤ 12) (a1 : Int) (l2 : List Int) (R : List Int × Bool) (d : Nat) : ∀ i : Nat, i + d = l0.length →
    (Rws l0 i → Ev (fun k => spec_RunFlat.l1 k l0 a1 [a1] l2 (l2.length : Int) 0) R) → (¬ Rws l0 i → R = ([], false)) → Ev (fun k => spec_RunFlat.l0 k l0 a1 l2 l0 (l0.length : Int) i) R := by
  induction d with
  | zero =>
    intro i hi h1 _
    refine Ev.succ ?_
    simp only [spec_RunFlat.l0, show ¬ ((i : Int) < (l0.length : Int)) by omega, if_false]
    exact h1 (From.end_ (by omega))
  | succ d ih =>
    intro i hi h1 h2
    refine Ev.succ ?_
    have e : rd_L2 l0 (i : Int) = l0.getD i [] := rfl
    have step := From.step (n := l0.length) (i := i) (C := fun j => (l0.getD j []).length = 0 ∨ (l0.getD j []).length = 6) (by omega)
    have nx : wrap64 ((i : Int) + 1) = ((i + 1 : Nat) : Int) := by rw [wrap64_id (by omega) (by omega)]; omega
    simp only [spec_RunFlat.l0, show ((i : Int) < (l0.length : Int)) by omega, show (0 : Int) ≤ (i : Int) by omega, if_true, e, nx]
    have go : (l0.getD i []).length = 0 ∨ (l0.getD i []).length = 6 → Ev (fun k => spec_RunFlat.l0 k l0 a1 l2 l0 (l0.length : Int) ((i + 1 : Nat) : Int)) R := fun hc =>
      ih (i + 1) (by omega) (fun hr => h1 (step.2 ⟨hc, hr⟩)) (fun hr => h2 (fun hh => hr (step.1 hh).2))
    refine Ev.ite (fun h => go (Or.inl (by omega))) (fun h => Ev.ite (fun h' => go (Or.inr (by omega))) (fun h' => Ev.some ?_))
    exact (h2 (fun hh => (step.1 hh).1.elim (fun z => h (by omega)) (fun z => h' (by omega)))).symm
theorem rows_at {l : List (List Int)} (h : Rws l 0) {s : Int} (h0 : 0 ≤ s) (h1 : s < l.length) (h2 : 0 < (rd_L2 l s).length) : (rd_L2 l s).length = 6 := by
  have := h s.toNat (by omega) (by omega)
  unfold rd_L2 at h2 ⊢
  omega
theorem frun (l0 : List (List Int)) (hn : l0.length ≤ 12) (hr : Rws l0 0) (l2 : List Int) (he : Evts l2 0) (hl : l2.length ≤ 60) (d : Nat) : ∀ (i : Nat) (leaf : Int) (x : List Int), i + d = l2.length → isB l0 leaf = true → x.length ≤ i + 1 →
    ∃ (y : List Int) (b : Bool), y.length ≤ 61 ∧ Ev (fun k => impl_RunFlat.l1 k l0 leaf x l2 i) (y, b) ∧ Ev (fun k => spec_RunFlat.l1 k l0 leaf x l2 (l2.length : Int) i) (y, b) := by
  induction d with
  | zero =>
    intro i leaf x hi hb hx
    refine ⟨x, true, by omega, Ev.succ ?_, Ev.succ ?_⟩
    · simp only [impl_RunFlat.l1, show ¬ ((i : Int) < (l2.length : Int)) by omega, if_false]
      exact Ev.some rfl
    · simp only [spec_RunFlat.l1, show ¬ ((i : Int) < (l2.length : Int)) by omega, if_false]
      exact Ev.some rfl
  | succ d ih =>
    intro i leaf x hi hb hx
    have hb' : 0 ≤ leaf ∧ leaf < (l0.length : Int) ∧ 0 < (rd_L2 l0 leaf).length := of_decide_eq_true hb
    have h6 := rows_at hr hb'.1 hb'.2.1 hb'.2.2
    have hev : 0 ≤ rd l2 (i : Int) ∧ rd l2 (i : Int) ≤ 5 := he i (by omega) (by omega)
    have nx : wrap64 ((i : Int) + 1) = ((i + 1 : Nat) : Int) := by rw [wrap64_id (by omega) (by omega)]; omega
    have a1 : (i : Int) < (l2.length : Int) := by omega
    have a2 : (0 : Int) ≤ (i : Int) := by omega
    have a3 : rd l2 (i : Int) < ((rd_L2 l0 leaf).length : Int) := by omega
    have a4 : x.length < 17592186044416 := by omega
    by_cases h : isB l0 (rd (rd_L2 l0 leaf) (rd l2 (i : Int))) = true
    · obtain ⟨y, b, h1, h2, h3⟩ := ih (i + 1) _ (x ++ [rd (rd_L2 l0 leaf) (rd l2 (i : Int))]) (by omega) h (by simp; omega)
      have g : 0 ≤ rd (rd_L2 l0 leaf) (rd l2 (i : Int)) ∧ rd (rd_L2 l0 leaf) (rd l2 (i : Int)) < (l0.length : Int) ∧ 0 < (rd_L2 l0 (rd (rd_L2 l0 leaf) (rd l2 (i : Int)))).length := of_decide_eq_true h
      refine ⟨y, b, h1, Ev.succ ?_, Ev.succ ?_⟩
      · simp only [impl_RunFlat.l1, a1, a2, hb'.1, hb'.2.1, hev.1, a3, h, a4, if_true, nx]
        exact h2
      · simp only [spec_RunFlat.l1, a1, a2, hb'.1, hb'.2.1, hev.1, a3, a4, if_true, nx]
        refine Ev.neg (by omega) (Ev.neg (by omega) (Ev.pos (by omega) (Ev.pos (by omega) (Ev.neg (by omega) h3))))
    · refine ⟨[], false, by simp, Ev.succ ?_, Ev.succ ?_⟩
      · simp only [impl_RunFlat.l1, a1, a2, hb'.1, hb'.2.1, hev.1, a3, if_true]
        exact Ev.neg h (Ev.some rfl)
      · simp only [spec_RunFlat.l1, a1, a2, hb'.1, hb'.2.1, hev.1, a3, if_true]
        have g : ¬ (0 ≤ rd (rd_L2 l0 leaf) (rd l2 (i : Int)) ∧ rd (rd_L2 l0 leaf) (rd l2 (i : Int)) < (l0.length : Int) ∧ 0 < (rd_L2 l0 (rd (rd_L2 l0 leaf) (rd l2 (i : Int)))).length) := fun hh => h (decide_eq_true hh)
        refine Ev.ite (fun _ => Ev.some rfl) (fun h1 => Ev.ite (fun _ => Ev.some rfl) (fun h2 => Ev.pos (by omega) (Ev.pos (by omega) (Ev.pos ?_ (Ev.some rfl)))))
        omega
theorem runFlat_both (l0 : List (List Int)) (a1 : Int) (l2 : List Int) (hl2 : l2.length ≤ 1048576) : ∃ (y : List Int) (b : Bool), y.length ≤ 61 ∧ Ev (fun k => impl_RunFlat.f k l0 a1 l2) (y, b) ∧ Ev (fun k => spec_RunFlat.f k l0 a1 l2) (y, b) := by
  simp only [impl_RunFlat.f, spec_RunFlat.f]
  have no : Ev (fun k => spec_RunFlat.j0 k l0 a1 l2 true) (([] : List Int), false) := Ev.succ (by simp only [spec_RunFlat.j0, if_true]; exact Ev.some rfl)
  by_cases hn : (l0.length : Int) > 12
  · exact ⟨[], false, by simp, Ev.pos hn (Ev.some rfl), Ev.pos hn no⟩
  by_cases he : Evts l2 0 ∧ l2.length ≤ 60
  case neg =>
    exact ⟨[], false, by simp, Ev.neg hn (Ev.bnd (goodEvents_ev l2 hl2) (Ev.neg (by simpa using he) (Ev.some rfl))), Ev.neg hn (Ev.bnd (events_ev l2) (Ev.neg (by simpa using he) no))⟩
  by_cases hb : isB l0 a1 = true
  case neg =>
    have g : ¬ (0 ≤ a1 ∧ a1 < (l0.length : Int) ∧ 0 < (rd_L2 l0 a1).length) := fun hh => hb (decide_eq_true hh)
    refine ⟨[], false, by simp, Ev.neg hn (Ev.bnd (goodEvents_ev l2 hl2) (Ev.pos (by simpa using he) (irows l0 (by omega) a1 l2 _ l0.length 0 (by omega) (fun _ => Ev.neg hb (Ev.some rfl)) (fun _ => rfl)))), Ev.neg hn (Ev.bnd (events_ev l2) (Ev.pos (by simpa using he) ?_))⟩
    refine Ev.ite (fun _ => no) (fun h1 => Ev.ite (fun _ => no) (fun h2 => Ev.pos (by omega) (Ev.pos (by omega) ?_)))
    have : (((rd_L2 l0 a1).length : Int) == 0) = true := by
      rw [beq_iff_eq]
      omega
    simp only [this]
    exact no
  have g : 0 ≤ a1 ∧ a1 < (l0.length : Int) ∧ 0 < (rd_L2 l0 a1).length := of_decide_eq_true hb
  have hz : (((rd_L2 l0 a1).length : Int) == 0) = false := by rw [beq_eq_false_iff_ne]; omega
  have fin : ∀ R : List Int × Bool, (Rws l0 0 → Ev (fun k => impl_RunFlat.l1 k l0 a1 [a1] l2 0) R) → (Rws l0 0 → Ev (fun k => spec_RunFlat.l1 k l0 a1 [a1] l2 (l2.length : Int) 0) R) → (¬ Rws l0 0 → R = ([], false)) →
      Ev (fun k => if (l0.length : Int) > 12 then some (([] : List Int), false) else (impl_goodEvents.f k l2).bind fun t => if t = true then impl_RunFlat.l0 k l0 a1 l2 0 else some ([], false)) R ∧
      Ev (fun k => if (l0.length : Int) > 12 then (spec_RunFlat.j0 k l0 a1 l2 true) else ((spec_l21Events.f k l2).bind fun t390 => (if t390 = true then (if a1 < 0 then (spec_RunFlat.j0 k l0 a1 l2 true) else (if a1 ≥ (l0.length : Int) then (spec_RunFlat.j0 k l0 a1 l2 true) else (if 0 ≤ a1 then (if a1 < (l0.length : Int) then (spec_RunFlat.j0 k l0 a1 l2 (((rd_L2 l0 a1).length : Int) == 0)) else (none)) else (none)))) else (spec_RunFlat.j0 k l0 a1 l2 true)))) R := by
    intro R h1 h2 h3
    refine ⟨Ev.neg hn (Ev.bnd (goodEvents_ev l2 hl2) (Ev.pos (by simpa using he) (irows l0 (by omega) a1 l2 _ l0.length 0 (by omega) (fun hr => Ev.pos hb (h1 hr)) h3))), Ev.neg hn (Ev.bnd (events_ev l2) (Ev.pos (by simpa using he) (Ev.neg (by omega) (Ev.neg (by omega) (Ev.pos g.1 (Ev.pos g.2.1 ?_))))))⟩
    simp only [hz]
    refine Ev.succ ?_
    simp only [spec_RunFlat.j0, Bool.false_eq_true, if_false]
    exact srows l0 (by omega) a1 l2 _ l0.length 0 (by omega) h2 h3
  by_cases hr : Rws l0 0
  · obtain ⟨y, b, h1, h2, h3⟩ := frun l0 (by omega) hr l2 he.1 he.2 l2.length 0 a1 [a1] (by omega) hb (by simp)
    exact ⟨y, b, h1, fin (y, b) (fun _ => h2) (fun _ => h3) (fun h => absurd hr h)⟩
  · exact ⟨[], false, by simp, fin _ (fun h => absurd h hr) (fun h => absurd h hr) (fun _ => rfl)⟩
end Go.Proofs.Ytkhkgfihodljmaa.Pure
