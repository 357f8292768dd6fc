/-
Own text: good trips: the program and the reference come to the same; the laws' helpers on trips.
-/
import Derived.Test.YtcldlljnaijmhaaPureCells
namespace Go.Proofs.Ytcldlljnaijmhaa.Pure
open Go.RowKit Go.Proofs.YtcldlljnaijmhaaW.PrintWords Go.Proofs.YtcldlljnaijmhaaW.PrintLast Go.Proofs.Ytcldlljnaijmhaa.Pr Go.Proofs.Ytcldlljnaijmhaa.EvKit
open Classical

def TR (l : List S49) (i : Nat) : S49 := l.getD i z49
/-- Trip i is fine: both ends free, no end shared with an earlier one. -/
def Tr1 (c : List Int) (l : List S49) (i : Nat) : Prop := (Fr c (TR l i).f0 ∧ Fr c (TR l i).f1) ∧ From i 0 fun j => ¬ (TR l j).f0 = (TR l i).f0 ∧ ¬ (TR l j).f1 = (TR l i).f1
/-- Good trips. -/
def Gt (w : Int) (c : List Int) (l : List S49) : Prop := Cl w c ∧ l.length ≤ 5 ∧ From l.length 0 (Tr1 c l)

theorem trips_l1 (w : Int) (c : List Int) (l : List S49) (hn : l.length ≤ 5) (i : Nat) (hi : i < l.length) (r : Bool)
    (h1 : (From i 0 fun j => ¬ (TR l j).f0 = (TR l i).f0 ∧ ¬ (TR l j).f1 = (TR l i).f1) → Ev (fun k => impl_GoodTrips.l0 k l l (l.length : Int) ((i + 1 : Nat) : Int) w c) r ∧ Ev (fun k => spec_GoodTrips.l0 k l l (l.length : Int) ((i + 1 : Nat) : Int) w c) r)
    (h2 : ¬ (From i 0 fun j => ¬ (TR l j).f0 = (TR l i).f0 ∧ ¬ (TR l j).f1 = (TR l i).f1) → r = false) (d : Nat) : ∀ j : Nat, j + d = i → (From j 0 fun j => ¬ (TR l j).f0 = (TR l i).f0 ∧ ¬ (TR l j).f1 = (TR l i).f1) →
    Ev (fun k => impl_GoodTrips.l1 k l l (l.length : Int) i (l.take i) (((l.take i).length : Nat) : Int) j w c (TR l i).f0 (TR l i).f1) r ∧ Ev (fun k => spec_GoodTrips.l1 k l i j l (l.length : Int) i w c (TR l i).f0 (TR l i).f1) r := by
  have htl : (l.take i).length = i := by simp; omega
  induction d with
  | zero =>
    intro j hj hu
    obtain ⟨a, b⟩ := h1 (by have e : j = i := by omega
                            subst e
                            exact hu)
    refine ⟨Ev.succ ?_, Ev.succ ?_⟩
    · simp only [impl_GoodTrips.l1, htl, succ_w (show i < 35184372088833 by omega)]
      exact Ev.neg (by omega) a
    · simp only [spec_GoodTrips.l1, succ_w (show i < 35184372088833 by omega)]
      exact Ev.neg (by omega) b
  | succ d ih =>
    intro j hj hu
    have e0 : rd_T49 (l.take i) (j : Int) = TR l j := by
      unfold rd_T49 TR
      simp [List.getD_eq_getElem?_getD, show j < i by omega]
    have e1 : rd_T49 l (j : Int) = TR l j := rfl
    have bad : ¬ (¬ (TR l j).f0 = (TR l i).f0 ∧ ¬ (TR l j).f1 = (TR l i).f1) → r = false := fun h => h2 (fun a => h (a j (by omega) (by omega)))
    by_cases h0 : ¬ (TR l j).f0 = (TR l i).f0 ∧ ¬ (TR l j).f1 = (TR l i).f1
    · obtain ⟨a, b⟩ := ih (j + 1) (by omega) (fun q _ hq2 => by
        by_cases e : q = j
        · exact e ▸ h0
        · exact hu q (by omega) (by omega))
      rw [htl] at a
      refine ⟨Ev.succ ?_, Ev.succ ?_⟩
      · simp only [impl_GoodTrips.l1, htl, e0, succ_w (show j < 35184372088833 by omega)]
        exact Ev.pos (by omega) (Ev.pos (by omega) (Ev.pos (by omega) (Ev.neg h0.1 (Ev.neg h0.2 a))))
      · simp only [spec_GoodTrips.l1, e1, succ_w (show j < 35184372088833 by omega)]
        exact Ev.pos (by omega) (Ev.pos (by omega) (Ev.pos (by omega) (Ev.neg h0.1 (Ev.neg h0.2 b))))
    · have e := bad h0
      refine ⟨Ev.succ ?_, Ev.succ ?_⟩
      · simp only [impl_GoodTrips.l1, htl, e0]
        exact Ev.pos (by omega) (Ev.pos (by omega) (Ev.pos (by omega) (Ev.ite (fun _ => Ev.some e.symm) (fun h => Ev.pos (Classical.byContradiction fun h' => h0 ⟨h, h'⟩) (Ev.some e.symm)))))
      · simp only [spec_GoodTrips.l1, e1]
        exact Ev.pos (by omega) (Ev.pos (by omega) (Ev.pos (by omega) (Ev.ite (fun _ => Ev.some e.symm) (fun h => Ev.pos (Classical.byContradiction fun h' => h0 ⟨h, h'⟩) (Ev.some e.symm)))))

theorem trips_l0 (w : Int) (c : List Int) (l : List S49) (hn : l.length ≤ 5) (d : Nat) : ∀ i : Nat, i + d = l.length →
    Ev (fun k => impl_GoodTrips.l0 k l l (l.length : Int) i w c) (decide (From l.length i (Tr1 c l))) ∧ Ev (fun k => spec_GoodTrips.l0 k l l (l.length : Int) i w c) (decide (From l.length i (Tr1 c l))) := by
  induction d with
  | zero =>
    intro i hi
    have e : decide (From l.length i (Tr1 c l)) = true := by
      rw [decide_eq_true_eq]
      exact From.end_ (by omega)
    rw [e]
    refine ⟨Ev.succ ?_, Ev.succ ?_⟩
    · simp only [impl_GoodTrips.l0]
      exact Ev.neg (by omega) (Ev.some rfl)
    · simp only [spec_GoodTrips.l0]
      exact Ev.neg (by omega) (Ev.some rfl)
  | succ d ih =>
    intro i hi
    have step := From.step (n := l.length) (i := i) (C := Tr1 c l) (by omega)
    have e1 : rd_T49 l (i : Int) = TR l i := rfl
    have nx := ih (i + 1) (by omega)
    have htl : (l.take i).length = i := by simp; omega
    generalize hR : decide (From l.length i (Tr1 c l)) = R
    have bad : ¬ Tr1 c l i → R = false := fun h => by rw [← hR, decide_eq_false_iff_not]; exact fun x => h (step.1 x).1
    have good : Tr1 c l i → R = decide (From l.length (i + 1) (Tr1 c l)) := fun h => by rw [← hR, decide_eq_decide]; exact ⟨fun x => (step.1 x).2, fun x => step.2 ⟨h, x⟩⟩
    have jno : (¬ (Fr c (TR l i).f0 ∧ Fr c (TR l i).f1)) → Ev (fun k => impl_GoodTrips.j2 k l i l (l.length : Int) i true w c (TR l i).f0 (TR l i).f1) R ∧ Ev (fun k => spec_GoodTrips.j2 k l i l (l.length : Int) i true w c (TR l i).f0 (TR l i).f1) R := by
      intro h
      have e := bad (fun x => h x.1)
      refine ⟨Ev.succ ?_, Ev.succ ?_⟩
      · simp only [impl_GoodTrips.j2, if_true]
        exact Ev.some e.symm
      · simp only [spec_GoodTrips.j2, if_true]
        exact Ev.some e.symm
    have jyes : Fr c (TR l i).f0 ∧ Fr c (TR l i).f1 → Ev (fun k => impl_GoodTrips.j2 k l i l (l.length : Int) i false w c (TR l i).f0 (TR l i).f1) R ∧ Ev (fun k => spec_GoodTrips.j2 k l i l (l.length : Int) i false w c (TR l i).f0 (TR l i).f1) R := by
      intro h
      obtain ⟨a, b⟩ := trips_l1 w c l hn i (by omega) R (fun x => by rw [good ⟨h, x⟩]; exact nx) (fun x => bad (fun y => x y.2)) i 0 (by omega) (fun q hq hq2 => by omega)
      refine ⟨Ev.succ ?_, Ev.succ ?_⟩
      · simp only [impl_GoodTrips.j2, Bool.false_eq_true, if_false, Option.bind_some, Int.toNat_natCast]
        exact Ev.pos (by omega) (Ev.pos (by omega) a)
      · simp only [spec_GoodTrips.j2, Bool.false_eq_true, if_false]
        exact b
    by_cases ha : Fr c (TR l i).f0
    · by_cases hb : Fr c (TR l i).f1
      · obtain ⟨a, b⟩ := jyes ⟨ha, hb⟩
        refine ⟨Ev.succ ?_, Ev.succ ?_⟩
        · simp only [impl_GoodTrips.l0, e1]
          refine Ev.pos (by omega) (Ev.pos (by omega) (Ev.pos (by omega) (Ev.bnd0 (free_impl w c _) (Ev.pos (by simpa using ha) (Ev.bnd0 (free_impl w c _) ?_)))))
          rw [decide_eq_true hb]
          exact a
        · simp only [spec_GoodTrips.l0, e1]
          refine Ev.pos (by omega) (Ev.pos (by omega) (Ev.pos (by omega) (Ev.bnd0 (free_spec w c _) (Ev.pos (by simpa using ha) (Ev.bnd0 (free_spec w c _) ?_)))))
          rw [decide_eq_true hb]
          exact b
      · obtain ⟨a, b⟩ := jno (fun x => hb x.2)
        refine ⟨Ev.succ ?_, Ev.succ ?_⟩
        · simp only [impl_GoodTrips.l0, e1]
          refine Ev.pos (by omega) (Ev.pos (by omega) (Ev.pos (by omega) (Ev.bnd0 (free_impl w c _) (Ev.pos (by simpa using ha) (Ev.bnd0 (free_impl w c _) ?_)))))
          rw [decide_eq_false hb]
          exact a
        · simp only [spec_GoodTrips.l0, e1]
          refine Ev.pos (by omega) (Ev.pos (by omega) (Ev.pos (by omega) (Ev.bnd0 (free_spec w c _) (Ev.pos (by simpa using ha) (Ev.bnd0 (free_spec w c _) ?_)))))
          rw [decide_eq_false hb]
          exact b
    · obtain ⟨a, b⟩ := jno (fun x => ha x.1)
      refine ⟨Ev.succ ?_, Ev.succ ?_⟩
      · simp only [impl_GoodTrips.l0, e1]
        exact Ev.pos (by omega) (Ev.pos (by omega) (Ev.pos (by omega) (Ev.bnd0 (free_impl w c _) (Ev.neg (by simpa using ha) a))))
      · simp only [spec_GoodTrips.l0, e1]
        exact Ev.pos (by omega) (Ev.pos (by omega) (Ev.pos (by omega) (Ev.bnd0 (free_spec w c _) (Ev.neg (by simpa using ha) b))))

theorem goodTrips_both (w : Int) (c : List Int) (l : List S49) (hn : c.length ≤ 35184372088832) : Ev (fun k => impl_GoodTrips.f k w c l) (decide (Gt w c l)) ∧ Ev (fun k => spec_GoodTrips.f k w c l) (decide (Gt w c l)) := by
  have no : ¬ Gt w c l → Ev (fun k => impl_GoodTrips.j0 k l true w c) (decide (Gt w c l)) ∧ Ev (fun k => spec_GoodTrips.j0 k l true w c) (decide (Gt w c l)) := by
    intro h
    rw [decide_eq_false h]
    refine ⟨Ev.succ ?_, Ev.succ ?_⟩
    · simp only [impl_GoodTrips.j0, if_true]; exact Ev.some rfl
    · simp only [spec_GoodTrips.j0, if_true]; exact Ev.some rfl
  simp only [impl_GoodTrips.f, spec_GoodTrips.f]
  by_cases hc : Cl w c
  · by_cases h5 : (l.length : Int) > 5
    · obtain ⟨a, b⟩ := no (fun x => by have := x.2.1; omega)
      rw [decide_eq_true h5]
      exact ⟨Ev.bnd (goodCells_impl w c hn) (Ev.pos (by simpa using hc) a), Ev.bnd (goodCells_spec w c hn) (Ev.pos (by simpa using hc) b)⟩
    · obtain ⟨a, b⟩ := trips_l0 w c l (by omega) l.length 0 (by omega)
      have e : decide (Gt w c l) = decide (From l.length 0 (Tr1 c l)) := by
        rw [decide_eq_decide]
        exact ⟨fun x => x.2.2, fun x => ⟨hc, by omega, x⟩⟩
      rw [e, decide_eq_false h5]
      refine ⟨Ev.bnd (goodCells_impl w c hn) (Ev.pos (by simpa using hc) (Ev.succ ?_)), Ev.bnd (goodCells_spec w c hn) (Ev.pos (by simpa using hc) (Ev.succ ?_))⟩
      · simp only [impl_GoodTrips.j0, Bool.false_eq_true, if_false]; exact a
      · simp only [spec_GoodTrips.j0, Bool.false_eq_true, if_false]; exact b
  · obtain ⟨a, b⟩ := no (fun x => hc x.1)
    exact ⟨Ev.bnd (goodCells_impl w c hn) (Ev.neg (by simpa using hc) a), Ev.bnd (goodCells_spec w c hn) (Ev.neg (by simpa using hc) b)⟩

/-! ### the laws' helpers -/
def cpT (x : S47) : S49 := ⟨x.f0, x.f1⟩
theorem toTripS_l0 (l : List S47) (hl : l.length ≤ 1048576) (d : Nat) : ∀ i : Nat, i + d = l.length →
    Ev (fun k => laws_toTripS.l0 k l ((l.take i).map cpT ++ List.replicate (l.length - i) z49) i) (l.map cpT) := by
  induction d with
  | zero =>
    intro i hi
    apply Ev.succ
    simp only [laws_toTripS.l0, show ¬ ((i : Int) < (l.length : Int)) by omega, if_false]
    have : i = l.length := by omega
    subst this
    exact Ev.some (copy_done _ _ _)
  | succ d ih =>
    intro i hi
    apply Ev.succ
    have hlen : ((l.take i).map cpT ++ List.replicate (l.length - i) z49).length = l.length := by simp; omega
    simp only [laws_toTripS.l0, laws_toTrip.f, Option.bind_some, hlen, show ((i : Int) < (l.length : Int)) by omega, show (0 : Int) ≤ (i : Int) by omega, if_true, Int.toNat_natCast, succ_w (show i < 35184372088833 by omega)]
    have := copy_step cpT z49 z47 l i (by omega)
    have e : (⟨(rd_T47 l (i : Int)).f0, (rd_T47 l (i : Int)).f1⟩ : S49) = cpT (l.getD i z47) := rfl
    rw [e, this]
    exact ih (i + 1) (by omega)
theorem toTripS_ev (l : List S47) (hl : l.length ≤ 1048576) : Ev (fun k => laws_toTripS.f k l) (l.map cpT) := by
  simp only [laws_toTripS.f, Int.toNat_natCast, show (0 : Int) ≤ (l.length : Int) by omega, show l.length ≤ 17592186044416 by omega, if_true]
  have := toTripS_l0 l hl l.length 0 (by omega)
  simpa using this
theorem eqTripS_l0 (l : List S49) (hl : l.length ≤ 1048576) (d : Nat) : ∀ i : Nat, i + d = l.length → Ev (fun k => laws_eqTripS.l0 k l l i) true := by
  induction d with
  | zero =>
    intro i hi
    apply Ev.succ
    simp only [laws_eqTripS.l0, show ¬ ((i : Int) < (l.length : Int)) by omega, if_false]
    exact Ev.some rfl
  | succ d ih =>
    intro i hi
    apply Ev.succ
    simp only [laws_eqTripS.l0, laws_eqTrip.f, Option.bind_some, show ((i : Int) < (l.length : Int)) by omega, show (0 : Int) ≤ (i : Int) by omega, if_true, succ_w (show i < 35184372088833 by omega)]
    exact ih (i + 1) (by omega)
theorem eqTripS_ev (l : List S49) (hl : l.length ≤ 1048576) : Ev (fun k => laws_eqTripS.f k l l) true := by
  simp only [laws_eqTripS.f, if_true]
  exact eqTripS_l0 l hl l.length 0 (by omega)
theorem szTripS_eq (l : List S47) (a : Int) (hl : l.length ≤ 9223372036854775807) (h0 : 0 ≤ a) (h1 : a ≤ 1048576) :
    ∃ r, laws_szTripS.f l a = some r ∧ (¬ r < 0 → (l.length : Int) ≤ a ∧ r ≤ a) := by
  simp only [laws_szTripS.f]
  rw [wrap64_id (x := a - (l.length : Int)) (by omega) (by omega)]
  by_cases h : a - (l.length : Int) < 0
  · exact ⟨-1, by simp [h], by omega⟩
  · exact ⟨a - (l.length : Int), by rw [if_neg h], by omega⟩
end Go.Proofs.Ytcldlljnaijmhaa.Pure
