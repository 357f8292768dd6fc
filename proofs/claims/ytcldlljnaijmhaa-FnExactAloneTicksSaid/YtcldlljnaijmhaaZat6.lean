-- Joined and pruned by wip/tools/prune.py out of this session's own texts (PureBase, PureInts, PureCells, PureTrips, PureIntSS, PureMeet, PureGrid, PurePaths, Mp, PureBfs, HdAlone, Prd3, PureAlone, Pr13, Pr14)
import Derived.Test.YtcldlljnaijmhaaZat5
import Derived.MapKept
import Derived.Laws.StructEq
import Derived.Maps.RangeRun
/-
Own text: what many of the pure proofs use: 'for all from i on', counters, 'between', the copy and the comparison of slices of bytes.
-/
namespace Go.Proofs.Ytcldlljnaijmhaa.Pure
open Go.RowKit Go.Proofs.YtcldlljnaijmhaaW.PrintWords Go.Proofs.Ytcldlljnaijmhaa.EvKit

def From (n i : Nat) (C : Nat → Prop) : Prop := ∀ j, i ≤ j → j < n → C j
theorem From.end_ {n i : Nat} {C : Nat → Prop} (h : n ≤ i) : From n i C := fun j h1 h2 => by omega
theorem From.step {n i : Nat} {C : Nat → Prop} (h : i < n) : From n i C ↔ C i ∧ From n (i + 1) C := by
  constructor
  · exact fun a => ⟨a i (Nat.le_refl i) h, fun j h1 h2 => a j (by omega) h2⟩
  · rintro ⟨a, b⟩ j h1 h2
    by_cases e : j = i
    · exact e ▸ a
    · exact b j (by omega) h2
/-- One of those from i on, below n. -/
def Some_ (n i : Nat) (C : Nat → Prop) : Prop := ∃ j, i ≤ j ∧ j < n ∧ C j
theorem Some_.end_ {n i : Nat} {C : Nat → Prop} (h : n ≤ i) : ¬ Some_ n i C := by
  rintro ⟨j, h1, h2, _⟩
  omega
theorem Some_.step {n i : Nat} {C : Nat → Prop} (h : i < n) : Some_ n i C ↔ C i ∨ Some_ n (i + 1) C := by
  constructor
  · rintro ⟨j, h1, h2, h3⟩
    by_cases e : j = i
    · exact Or.inl (e ▸ h3)
    · exact Or.inr ⟨j, by omega, h2, h3⟩
  · rintro (a | ⟨j, h1, h2, h3⟩)
    · exact ⟨i, Nat.le_refl i, h, a⟩
    · exact ⟨j, by omega, h2, h3⟩
theorem succ_w {i : Nat} (h : i < 35184372088833) : wrap64 ((i : Int) + 1) = ((i + 1 : Nat) : Int) := by rw [wrap64_id (by omega) (by omega)]; omega
end Go.Proofs.Ytcldlljnaijmhaa.Pure
/-
Own text: what the laws' own helpers on []int come to: a copy, a comparison.
-/
namespace Go.Proofs.Ytcldlljnaijmhaa.Pure
open Go.RowKit Go.Proofs.YtcldlljnaijmhaaW.PrintWords Go.Proofs.YtcldlljnaijmhaaW.PrintLast Go.Proofs.Ytcldlljnaijmhaa.Pr Go.Proofs.Ytcldlljnaijmhaa.EvKit

theorem toIntS_l0 (l : List Int) (hl : l.length ≤ 35184372088832) (d : Nat) : ∀ i : Nat, i + d = l.length →
    Ev (fun k => laws_toIntS.l0 k l ((l.take i).map id ++ List.replicate (l.length - i) 0) i) (l.map id) := by
  induction d with
  | zero =>
    intro i hi
    apply Ev.succ
    simp only [laws_toIntS.l0, show ¬ ((i : Int) < (l.length : Int)) by omega, if_false]
    have : i = l.length := by omega
    subst this
    exact Ev.some (copy_done _ _ _)
  | succ d ih =>
    intro i hi
    apply Ev.succ
    have hlen : ((l.take i).map id ++ List.replicate (l.length - i) (0 : Int)).length = l.length := by simp; omega
    simp only [laws_toIntS.l0, hlen, show ((i : Int) < (l.length : Int)) by omega, show (0 : Int) ≤ (i : Int) by omega, if_true, Int.toNat_natCast]
    rw [show wrap64 ((i : Int) + 1) = ((i + 1 : Nat) : Int) by rw [wrap64_id (by omega) (by omega)]; omega]
    have := copy_step id (0 : Int) 0 l i (by omega)
    have e : rd l (i : Int) = id (l.getD i 0) := rfl
    rw [e, this]
    exact ih (i + 1) (by omega)
theorem toIntS_ev (l : List Int) (hl : l.length ≤ 35184372088832) : Ev (fun k => laws_toIntS.f k l) l := by
  simp only [laws_toIntS.f, Int.toNat_natCast, show (0 : Int) ≤ (l.length : Int) by omega, hl, if_true]
  have := toIntS_l0 l hl l.length 0 (by omega)
  simpa using this

theorem eqIntS_l0 (l : List Int) (hl : l.length ≤ 35184372088832) (d : Nat) : ∀ i : Nat, i + d = l.length → Ev (fun k => laws_eqIntS.l0 k l l i) true := by
  induction d with
  | zero =>
    intro i hi
    apply Ev.succ
    simp only [laws_eqIntS.l0, show ¬ ((i : Int) < (l.length : Int)) by omega, if_false]
    exact Ev.some rfl
  | succ d ih =>
    intro i hi
    apply Ev.succ
    simp only [laws_eqIntS.l0, show ((i : Int) < (l.length : Int)) by omega, show (0 : Int) ≤ (i : Int) by omega, if_true]
    rw [show wrap64 ((i : Int) + 1) = ((i + 1 : Nat) : Int) by rw [wrap64_id (by omega) (by omega)]; omega]
    exact ih (i + 1) (by omega)
theorem eqIntS_ev (l : List Int) (hl : l.length ≤ 35184372088832) : Ev (fun k => laws_eqIntS.f k l l) true := by
  simp only [laws_eqIntS.f, if_true]
  exact eqIntS_l0 l hl l.length 0 (by omega)

end Go.Proofs.Ytcldlljnaijmhaa.Pure
/-
Own text: cells: the two checks agree; what good cells are; what is free; the laws' helpers on cells.
-/
namespace Go.Proofs.Ytcldlljnaijmhaa.Pure
open Go.RowKit Go.Proofs.YtcldlljnaijmhaaW.PrintWords Go.Proofs.YtcldlljnaijmhaaW.PrintLast Go.Proofs.Ytcldlljnaijmhaa.Pr Go.Proofs.Ytcldlljnaijmhaa.EvKit
open Classical

def Sq (w : Int) (n : Nat) : Prop := 1 ≤ w ∧ w ≤ 16 ∧ (n : Int) % w = 0 ∧ w ≤ n ∧ (n : Int) / w ≤ 16
/-- Good cells. -/
def Cl (w : Int) (c : List Int) : Prop := Sq w c.length ∧ From c.length 0 fun j => 0 ≤ c.getD j 0 ∧ c.getD j 0 ≤ 2

theorem sq_impl (w : Int) (n : Nat) (hn : n ≤ 35184372088832) : impl_squared.f w n = some (decide (Sq w n)) := by
  unfold impl_squared.f Sq
  by_cases h1 : w ≥ 1
  · by_cases h2 : w ≤ 16
    · have hm : (n : Int).tmod w = (n : Int) % w := Int.tmod_eq_emod_of_nonneg (by omega)
      have hd : (n : Int).tdiv w = (n : Int) / w := Int.tdiv_eq_ediv_of_nonneg (by omega)
      rw [if_pos h1, if_pos h2, if_neg (by omega), hm, hd]
      by_cases h3 : (n : Int) % w = 0
      · have hle : (n : Int) / w ≤ n := Int.ediv_le_self _ (by omega)
        have h0 : 0 ≤ (n : Int) / w := Int.ediv_nonneg (by omega) (by omega)
        have key : (n : Int) / w ≥ 1 ↔ w ≤ n := (Int.le_ediv_iff_mul_le (by omega)).trans (by rw [Int.one_mul])
        rw [if_pos h3, wrap64_id (by omega) (by omega)]
        by_cases h4 : (n : Int) / w ≥ 1
        · have h5 : w ≤ n := key.1 h4
          rw [if_pos h4]
          simp [h1, h2, h3, h5]
        · have h5 : ¬ w ≤ n := fun h => h4 (key.2 h)
          rw [if_neg h4]
          simp [h5]
      · rw [if_neg h3]
        simp [h3]
    · rw [if_pos h1, if_neg h2]
      simp [h2]
  · rw [if_neg h1]
    simp [show ¬ 1 ≤ w from h1]
theorem sq_spec (w : Int) (n : Nat) (hn : n ≤ 35184372088832) : spec_l12Sized.f w n = some (decide (Sq w n)) := by
  unfold spec_l12Sized.f Sq
  by_cases h1 : w ≥ 1
  · by_cases h2 : w ≤ 16
    · have hm : (n : Int).tmod w = (n : Int) % w := Int.tmod_eq_emod_of_nonneg (by omega)
      have hd : (n : Int).tdiv w = (n : Int) / w := Int.tdiv_eq_ediv_of_nonneg (by omega)
      have hle : (n : Int) / w ≤ n := Int.ediv_le_self _ (by omega)
      have h0 : 0 ≤ (n : Int) / w := Int.ediv_nonneg (by omega) (by omega)
      rw [if_pos h1, if_pos h2, hm, hd, if_neg (show ¬ w = 0 by omega), wrap64_id (by omega) (by omega)]
      by_cases h4 : (n : Int) ≥ w
      · rw [if_pos h4]
        by_cases h3 : (n : Int) % w = 0
        · rw [if_pos h3]
          simp [h1, h2, h3, show w ≤ (n : Int) from h4]
        · rw [if_neg h3]
          simp [h3]
      · rw [if_neg h4]
        simp [show ¬ w ≤ (n : Int) from h4]
    · rw [if_pos h1, if_neg h2]
      simp [h2]
  · rw [if_neg h1]
    simp [show ¬ 1 ≤ w from h1]

theorem cells_l0 (c : List Int) (hn : c.length ≤ 35184372088832) (d : Nat) : ∀ i : Nat, i + d = c.length →
    Ev (fun k => impl_GoodCells.l0 k c (c.length : Int) i) (decide (From c.length i fun j => 0 ≤ c.getD j 0 ∧ c.getD j 0 ≤ 2)) ∧ Ev (fun k => spec_GoodCells.l0 k c (c.length : Int) i) (decide (From c.length i fun j => 0 ≤ c.getD j 0 ∧ c.getD j 0 ≤ 2)) := by
  induction d with
  | zero =>
    intro i hi
    have e : decide (From c.length i fun j => 0 ≤ c.getD j 0 ∧ c.getD j 0 ≤ 2) = true := by
      rw [decide_eq_true_eq]
      exact From.end_ (by omega)
    rw [e]
    refine ⟨Ev.succ ?_, Ev.succ ?_⟩
    · simp only [impl_GoodCells.l0]
      exact Ev.neg (by omega) (Ev.some rfl)
    · simp only [spec_GoodCells.l0]
      exact Ev.neg (by omega) (Ev.some rfl)
  | succ d ih =>
    intro i hi
    obtain ⟨a, b⟩ := ih (i + 1) (by omega)
    have step := From.step (n := c.length) (i := i) (C := fun j => 0 ≤ c.getD j 0 ∧ c.getD j 0 ≤ 2) (by omega)
    have e : rd c (i : Int) = c.getD i 0 := rfl
    by_cases h : 0 ≤ c.getD i 0 ∧ c.getD i 0 ≤ 2
    · have e2 : decide (From c.length i fun j => 0 ≤ c.getD j 0 ∧ c.getD j 0 ≤ 2) = decide (From c.length (i + 1) fun j => 0 ≤ c.getD j 0 ∧ c.getD j 0 ≤ 2) := by
        rw [decide_eq_decide]
        exact ⟨fun x => (step.1 x).2, fun x => step.2 ⟨h, x⟩⟩
      rw [e2]
      refine ⟨Ev.succ ?_, Ev.succ ?_⟩
      · simp only [impl_GoodCells.l0, e, succ_w (show i < 35184372088833 by omega)]
        exact Ev.pos (by omega) (Ev.pos (by omega) (Ev.pos (by omega) (Ev.neg (by omega) (Ev.neg (by omega) a))))
      · simp only [spec_GoodCells.l0, e, succ_w (show i < 35184372088833 by omega)]
        exact Ev.pos (by omega) (Ev.pos (by omega) (Ev.pos (by omega) (Ev.neg (by omega) (Ev.neg (by omega) b))))
    · have e2 : decide (From c.length i fun j => 0 ≤ c.getD j 0 ∧ c.getD j 0 ≤ 2) = false := by
        rw [decide_eq_false_iff_not]
        exact fun x => h (step.1 x).1
      rw [e2]
      refine ⟨Ev.succ ?_, Ev.succ ?_⟩
      · simp only [impl_GoodCells.l0, e]
        exact Ev.pos (by omega) (Ev.pos (by omega) (Ev.pos (by omega) (Ev.ite (fun _ => Ev.some rfl) (fun _ => Ev.pos (by omega) (Ev.some rfl)))))
      · simp only [spec_GoodCells.l0, e]
        exact Ev.pos (by omega) (Ev.pos (by omega) (Ev.pos (by omega) (Ev.ite (fun _ => Ev.some rfl) (fun _ => Ev.pos (by omega) (Ev.some rfl)))))
theorem goodCells_impl (w : Int) (c : List Int) (hn : c.length ≤ 35184372088832) : Ev (fun k => impl_GoodCells.f k w c) (decide (Cl w c)) := by
  simp only [impl_GoodCells.f]
  refine Ev.bnd0 (sq_impl w c.length hn) (Ev.ite (fun h => Ev.eq (cells_l0 c hn c.length 0 (by omega)).1 ?_) (fun h => Ev.some ?_))
  · rw [decide_eq_decide]
    exact ⟨fun x => ⟨by simpa using h, x⟩, fun x => x.2⟩
  · symm
    rw [decide_eq_false_iff_not]
    exact fun x => h (by simpa using x.1)
theorem goodCells_spec (w : Int) (c : List Int) (hn : c.length ≤ 35184372088832) : Ev (fun k => spec_GoodCells.f k w c) (decide (Cl w c)) := by
  simp only [spec_GoodCells.f]
  refine Ev.bnd0 (sq_spec w c.length hn) (Ev.ite (fun h => Ev.eq (cells_l0 c hn c.length 0 (by omega)).2 ?_) (fun h => Ev.some ?_))
  · rw [decide_eq_decide]
    exact ⟨fun x => ⟨by simpa using h, x⟩, fun x => x.2⟩
  · symm
    rw [decide_eq_false_iff_not]
    exact fun x => h (by simpa using x.1)

/-- The number of a free cell. -/
def Fr (c : List Int) (a : Int) : Prop := 0 ≤ a ∧ a < c.length ∧ c.getD a.toNat 0 = 0
theorem free_impl (w : Int) (c : List Int) (a : Int) : impl_Cells_free.f w c a = some (decide (Fr c a)) := by
  unfold impl_Cells_free.f
  have e : rd c a = c.getD a.toNat 0 := rfl
  by_cases h1 : a ≥ 0
  · by_cases h2 : a < (c.length : Int)
    · rw [if_pos h1, if_pos h2, if_pos h1, e]
      congr 1
      by_cases h3 : c.getD a.toNat 0 = 0
      · rw [decide_eq_true (p := Fr c a) (And.intro h1 (And.intro h2 h3)), h3]
        rfl
      · rw [decide_eq_false (p := Fr c a) (fun x => h3 x.2.2)]
        simpa using h3
    · rw [if_pos h1, if_neg h2, decide_eq_false (p := Fr c a) (fun x => h2 x.2.1)]
  · rw [if_neg h1, decide_eq_false (p := Fr c a) (fun x => h1 x.1)]
theorem free_spec (w : Int) (c : List Int) (a : Int) : spec_l12Free.f w c a = some (decide (Fr c a)) := free_impl w c a

/-! ### the laws' helpers -/
theorem toCells_ev (w : Int) (c : List Int) (hl : c.length ≤ 1048576) : Ev (fun k => laws_toCells.f k w c) (w, c) := by
  simp only [laws_toCells.f]
  exact Ev.bnd (toIntS_ev c (by omega)) (Ev.some rfl)
theorem eqCells_ev (w : Int) (c : List Int) (hl : c.length ≤ 1048576) : Ev (fun k => laws_eqCells.f k w c w c) true := by
  simp only [laws_eqCells.f]
  exact Ev.pos trivial (Ev.bnd (eqIntS_ev c (by omega)) (Ev.pos rfl (Ev.some rfl)))
theorem szCells_eq (w : Int) (c : List Int) (a : Int) (hl : c.length ≤ 9223372036854775807) (h0 : 0 ≤ a) (h1 : a ≤ 1048576) :
    ∃ r, laws_szCells.f w c a = some r ∧ (¬ r < 0 → (c.length : Int) ≤ a ∧ r ≤ a) := by
  simp only [laws_szCells.f, laws_szIntS.f]
  rw [wrap64_id (x := a - (c.length : Int)) (by omega) (by omega)]
  by_cases h : a - (c.length : Int) < 0
  · exact ⟨-1, by simp [h], by omega⟩
  · exact ⟨a - (c.length : Int), by simp only [h, if_false, Option.bind_some], by omega⟩
end Go.Proofs.Ytcldlljnaijmhaa.Pure
/-
Own text: good trips: the program and the reference come to the same; the laws' helpers on trips.
-/
namespace Go.Proofs.Ytcldlljnaijmhaa.Pure
open Go.RowKit Go.Proofs.YtcldlljnaijmhaaW.PrintWords Go.Proofs.YtcldlljnaijmhaaW.PrintLast Go.Proofs.Ytcldlljnaijmhaa.Pr Go.Proofs.Ytcldlljnaijmhaa.EvKit
open Classical

def TR (l : List S49) (i : Nat) : S49 := l.getD i z49
/-- Trip i is fine: both ends free, no end shared with an earlier one. -/
def Tr1 (c : List Int) (l : List S49) (i : Nat) : Prop := (Fr c (TR l i).f0 ∧ Fr c (TR l i).f1) ∧ From i 0 fun j => ¬ (TR l j).f0 = (TR l i).f0 ∧ ¬ (TR l j).f1 = (TR l i).f1
/-- Good trips. -/
def Gt (w : Int) (c : List Int) (l : List S49) : Prop := Cl w c ∧ l.length ≤ 5 ∧ From l.length 0 (Tr1 c l)

theorem trips_l1 (w : Int) (c : List Int) (l : List S49) (hn : l.length ≤ 5) (i : Nat) (hi : i < l.length) (r : Bool)
    (h1 : (From i 0 fun j => ¬ (TR l j).f0 = (TR l i).f0 ∧ ¬ (TR l j).f1 = (TR l i).f1) → Ev (fun k => impl_GoodTrips.l0 k l l (l.length : Int) ((i + 1 : Nat) : Int) w c) r ∧ Ev (fun k => spec_GoodTrips.l0 k l l (l.length : Int) ((i + 1 : Nat) : Int) w c) r)
    (h2 : ¬ (From i 0 fun j => ¬ (TR l j).f0 = (TR l i).f0 ∧ ¬ (TR l j).f1 = (TR l i).f1) → r = false) (d : Nat) : ∀ j : Nat, j + d = i → (From j 0 fun j => ¬ (TR l j).f0 = (TR l i).f0 ∧ ¬ (TR l j).f1 = (TR l i).f1) →
    Ev (fun k => impl_GoodTrips.l1 k l l (l.length : Int) i (l.take i) (((l.take i).length : Nat) : Int) j w c (TR l i).f0 (TR l i).f1) r ∧ Ev (fun k => spec_GoodTrips.l1 k l i j l (l.length : Int) i w c (TR l i).f0 (TR l i).f1) r := by
  have htl : (l.take i).length = i := by simp; omega
  induction d with
  | zero =>
    intro j hj hu
    obtain ⟨a, b⟩ := h1 (by have e : j = i := by omega
                            subst e
                            exact hu)
    refine ⟨Ev.succ ?_, Ev.succ ?_⟩
    · simp only [impl_GoodTrips.l1, htl, succ_w (show i < 35184372088833 by omega)]
      exact Ev.neg (by omega) a
    · simp only [spec_GoodTrips.l1, succ_w (show i < 35184372088833 by omega)]
      exact Ev.neg (by omega) b
  | succ d ih =>
    intro j hj hu
    have e0 : rd_T49 (l.take i) (j : Int) = TR l j := by
      unfold rd_T49 TR
      simp [List.getD_eq_getElem?_getD, show j < i by omega]
    have e1 : rd_T49 l (j : Int) = TR l j := rfl
    have bad : ¬ (¬ (TR l j).f0 = (TR l i).f0 ∧ ¬ (TR l j).f1 = (TR l i).f1) → r = false := fun h => h2 (fun a => h (a j (by omega) (by omega)))
    by_cases h0 : ¬ (TR l j).f0 = (TR l i).f0 ∧ ¬ (TR l j).f1 = (TR l i).f1
    · obtain ⟨a, b⟩ := ih (j + 1) (by omega) (fun q _ hq2 => by
        by_cases e : q = j
        · exact e ▸ h0
        · exact hu q (by omega) (by omega))
      rw [htl] at a
      refine ⟨Ev.succ ?_, Ev.succ ?_⟩
      · simp only [impl_GoodTrips.l1, htl, e0, succ_w (show j < 35184372088833 by omega)]
        exact Ev.pos (by omega) (Ev.pos (by omega) (Ev.pos (by omega) (Ev.neg h0.1 (Ev.neg h0.2 a))))
      · simp only [spec_GoodTrips.l1, e1, succ_w (show j < 35184372088833 by omega)]
        exact Ev.pos (by omega) (Ev.pos (by omega) (Ev.pos (by omega) (Ev.neg h0.1 (Ev.neg h0.2 b))))
    · have e := bad h0
      refine ⟨Ev.succ ?_, Ev.succ ?_⟩
      · simp only [impl_GoodTrips.l1, htl, e0]
        exact Ev.pos (by omega) (Ev.pos (by omega) (Ev.pos (by omega) (Ev.ite (fun _ => Ev.some e.symm) (fun h => Ev.pos (Classical.byContradiction fun h' => h0 ⟨h, h'⟩) (Ev.some e.symm)))))
      · simp only [spec_GoodTrips.l1, e1]
        exact Ev.pos (by omega) (Ev.pos (by omega) (Ev.pos (by omega) (Ev.ite (fun _ => Ev.some e.symm) (fun h => Ev.pos (Classical.byContradiction fun h' => h0 ⟨h, h'⟩) (Ev.some e.symm)))))

theorem trips_l0 (w : Int) (c : List Int) (l : List S49) (hn : l.length ≤ 5) (d : Nat) : ∀ i : Nat, i + d = l.length →
    Ev (fun k => impl_GoodTrips.l0 k l l (l.length : Int) i w c) (decide (From l.length i (Tr1 c l))) ∧ Ev (fun k => spec_GoodTrips.l0 k l l (l.length : Int) i w c) (decide (From l.length i (Tr1 c l))) := by
  induction d with
  | zero =>
    intro i hi
    have e : decide (From l.length i (Tr1 c l)) = true := by
      rw [decide_eq_true_eq]
      exact From.end_ (by omega)
    rw [e]
    refine ⟨Ev.succ ?_, Ev.succ ?_⟩
    · simp only [impl_GoodTrips.l0]
      exact Ev.neg (by omega) (Ev.some rfl)
    · simp only [spec_GoodTrips.l0]
      exact Ev.neg (by omega) (Ev.some rfl)
  | succ d ih =>
    intro i hi
    have step := From.step (n := l.length) (i := i) (C := Tr1 c l) (by omega)
    have e1 : rd_T49 l (i : Int) = TR l i := rfl
    have nx := ih (i + 1) (by omega)
    have htl : (l.take i).length = i := by simp; omega
    generalize hR : decide (From l.length i (Tr1 c l)) = R
    have bad : ¬ Tr1 c l i → R = false := fun h => by rw [← hR, decide_eq_false_iff_not]; exact fun x => h (step.1 x).1
    have good : Tr1 c l i → R = decide (From l.length (i + 1) (Tr1 c l)) := fun h => by rw [← hR, decide_eq_decide]; exact ⟨fun x => (step.1 x).2, fun x => step.2 ⟨h, x⟩⟩
    have jno : (¬ (Fr c (TR l i).f0 ∧ Fr c (TR l i).f1)) → Ev (fun k => impl_GoodTrips.j2 k l i l (l.length : Int) i true w c (TR l i).f0 (TR l i).f1) R ∧ Ev (fun k => spec_GoodTrips.j2 k l i l (l.length : Int) i true w c (TR l i).f0 (TR l i).f1) R := by
      intro h
      have e := bad (fun x => h x.1)
      refine ⟨Ev.succ ?_, Ev.succ ?_⟩
      · simp only [impl_GoodTrips.j2, if_true]
        exact Ev.some e.symm
      · simp only [spec_GoodTrips.j2, if_true]
        exact Ev.some e.symm
    have jyes : Fr c (TR l i).f0 ∧ Fr c (TR l i).f1 → Ev (fun k => impl_GoodTrips.j2 k l i l (l.length : Int) i false w c (TR l i).f0 (TR l i).f1) R ∧ Ev (fun k => spec_GoodTrips.j2 k l i l (l.length : Int) i false w c (TR l i).f0 (TR l i).f1) R := by
      intro h
      obtain ⟨a, b⟩ := trips_l1 w c l hn i (by omega) R (fun x => by rw [good ⟨h, x⟩]; exact nx) (fun x => bad (fun y => x y.2)) i 0 (by omega) (fun q hq hq2 => by omega)
      refine ⟨Ev.succ ?_, Ev.succ ?_⟩
      · simp only [impl_GoodTrips.j2, Bool.false_eq_true, if_false, Option.bind_some, Int.toNat_natCast]
        exact Ev.pos (by omega) (Ev.pos (by omega) a)
      · simp only [spec_GoodTrips.j2, Bool.false_eq_true, if_false]
        exact b
    by_cases ha : Fr c (TR l i).f0
    · by_cases hb : Fr c (TR l i).f1
      · obtain ⟨a, b⟩ := jyes ⟨ha, hb⟩
        refine ⟨Ev.succ ?_, Ev.succ ?_⟩
        · simp only [impl_GoodTrips.l0, e1]
          refine Ev.pos (by omega) (Ev.pos (by omega) (Ev.pos (by omega) (Ev.bnd0 (free_impl w c _) (Ev.pos (by simpa using ha) (Ev.bnd0 (free_impl w c _) ?_)))))
          rw [decide_eq_true hb]
          exact a
        · simp only [spec_GoodTrips.l0, e1]
          refine Ev.pos (by omega) (Ev.pos (by omega) (Ev.pos (by omega) (Ev.bnd0 (free_spec w c _) (Ev.pos (by simpa using ha) (Ev.bnd0 (free_spec w c _) ?_)))))
          rw [decide_eq_true hb]
          exact b
      · obtain ⟨a, b⟩ := jno (fun x => hb x.2)
        refine ⟨Ev.succ ?_, Ev.succ ?_⟩
        · simp only [impl_GoodTrips.l0, e1]
          refine Ev.pos (by omega) (Ev.pos (by omega) (Ev.pos (by omega) (Ev.bnd0 (free_impl w c _) (Ev.pos (by simpa using ha) (Ev.bnd0 (free_impl w c _) ?_)))))
          rw [decide_eq_false hb]
          exact a
        · simp only [spec_GoodTrips.l0, e1]
          refine Ev.pos (by omega) (Ev.pos (by omega) (Ev.pos (by omega) (Ev.bnd0 (free_spec w c _) (Ev.pos (by simpa using ha) (Ev.bnd0 (free_spec w c _) ?_)))))
          rw [decide_eq_false hb]
          exact b
    · obtain ⟨a, b⟩ := jno (fun x => ha x.1)
      refine ⟨Ev.succ ?_, Ev.succ ?_⟩
      · simp only [impl_GoodTrips.l0, e1]
        exact Ev.pos (by omega) (Ev.pos (by omega) (Ev.pos (by omega) (Ev.bnd0 (free_impl w c _) (Ev.neg (by simpa using ha) a))))
      · simp only [spec_GoodTrips.l0, e1]
        exact Ev.pos (by omega) (Ev.pos (by omega) (Ev.pos (by omega) (Ev.bnd0 (free_spec w c _) (Ev.neg (by simpa using ha) b))))

theorem goodTrips_both (w : Int) (c : List Int) (l : List S49) (hn : c.length ≤ 35184372088832) : Ev (fun k => impl_GoodTrips.f k w c l) (decide (Gt w c l)) ∧ Ev (fun k => spec_GoodTrips.f k w c l) (decide (Gt w c l)) := by
  have no : ¬ Gt w c l → Ev (fun k => impl_GoodTrips.j0 k l true w c) (decide (Gt w c l)) ∧ Ev (fun k => spec_GoodTrips.j0 k l true w c) (decide (Gt w c l)) := by
    intro h
    rw [decide_eq_false h]
    refine ⟨Ev.succ ?_, Ev.succ ?_⟩
    · simp only [impl_GoodTrips.j0, if_true]; exact Ev.some rfl
    · simp only [spec_GoodTrips.j0, if_true]; exact Ev.some rfl
  simp only [impl_GoodTrips.f, spec_GoodTrips.f]
  by_cases hc : Cl w c
  · by_cases h5 : (l.length : Int) > 5
    · obtain ⟨a, b⟩ := no (fun x => by have := x.2.1; omega)
      rw [decide_eq_true h5]
      exact ⟨Ev.bnd (goodCells_impl w c hn) (Ev.pos (by simpa using hc) a), Ev.bnd (goodCells_spec w c hn) (Ev.pos (by simpa using hc) b)⟩
    · obtain ⟨a, b⟩ := trips_l0 w c l (by omega) l.length 0 (by omega)
      have e : decide (Gt w c l) = decide (From l.length 0 (Tr1 c l)) := by
        rw [decide_eq_decide]
        exact ⟨fun x => x.2.2, fun x => ⟨hc, by omega, x⟩⟩
      rw [e, decide_eq_false h5]
      refine ⟨Ev.bnd (goodCells_impl w c hn) (Ev.pos (by simpa using hc) (Ev.succ ?_)), Ev.bnd (goodCells_spec w c hn) (Ev.pos (by simpa using hc) (Ev.succ ?_))⟩
      · simp only [impl_GoodTrips.j0, Bool.false_eq_true, if_false]; exact a
      · simp only [spec_GoodTrips.j0, Bool.false_eq_true, if_false]; exact b
  · obtain ⟨a, b⟩ := no (fun x => hc x.1)
    exact ⟨Ev.bnd (goodCells_impl w c hn) (Ev.neg (by simpa using hc) a), Ev.bnd (goodCells_spec w c hn) (Ev.neg (by simpa using hc) b)⟩

/-! ### the laws' helpers -/
end Go.Proofs.Ytcldlljnaijmhaa.Pure
/-
Own text: what the laws' own helpers on [][]int come to: their size, a copy, a comparison.
-/
namespace Go.Proofs.Ytcldlljnaijmhaa.Pure
open Go.RowKit Go.Proofs.YtcldlljnaijmhaaW.PrintWords Go.Proofs.YtcldlljnaijmhaaW.PrintLast Go.Proofs.Ytcldlljnaijmhaa.Pr Go.Proofs.Ytcldlljnaijmhaa.EvKit

end Go.Proofs.Ytcldlljnaijmhaa.Pure
/-
Own text: the first tick at which two paths meet: the program and the reference come to the same.
-/
namespace Go.Proofs.Ytcldlljnaijmhaa.Pure
open Go.RowKit Go.Proofs.YtcldlljnaijmhaaW.PrintWords Go.Proofs.YtcldlljnaijmhaaW.PrintLast Go.Proofs.Ytcldlljnaijmhaa.Pr Go.Proofs.Ytcldlljnaijmhaa.EvKit
open Classical

def P_ (l : List (List Int)) (i k : Nat) : Int := (l.getD i []).getD k 0
/-- At the tick k path i meets path j. -/
def Hit (l : List (List Int)) (k i j : Nat) : Prop := P_ l i k = P_ l j k ∨ (0 < k ∧ P_ l i k = P_ l j (k - 1) ∧ P_ l j k = P_ l i (k - 1))
/-- At the tick k two meet, the later one from i on. -/
def Two (l : List (List Int)) (k i : Nat) : Prop := Some_ l.length i fun p => Some_ p 0 (Hit l k p)

end Go.Proofs.Ytcldlljnaijmhaa.Pure
/-
Own text: where a cell lies: its column and its row; the cell beside it.
-/
namespace Go.Proofs.Ytcldlljnaijmhaa.Pure
open Go.RowKit Go.Proofs.YtcldlljnaijmhaaW.PrintWords Go.Proofs.YtcldlljnaijmhaaW.PrintLast Go.Proofs.Ytcldlljnaijmhaa.Pr Go.Proofs.Ytcldlljnaijmhaa.EvKit
open Classical

def X_ (w a : Int) : Int := a % w
def Y_ (w a : Int) : Int := a / w
/-- How many rows. -/
def H_ (w : Int) (c : List Int) : Int := (c.length : Int) / w

section
variable {w : Int} {c : List Int}
theorem Cl.w1 (h : Cl w c) : 1 ≤ w := h.1.1
theorem Cl.w16 (h : Cl w c) : w ≤ 16 := h.1.2.1
theorem Cl.h16 (h : Cl w c) : H_ w c ≤ 16 := h.1.2.2.2.2
theorem Cl.wh (h : Cl w c) : H_ w c * w = c.length := by
  have h1 := Int.mul_ediv_add_emod (c.length : Int) w
  rw [h.1.2.2.1, Int.add_zero, Int.mul_comm] at h1
  exact h1
theorem Cl.h1 (h : Cl w c) : 1 ≤ H_ w c := (Int.le_ediv_iff_mul_le (by have := h.w1; omega)).2 (by rw [Int.one_mul]; exact h.1.2.2.2.1)
theorem mul_le16 {x y : Int} (hx : 0 ≤ x) (hx2 : x ≤ 16) (hy : 0 ≤ y) (hy2 : y ≤ 16) : x * y ≤ 256 ∧ 0 ≤ x * y := by
  have h1 := Int.mul_le_mul hx2 hy2 hy (by omega : (0 : Int) ≤ 16)
  exact ⟨by omega, Int.mul_nonneg hx hy⟩
theorem Cl.n256 (h : Cl w c) : c.length ≤ 256 := by
  have h1 := h.wh
  have h2 := mul_le16 (by have := h.h1; omega) h.h16 (by have := h.w1; omega) h.w16
  omega
theorem X_range (h : Cl w c) (a : Int) : 0 ≤ X_ w a ∧ X_ w a < w := ⟨Int.emod_nonneg _ (by have := h.w1; omega), Int.emod_lt_of_pos _ (by have := h.w1; omega)⟩
theorem Y_range (h : Cl w c) {a : Int} (h0 : 0 ≤ a) (h1 : a < c.length) : 0 ≤ Y_ w a ∧ Y_ w a < H_ w c := by
  refine ⟨Int.ediv_nonneg h0 (by have := h.w1; omega), Int.ediv_lt_of_lt_mul (by have := h.w1; omega) ?_⟩
  rw [h.wh]
  exact h1
theorem cell_in (h : Cl w c) {x y : Int} (hx : 0 ≤ x) (hx2 : x < w) (hy : 0 ≤ y) (hy2 : y < H_ w c) : 0 ≤ y * w + x ∧ y * w + x < c.length := by
  have h1 := Int.mul_nonneg hy (show 0 ≤ w by omega)
  have h2 := Int.mul_le_mul_of_nonneg_right (show y ≤ H_ w c - 1 by omega) (show 0 ≤ w by omega)
  have h3 := h.wh
  rw [Int.sub_mul, Int.one_mul] at h2
  omega
theorem tmod_X {a : Int} (h : 0 ≤ a) : a.tmod w = X_ w a := Int.tmod_eq_emod_of_nonneg h
theorem tdiv_Y {a : Int} (h : 0 ≤ a) : a.tdiv w = Y_ w a := Int.tdiv_eq_ediv_of_nonneg h

/-- The cell beside one, -1 beyond the edge. -/
noncomputable def Nx (w : Int) (c : List Int) (a dx dy : Int) : Int :=
  if 0 ≤ X_ w a + dx ∧ X_ w a + dx < w ∧ 0 ≤ Y_ w a + dy ∧ Y_ w a + dy < H_ w c then (Y_ w a + dy) * w + (X_ w a + dx) else -1
theorem next_eq (h : Cl w c) {a dx dy : Int} (h0 : 0 ≤ a) (h1 : a < c.length) (hx : -100 ≤ dx ∧ dx ≤ 100) (hy : -100 ≤ dy ∧ dy ≤ 100) : impl_Cells_next.f w c a dx dy = some (Nx w c a dx dy) := by
  have hX := X_range h a
  have hY := Y_range h h0 h1
  have hw := h.w1
  have hw2 := h.w16
  have hH := h.h16
  unfold impl_Cells_next.f
  rw [if_neg (by omega), tmod_X h0, tdiv_Y h0, show (c.length : Int) / w = H_ w c from rfl]
  rw [wrap64_id (x := Y_ w a) (by omega) (by omega), wrap64_id (x := H_ w c) (by omega) (by omega), wrap64_id (x := X_ w a + dx) (by omega) (by omega), wrap64_id (x := Y_ w a + dy) (by omega) (by omega)]
  by_cases c1 : X_ w a + dx < 0
  · rw [if_pos c1]
    unfold Nx
    rw [if_neg (by omega)]
  · rw [if_neg c1]
    by_cases c2 : X_ w a + dx ≥ w
    · rw [if_pos c2]
      unfold Nx
      rw [if_neg (by omega)]
    · rw [if_neg c2]
      by_cases c3 : Y_ w a + dy < 0
      · rw [if_pos c3]
        unfold Nx
        rw [if_neg (by omega)]
      · rw [if_neg c3]
        by_cases c4 : Y_ w a + dy ≥ H_ w c
        · rw [if_pos c4]
          unfold Nx
          rw [if_neg (by omega)]
        · rw [if_neg c4]
          have hm := mul_le16 (x := Y_ w a + dy) (y := w) (by omega) (by omega) (by omega) hw2
          rw [wrap64_id (x := (Y_ w a + dy) * w) (by omega) (by omega), wrap64_id (by omega) (by omega)]
          unfold Nx
          rw [if_pos (by omega)]
end
end Go.Proofs.Ytcldlljnaijmhaa.Pure
/-
Own text: good paths: the places to go next, the two checks.
-/
namespace Go.Proofs.Ytcldlljnaijmhaa.Pure
open Go.RowKit Go.Proofs.YtcldlljnaijmhaaW.PrintWords Go.Proofs.YtcldlljnaijmhaaW.PrintLast Go.Proofs.Ytcldlljnaijmhaa.Pr Go.Proofs.Ytcldlljnaijmhaa.EvKit
open Classical

/-- n if n is the number of a free cell, else -1. -/
noncomputable def Fo (c : List Int) (n : Int) : Int := if Fr c n then n else -1

theorem l12_go {w : Int} {c : List Int} (h : Cl w c) {x y : Int} (_ : -9 ≤ x ∧ x ≤ 99) (hy : -9 ≤ y ∧ y ≤ 99) :
    ((spec_l12Has.f w (c.length : Int) x y).bind fun t => (if t = true then (if 0 ≤ (wrap64 ((wrap64 (y * w)) + x)) then (if (wrap64 ((wrap64 (y * w)) + x)) < (c.length : Int) then (if (rd c (wrap64 ((wrap64 (y * w)) + x))) = 0 then (some (wrap64 ((wrap64 (y * w)) + x))) else (some (-1))) else (none)) else (none)) else (some (-1)))) = some (Fo c (if 0 ≤ x ∧ x < w ∧ 0 ≤ y ∧ y < H_ w c then y * w + x else -1)) := by
  have hw := h.w1
  have hw2 := h.w16
  have hH := h.h16
  have hH1 := h.h1
  have hn : ¬ Fr c (-1) := fun a => by have := a.1; omega
  have hd : wrap64 ((c.length : Int).tdiv w) = H_ w c := by
    rw [Int.tdiv_eq_ediv_of_nonneg (by omega), show (c.length : Int) / w = H_ w c from rfl, wrap64_id (by omega) (by omega)]
  have has : spec_l12Has.f w (c.length : Int) x y = some (decide (0 ≤ x ∧ x < w ∧ 0 ≤ y ∧ y < H_ w c)) := by
    unfold spec_l12Has.f
    rw [hd]
    by_cases a1 : x ≥ 0
    · rw [if_pos a1]
      by_cases a2 : x < w
      · rw [if_pos a2]
        by_cases a3 : y ≥ 0
        · rw [if_pos a3, if_neg (by omega)]
          simp [show 0 ≤ x from a1, a2, show 0 ≤ y from a3]
        · rw [if_neg a3]
          simp [show ¬ 0 ≤ y from a3]
      · rw [if_neg a2]
        simp [a2]
    · rw [if_neg a1]
      simp [show ¬ 0 ≤ x from a1]
  rw [has, Option.bind_some]
  by_cases hin : 0 ≤ x ∧ x < w ∧ 0 ≤ y ∧ y < H_ w c
  · have hm := mul_le16 (x := y) (y := w) (by omega) (by omega) (by omega) hw2
    have hc := cell_in h hin.1 hin.2.1 hin.2.2.1 hin.2.2.2
    rw [if_pos (by simpa using hin), if_pos hin, wrap64_id (x := y * w) (by omega) (by omega), wrap64_id (x := y * w + x) (by omega) (by omega), if_pos hc.1, if_pos hc.2]
    have e : rd c (y * w + x) = c.getD (y * w + x).toNat 0 := rfl
    rw [e]
    unfold Fo
    by_cases hz : c.getD (y * w + x).toNat 0 = 0
    · rw [if_pos hz, if_pos (show Fr c _ from And.intro hc.1 (And.intro hc.2 hz))]
    · rw [if_neg hz, if_neg (show ¬ Fr c _ from fun a => hz a.2.2)]
  · rw [if_neg (by simpa using hin), if_neg hin]
    unfold Fo
    rw [if_neg hn]

/-- The way's step, as both name it. -/
def dX (k : Int) : Int := if k = 0 then 1 else if k = 1 then 0 else if k = 2 then -1 else 0
def dY (k : Int) : Int := if k = 0 then 0 else if k = 1 then 1 else if k = 2 then 0 else -1

theorem along_eq {w : Int} {c : List Int} (h : Cl w c) {a : Int} (h0 : 0 ≤ a) (h1 : a < c.length) (k : Int) (hk : 0 ≤ k) (hk2 : k ≤ 3) : impl_Cells_along.f w c a k = some (Nx w c a (dX k) (dY k)) := by
  unfold impl_Cells_along.f
  have : k = 0 ∨ k = 1 ∨ k = 2 ∨ k = 3 := by omega
  rcases this with rfl | rfl | rfl | rfl <;> simp only [Int.reduceEq, if_true, if_false] <;> exact next_eq h h0 h1 (by decide) (by decide)

theorem l12_eq {w : Int} {c : List Int} (h : Cl w c) {a : Int} (h0 : 0 ≤ a) (h1 : a < c.length) (k : Int) (hk : 0 ≤ k) (hk2 : k ≤ 3) : spec_l12Next.f w c a k = some (Fo c (Nx w c a (dX k) (dY k))) := by
  have hX := X_range h a
  have hY := Y_range h h0 h1
  have hw := h.w1
  have hw2 := h.w16
  have hH := h.h16
  unfold spec_l12Next.f
  rw [if_neg (by omega), tmod_X h0, tdiv_Y h0, wrap64_id (x := Y_ w a) (by omega) (by omega), wrap64_id (x := X_ w a + 1) (by omega) (by omega), wrap64_id (x := Y_ w a + 1) (by omega) (by omega), wrap64_id (x := X_ w a - 1) (by omega) (by omega), wrap64_id (x := Y_ w a - 1) (by omega) (by omega)]
  have : k = 0 ∨ k = 1 ∨ k = 2 ∨ k = 3 := by omega
  rcases this with rfl | rfl | rfl | rfl <;> simp only [Int.reduceEq, if_true, if_false] <;> rw [l12_go h (by omega) (by omega)] <;> unfold Nx dX dY <;> simp only [Int.reduceEq, if_true, if_false, Int.add_zero] <;> rfl

theorem next_l0 (ys : List Int) (hn : ys.length ≤ 100) (d : Nat) : ∀ (i : Nat) (acc : List Int), i + d = ys.length → acc.length ≤ i → Ev (fun k => spec_l20Next.l0 k acc ys (ys.length : Int) i) (acc ++ (ys.drop i).filter fun v => decide (v ≥ 0)) := by
  induction d with
  | zero =>
    intro i acc hi ha
    apply Ev.succ
    simp only [spec_l20Next.l0]
    rw [List.drop_eq_nil_of_le (by omega)]
    exact Ev.neg (by omega) (Ev.some (by simp))
  | succ d ih =>
    intro i acc hi ha
    apply Ev.succ
    have e : rd ys (i : Int) = ys[i]'(by omega) := by
      unfold rd
      rw [List.getD_eq_getElem?_getD, Int.toNat_natCast, List.getElem?_eq_getElem (by omega)]
      rfl
    rw [List.drop_eq_getElem_cons (show i < ys.length by omega), List.filter_cons]
    simp only [spec_l20Next.l0, e, succ_w (show i < 35184372088833 by omega)]
    refine Ev.pos (by omega) (Ev.pos (by omega) (Ev.pos (by omega) (Ev.ite (fun hp => Ev.pos (by omega) ?_) (fun hp => ?_))))
    · rw [if_pos (by simpa using hp)]
      exact Ev.eq (ih (i + 1) (acc ++ [ys[i]'(by omega)]) (by omega) (by simp; omega)) (by simp)
    · rw [if_neg (by simpa using hp)]
      exact ih (i + 1) acc (by omega) (by omega)
theorem goes_l0 (w : Int) (c : List Int) (ys : List Int) (hn : ys.length ≤ 100) (d : Nat) : ∀ (i : Nat) (acc : List Int), i + d = ys.length → acc.length ≤ i → Ev (fun k => impl_Cells_goes.l0 k acc ys (ys.length : Int) i w c) (acc ++ (ys.drop i).filter fun v => decide (Fr c v)) := by
  induction d with
  | zero =>
    intro i acc hi ha
    apply Ev.succ
    simp only [impl_Cells_goes.l0]
    rw [List.drop_eq_nil_of_le (by omega)]
    exact Ev.neg (by omega) (Ev.some (by simp))
  | succ d ih =>
    intro i acc hi ha
    apply Ev.succ
    have e : rd ys (i : Int) = ys[i]'(by omega) := by
      unfold rd
      rw [List.getD_eq_getElem?_getD, Int.toNat_natCast, List.getElem?_eq_getElem (by omega)]
      rfl
    rw [List.drop_eq_getElem_cons (show i < ys.length by omega), List.filter_cons]
    simp only [impl_Cells_goes.l0, e, succ_w (show i < 35184372088833 by omega)]
    refine Ev.pos (by omega) (Ev.pos (by omega) (Ev.pos (by omega) (Ev.bnd0 (free_impl w c _) (Ev.ite (fun hp => Ev.pos (by omega) ?_) (fun hp => ?_)))))
    · rw [if_pos hp]
      exact Ev.eq (ih (i + 1) (acc ++ [ys[i]'(by omega)]) (by omega) (by simp; omega)) (by simp)
    · rw [if_neg hp]
      exact ih (i + 1) acc (by omega) (by omega)

/-- Where one may be a tick later. -/
noncomputable def Gos (w : Int) (c : List Int) (a : Int) : List Int := ([Nx w c a 0 (-1), Nx w c a (-1) 0, a, Nx w c a 1 0, Nx w c a 0 1]).filter fun v => decide (Fr c v)
theorem Gos_free {w : Int} {c : List Int} {a v : Int} (h : v ∈ Gos w c a) : Fr c v := by
  have := (List.mem_filter.1 h).2
  simpa using this
theorem fo_cons (c : List Int) (n : Int) (l m : List Int) (h : l = m) : (if decide (Fo c n ≥ 0) = true then Fo c n :: l else l) = if decide (Fr c n) = true then n :: m else m := by
  subst h
  unfold Fo
  by_cases hf : Fr c n
  · rw [if_pos hf, if_pos (by simpa using hf.1), if_pos (by simpa using hf)]
  · rw [if_neg hf, if_neg (by simp), if_neg (by simpa using hf)]
theorem goes_ev {w : Int} {c : List Int} (h : Cl w c) {a : Int} (hf : Fr c a) : Ev (fun k => impl_Cells_goes.f k w c a) (Gos w c a) ∧ Ev (fun k => spec_l20Next.f k w c a) (Gos w c a) := by
  have h0 := hf.1
  have h1 := hf.2.1
  constructor
  · simp only [impl_Cells_goes.f, along_eq h h0 h1 3 (by omega) (by omega), along_eq h h0 h1 2 (by omega) (by omega), along_eq h h0 h1 0 (by omega) (by omega), along_eq h h0 h1 1 (by omega) (by omega), Option.bind_some]
    have := goes_l0 w c [Nx w c a (dX 3) (dY 3), Nx w c a (dX 2) (dY 2), a, Nx w c a (dX 0) (dY 0), Nx w c a (dX 1) (dY 1)] (by simp) 5 0 [] rfl (Nat.le_refl _)
    exact this
  · simp only [spec_l20Next.f, l12_eq h h0 h1 3 (by omega) (by omega), l12_eq h h0 h1 2 (by omega) (by omega), l12_eq h h0 h1 0 (by omega) (by omega), l12_eq h h0 h1 1 (by omega) (by omega), Option.bind_some]
    have := next_l0 [Fo c (Nx w c a (dX 3) (dY 3)), Fo c (Nx w c a (dX 2) (dY 2)), a, Fo c (Nx w c a (dX 0) (dY 0)), Fo c (Nx w c a (dX 1) (dY 1))] (by simp) 5 0 [] rfl (Nat.le_refl _)
    refine Ev.eq this ?_
    have ea : a = Fo c a := by unfold Fo; rw [if_pos hf]
    unfold Gos
    rw [List.nil_append, List.drop_zero]
    conv => lhs; arg 2; arg 2; arg 2; arg 1; rw [ea]
    simp only [List.filter_cons, List.filter_nil]
    exact fo_cons c _ _ _ (fo_cons c _ _ _ (fo_cons c _ _ _ (fo_cons c _ _ _ (fo_cons c _ _ _ rfl))))

end Go.Proofs.Ytcldlljnaijmhaa.Pure
/-
Own text: a map without deletions, told by the list of its keys and values in the order in which they came.
-/
namespace Go.Proofs.Ytcldlljnaijmhaa.Mp
open Go.MapKept Go.ChangeMaps
set_option linter.unusedVariables false
set_option linter.unusedSimpArgs false

section
variable {α β : Type}
/-- The entries, numbered from n on. -/
def ents (ek : α → Value) (ev : β → Value) : Nat → List (α × β) → List MapEntry
  | _, [] => []
  | n, (a, b) :: l => { key := ek a, val := ev b, born := n } :: ents ek ev (n + 1) l
/-- The map's block. -/
def mobj (ek : α → Value) (ev : β → Value) (L : List (α × β)) : Obj := .map (ents ek ev 0 L).toArray L.length
variable [DecidableEq α]
/-- What stands at a key. -/
def lk : List (α × β) → α → Option β
  | [], _ => none
  | (a, b) :: l, x => if x = a then some b else lk l x
/-- .. and where. -/
def place : List (α × β) → α → Option (Nat × β)
  | [], _ => none
  | (a, b) :: l, x => if x = a then some (0, b) else (place l x).map fun p => (p.1 + 1, p.2)
/-- m[x] = v. -/
def put : List (α × β) → α → β → List (α × β)
  | [], x, v => [(x, v)]
  | (a, b) :: l, x, v => if x = a then (a, v) :: l else (a, b) :: put l x v
theorem place_lk (L : List (α × β)) (x : α) : (place L x).map Prod.snd = lk L x := by
  induction L with
  | nil => rfl
  | cons p l ih =>
    obtain ⟨a, b⟩ := p
    simp only [place, lk]
    split
    · rfl
    · rw [← ih]
      cases place l x <;> rfl
theorem lk_put (L : List (α × β)) (x y : α) (v : β) : lk (put L x v) y = if y = x then some v else lk L y := by
  induction L with
  | nil => simp only [put, lk]
  | cons p l ih =>
    obtain ⟨a, b⟩ := p
    simp only [put]
    split
    · rename_i h
      subst h
      simp only [lk]
      split <;> rfl
    · rename_i h
      simp only [lk, ih]
      split
      · rename_i h2
        subst h2
        rw [if_neg (fun e => h e.symm)]
      · rfl
theorem put_place {L : List (α × β)} {x : α} (v : β) {i : Nat} {b : β} (h : place L x = some (i, b)) (ek : α → Value) (ev : β → Value) (n : Nat) :
    (put L x v).length = L.length ∧ i < L.length ∧ ents ek ev n (put L x v) = (ents ek ev n L).modify i (fun e => { e with key := ek x, val := ev v }) ∧ ((ents ek ev n L)[i]?).map (·.key) = some (ek x) := by
  induction L generalizing n i with
  | nil => cases h
  | cons p l ih =>
    obtain ⟨a, c⟩ := p
    simp only [place] at h
    split at h
    · rename_i e
      subst e
      cases h
      simp [put, ents, List.modify]
    · rename_i e
      cases hp : place l x with
      | none => rw [hp] at h; cases h
      | some q =>
        rw [hp] at h
        obtain ⟨j, b'⟩ := q
        cases h
        obtain ⟨h1, h2, h3, h4⟩ := ih hp (n + 1)
        simp only [put, if_neg e, ents, List.length_cons]
        exact ⟨by omega, by omega, by rw [h3]; rfl, h4⟩
theorem put_none {L : List (α × β)} {x : α} (v : β) (h : lk L x = none) (ek : α → Value) (ev : β → Value) (n : Nat) :
    put L x v = L ++ [(x, v)] ∧ ents ek ev n (put L x v) = ents ek ev n L ++ [{ key := ek x, val := ev v, born := n + L.length }] := by
  induction L generalizing n with
  | nil => exact ⟨rfl, rfl⟩
  | cons p l ih =>
    obtain ⟨a, c⟩ := p
    simp only [lk] at h
    split at h
    · cases h
    · rename_i e
      obtain ⟨h1, h2⟩ := ih h (n + 1)
      simp only [put, if_neg e, ents, h1, List.cons_append, List.length_cons]
      refine ⟨trivial, ?_⟩
      rw [← h1, h2, show n + 1 + l.length = n + (l.length + 1) by omega]

/-- What a key's type is good for. -/
structure Key (P : Program) (kt : TypeId) (ek : α → Value) : Prop where
  check : ∀ (w : World) (e : Bool) (a : α), (Instr.checkKey e 10000 kt (ek a)).run P w = .ok () w
  find : ∀ (w : World) (β : Type) (ev : β → Value) (L : List (α × β)) (a : α), (Instr.findKey kt (ek a) (ents ek ev 0 L)).run P w = .ok ((place L a).map fun p => (p.1, ev p.2)) w
  stays : ∀ (w : World) (a : α), (Instr.keyThatStays (ek a) (ek a)).run P w = .ok (ek a) w
variable {P : Program} {t kt e : TypeId} {ek : α → Value} {ev : β → Value} {L : List (α × β)} {w : World} {b : Nat}
theorem run_lk (K : Key P kt ek) (ht : P.underlying t = some (.map kt e)) {z : Value} (hz : (zeroValue e).run P w = .ok z w) (hb : w.heap[b]? = some (mobj ek ev L)) (a : α) :
    (Instr.lookup t (.map (some b)) (ek a) false).run P w = .ok (((lk L a).map ev).getD z) w := by
  have hb' : w.heap[b]? = some (.map (ents ek ev 0 L).toArray L.length) := hb
  have hf := K.find w β ev L a
  have hl := place_lk L a
  simp only [Instr.lookup, Sem.run_bind, run_underlying ht, Result.andThen, MapKept.run_getObj_map hb', K.check, List.toList_toArray, hf, Sem.run_pure]
  rw [← hl]
  cases place L a with
  | none => simp [hz, Result.andThen]
  | some p => simp [Result.andThen]
theorem run_lk_ok (K : Key P kt ek) (ht : P.underlying t = some (.map kt e)) {z : Value} (hz : (zeroValue e).run P w = .ok z w) (hb : w.heap[b]? = some (mobj ek ev L)) (a : α) :
    (Instr.lookup t (.map (some b)) (ek a) true).run P w = .ok (.tuple #[((lk L a).map ev).getD z, .bool (lk L a).isSome]) w := by
  have hb' : w.heap[b]? = some (.map (ents ek ev 0 L).toArray L.length) := hb
  have hf := K.find w β ev L a
  have hl := place_lk L a
  simp only [Instr.lookup, Sem.run_bind, run_underlying ht, Result.andThen, MapKept.run_getObj_map hb', K.check, List.toList_toArray, hf, Sem.run_pure]
  rw [← hl]
  cases place L a with
  | none => simp [hz, Result.andThen]
  | some p => simp [Result.andThen]
theorem run_put (K : Key P kt ek) (ht : P.underlying t = some (.map kt e)) (hb : w.heap[b]? = some (mobj ek ev L)) (a : α) (v : β) :
    (Instr.mapUpdate t (.map (some b)) (ek a) (ev v)).run P w = .ok () (setBlock w b (mobj ek ev (put L a v))) := by
  have hb' : w.heap[b]? = some (.map (ents ek ev 0 L).toArray L.length) := hb
  have hf := K.find w β ev L a
  simp only [Instr.mapUpdate, Sem.run_bind, run_underlying ht, Result.andThen, MapKept.run_getObj_map hb', K.check, List.toList_toArray, hf]
  cases hp : place L a with
  | none =>
    obtain ⟨h1, h2⟩ := put_none v (by rw [← place_lk, hp]; rfl) ek ev 0 (L := L) (x := a)
    simp only [Option.map_none, MapKept.run_setObj_map _ hb']
    unfold setBlock mobj
    rw [h2, h1]
    simp
  | some q =>
    obtain ⟨i, c⟩ := q
    obtain ⟨h1, h2, h3, h4⟩ := put_place v hp ek ev 0
    simp only [Option.map_some, Sem.run_bind, List.getElem?_toArray]
    rw [h4]
    simp only [Option.getD_some, K.stays, Result.andThen, MapKept.run_setObj_map _ hb']
    unfold setBlock mobj
    rw [h1, h3]
    simp
theorem setBlock_at {w : World} {b : Nat} {o : Obj} (hb : w.heap[b]? = some o) (o' : Obj) : (setBlock w b o').heap[b]? = some o' := by
  have hlt : b < w.heap.size := (Array.getElem?_eq_some_iff.1 hb).1
  simp [setBlock, hlt]
end
/-- Whole numbers as keys. -/
theorem Key.int {P : Program} {kt : TypeId} (hd : P.underlying kt = some (.int .i64)) : Key P kt (Value.int .i64) where
  check w e a := run_checkKey hd (k := .int .i64 a) (by simp [IsKey]) e 9999
  stays w a := run_keyThatStays (d := .int .i64) (k := .int .i64 a) (by simp [IsKey])
  find w β ev L a := by
    have key : ∀ (L : List (Int × β)) (n i : Nat), Instr.findNow (.int .i64) (.int .i64 a) (ents (Value.int .i64) ev n L) i = some ((place L a).map fun p => (i + p.1, ev p.2)) := by
      intro L
      induction L with
      | nil => intro n i; rfl
      | cons p l ih =>
        intro n i
        obtain ⟨x, c⟩ := p
        simp only [ents, Instr.findNow, Instr.sameNow, if_true, place]
        by_cases h : a = x
        · subst h
          simp
        · have hb : (a == x) = false := beq_eq_false_iff_ne.2 h
          simp only [hb, if_neg h, ih]
          cases place l a with
          | none => rfl
          | some q => simp; omega
    have := key L 0 0
    simp only [Nat.zero_add] at this
    exact run_findKey hd this
/-- Two whole numbers as a struct. -/
def ekp (p : Int × Int) : Value := .agg #[.int .i64 p.1, .int .i64 p.2]
section
variable {P : Program} {kt : TypeId} {f1 f2 : Field}
theorem run_part_int (w : World) {e : TypeId} (he : P.underlying e = some (.int .i64)) {xs : Array Value} {off : Nat} {v : Value} (hx : xs[off]? = some v) : (part e xs off).run P w = .ok v w := by
  simp [part, isAgg, run_underlying he, hx]
theorem run_eq_pair (w : World) (hu : P.underlying kt = some (.struct #[f1, f2])) (hp : P.stoodInHeld kt = false) (n1 : f1.name ≠ "_") (n2 : f2.name ≠ "_") (t1 : P.underlying f1.type = some (.int .i64)) (t2 : P.underlying f2.type = some (.int .i64)) (o1 : f1.offset = 0) (o2 : f2.offset = 1) (a b : Int × Int) :
    (Op.equal kt (ekp a) (ekp b)).run P w = .ok (decide (a = b)) w := by
  have hf : P.fieldsOf kt = #[f1, f2] := by simp [Program.fieldsOf, hu]
  unfold Op.equal Op.maxDepth ekp
  rw [run_equalIn_struct w 9999 kt _ _ (by rw [hf]; exact hu) hp, hf]
  have p1 : ∀ a : Int × Int, (part f1.type #[Value.int .i64 a.1, .int .i64 a.2] f1.offset).run P w = .ok (.int .i64 a.1) w := fun a => run_part_int w t1 (by rw [o1]; rfl)
  have p2 : ∀ a : Int × Int, (part f2.type #[Value.int .i64 a.1, .int .i64 a.2] f2.offset).run P w = .ok (.int .i64 a.2) w := fun a => run_part_int w t2 (by rw [o2]; rfl)
  have e1 := run_equalIn_int (P := P) w 9998 f1.type .i64 .i64 a.1 b.1 t1
  have e2 := run_equalIn_int (P := P) w 9998 f2.type .i64 .i64 a.2 b.2 t2
  obtain ⟨a1, a2⟩ := a
  obtain ⟨b1, b2⟩ := b
  have e3 : decide ((a1, a2) = (b1, b2)) = (a1 == b1 && a2 == b2) := by
    rw [Bool.eq_iff_iff]
    simp
  rw [e3]
  have q1 := p1 (a1, a2)
  have q2 := p1 (b1, b2)
  have q3 := p2 (a1, a2)
  have q4 := p2 (b1, b2)
  simp only at q1 q2 q3 q4 e1 e2
  simp only [Op.eqFields, ne_eq, n1, n2, not_false_eq_true, if_true, Sem.run_bind, q1, q2, Result.andThen, e1]
  cases h1 : (a1 == b1)
  · simp
  · cases h2 : (a2 == b2) <;> rw [h2] at e2 <;> simp [Result.andThen, q3, q4, e2]
theorem Key.pair (hu : P.underlying kt = some (.struct #[f1, f2])) (hp : P.stoodInHeld kt = false) (n1 : f1.name ≠ "_") (n2 : f2.name ≠ "_") (t1 : P.underlying f1.type = some (.int .i64)) (t2 : P.underlying f2.type = some (.int .i64)) (o1 : f1.offset = 0) (o2 : f2.offset = 1) : Key P kt ekp where
  check w e a := by
    have p1 : (part f1.type #[Value.int .i64 a.1, .int .i64 a.2] f1.offset).run P w = .ok (.int .i64 a.1) w := run_part_int w t1 (by rw [o1]; rfl)
    have p2 : (part f2.type #[Value.int .i64 a.1, .int .i64 a.2] f2.offset).run P w = .ok (.int .i64 a.2) w := run_part_int w t2 (by rw [o2]; rfl)
    have c1 := run_checkKey (w := w) t1 (k := .int .i64 a.1) (by simp [IsKey]) e 9998
    have c2 := run_checkKey (w := w) t2 (k := .int .i64 a.2) (by simp [IsKey]) e 9998
    have hn : (10000 : Nat) = 9999 + 1 := rfl
    rw [hn, ekp]
    unfold Instr.checkKey
    simp only [Sem.run_bind, run_underlying hu, Result.andThen]
    rw [← Array.forIn_toList]
    simp [n1, n2, p1, p2, c1, c2, Result.andThen]
  stays w a := by
    have h : Instr.sameBits 10000 (ekp a) (ekp a) = true := by
      simp [ekp, Instr.sameBits]
    simp [Instr.keyThatStays, h]
  find w β ev L a := by
    have eq := fun b => run_eq_pair w hu hp n1 n2 t1 t2 o1 o2 a b
    have key : ∀ (L : List ((Int × Int) × β)) (n i : Nat), (Instr.findAsking kt (ekp a) (ents ekp ev n L) i).run P w = .ok ((place L a).map fun p => (i + p.1, ev p.2)) w := by
      intro L
      induction L with
      | nil => intro n i; rfl
      | cons p l ih =>
        intro n i
        obtain ⟨x, c⟩ := p
        simp only [ents, Instr.findAsking, Sem.run_bind, eq, Result.andThen, place]
        by_cases h : a = x
        · simp [h]
        · simp only [h, decide_false, Bool.false_eq_true, if_false, ih]
          cases place l a with
          | none => rfl
          | some q => simp; omega
    have h2 := key L 0 0
    simp only [Nat.zero_add] at h2
    unfold Instr.findKey
    simp only [Sem.run_bind, run_underlying hu, Result.andThen]
    cases L with
    | nil => rfl
    | cons p l =>
      obtain ⟨x, c⟩ := p
      simp only [ents, Instr.findNow, Instr.sameNow]
      exact h2
end
end Go.Proofs.Ytcldlljnaijmhaa.Mp
/-
Own text: a search in breadth, over any places: it ends; what it finds never changes; it is as short as any walk.
-/
namespace Go.Proofs.Ytcldlljnaijmhaa.Bfs
open Go.Proofs.Ytcldlljnaijmhaa.Mp
set_option linter.unusedVariables false

section
variable {α : Type} [DecidableEq α]
/-- The places next to one at d: those that are not known yet are d + 1 far. -/
def relax (d : Int) : List (α × Int) → List α → List α → List (α × Int) × List α
  | D, Q, [] => (D, Q)
  | D, Q, n :: l => if lk D n = none then relax d (put D n (d + 1)) (Q ++ [n]) l else relax d D Q l
/-- The search, in g rounds. -/
inductive Run (nx : α → List α) : Nat → List (α × Int) → List α → List (α × Int) → Prop
  | done (D : List (α × Int)) : Run nx 0 D [] D
  | step {D : List (α × Int)} {Q : List α} {c : α} {d : Int} {g : Nat} {D' : List (α × Int)} : lk D c = some d → Run nx g (relax d D Q (nx c)).1 (relax d D Q (nx c)).2 D' → Run nx (g + 1) D (c :: Q) D'
/-- How many places of U are not known yet. -/
def open_ (D : List (α × Int)) : List α → Nat
  | [] => 0
  | u :: U => (if lk D u = none then 1 else 0) + open_ D U
theorem open_put {D : List (α × Int)} {n : α} (v : Int) (U : List α) : open_ (put D n v) U ≤ open_ D U ∧ (n ∈ U → lk D n = none → open_ (put D n v) U < open_ D U) := by
  induction U with
  | nil => exact ⟨Nat.le_refl _, fun h => by cases h⟩
  | cons u U ih =>
    simp only [open_, lk_put]
    by_cases h : u = n
    · subst h
      simp only [if_true, reduceCtorEq, if_false]
      refine ⟨by have := ih.1; split <;> omega, fun _ hn => ?_⟩
      rw [if_pos hn]
      have := ih.1
      omega
    · simp only [if_neg h]
      refine ⟨by have := ih.1; omega, fun hm hn => ?_⟩
      rcases List.mem_cons.1 hm with e | hm
      · exact absurd e.symm h
      · have := ih.2 hm hn
        omega
theorem relax_kept {d : Int} {l : List α} : ∀ {D : List (α × Int)} {Q : List α} {x : α} {e : Int}, lk D x = some e → lk (relax d D Q l).1 x = some e := by
  induction l with
  | nil => intro D Q x e h; exact h
  | cons n l ih =>
    intro D Q x e h
    simp only [relax]
    split
    · rename_i hn
      refine ih ?_
      rw [lk_put]
      split
      · rename_i hx
        rw [hx, hn] at h
        cases h
      · exact h
    · exact ih h
theorem relax_open {d : Int} {U : List α} {l : List α} (hl : ∀ n ∈ l, n ∈ U) : ∀ (D : List (α × Int)) (Q : List α), (relax d D Q l).2.length + open_ (relax d D Q l).1 U ≤ Q.length + open_ D U := by
  induction l with
  | nil => intro D Q; exact Nat.le_refl _
  | cons n l ih =>
    intro D Q
    simp only [relax]
    split
    · rename_i hn
      have h1 := ih (fun n h => hl n (.tail _ h)) (put D n (d + 1)) (Q ++ [n])
      have h2 := (open_put (D := D) (n := n) (d + 1) U).2 (hl n (.head _)) hn
      simp only [List.length_append, List.length_singleton] at h1
      omega
    · exact ih (fun n h => hl n (.tail _ h)) D Q
theorem relax_known {d : Int} {l : List α} : ∀ {D : List (α × Int)} {Q : List α}, (∀ q ∈ Q, lk D q ≠ none) → ∀ q ∈ (relax d D Q l).2, lk (relax d D Q l).1 q ≠ none := by
  induction l with
  | nil => intro D Q h; exact h
  | cons n l ih =>
    intro D Q h
    simp only [relax]
    split
    · refine ih (fun q hq => ?_)
      rw [lk_put]
      split
      · simp
      · rename_i hne
        rcases List.mem_append.1 hq with hq | hq
        · exact h q hq
        · exact absurd (List.mem_singleton.1 hq) hne
    · exact ih h
theorem relax_in {d : Int} {U l : List α} (hl : ∀ n ∈ l, n ∈ U) : ∀ {D : List (α × Int)} {Q : List α}, (∀ q ∈ Q, q ∈ U) → ∀ q ∈ (relax d D Q l).2, q ∈ U := by
  induction l with
  | nil => intro D Q h; exact h
  | cons n l ih =>
    intro D Q h
    simp only [relax]
    split
    · refine ih (fun n h => hl n (.tail _ h)) (fun q hq => ?_)
      rcases List.mem_append.1 hq with hq | hq
      · exact h q hq
      · rw [List.mem_singleton.1 hq]; exact hl n (.head _)
    · exact ih (fun n h => hl n (.tail _ h)) h
/-- The search ends. -/
theorem run_ends (nx : α → List α) (U : List α) (hU : ∀ c ∈ U, ∀ n ∈ nx c, n ∈ U) (m : Nat) : ∀ (D : List (α × Int)) (Q : List α), Q.length + open_ D U ≤ m → (∀ q ∈ Q, lk D q ≠ none) → (∀ q ∈ Q, q ∈ U) → ∃ g D', Run nx g D Q D' ∧ g ≤ m := by
  induction m with
  | zero =>
    intro D Q hm _ _
    have : Q = [] := List.eq_nil_of_length_eq_zero (by omega)
    subst this
    exact ⟨0, D, .done D, Nat.le_refl _⟩
  | succ m ih =>
    intro D Q hm h1 h2
    cases Q with
    | nil => exact ⟨0, D, .done D, Nat.zero_le _⟩
    | cons c Q =>
      cases hc : lk D c with
      | none => exact absurd hc (h1 c (.head _))
      | some d =>
        have hn := hU c (h2 c (.head _))
        have h3 := relax_open (d := d) hn D Q
        simp only [List.length_cons] at hm
        obtain ⟨g, D', hr, hg⟩ := ih _ _ (Nat.le_trans h3 (by omega)) (relax_known (d := d) (l := nx c) (fun q hq => h1 q (.tail _ hq))) (relax_in (d := d) hn (D := D) (fun q hq => h2 q (.tail _ hq)))
        exact ⟨g + 1, D', .step hc hr, by omega⟩
/-- All next to x are known, and no farther than one step more. -/
def Shut (nx : α → List α) (D : List (α × Int)) (x : α) (e : Int) : Prop := ∀ n ∈ nx x, ∃ e', lk D n = some e' ∧ e' ≤ e + 1
def dv (D : List (α × Int)) (x : α) : Int := (lk D x).getD 0
structure Inv (nx : α → List α) (D : List (α × Int)) (Q : List α) : Prop where
  known : ∀ q ∈ Q, lk D q ≠ none
  rise : Q.Pairwise fun x y => dv D x ≤ dv D y
  near : ∀ x e, lk D x = some e → ∀ q, Q.head? = some q → e ≤ dv D q + 1
  shut : ∀ x e, lk D x = some e → x ∈ Q ∨ Shut nx D x e
  pos : ∀ x e, lk D x = some e → 0 ≤ e
/-- .. while the places next to c are looked at. -/
structure Mid (nx : α → List α) (c : α) (d : Int) (D : List (α × Int)) (Q : List α) : Prop where
  at_ : lk D c = some d
  known : ∀ q ∈ Q, lk D q ≠ none
  rise : Q.Pairwise fun x y => dv D x ≤ dv D y
  low : ∀ q ∈ Q, d ≤ dv D q
  near : ∀ x e, lk D x = some e → e ≤ d + 1
  shut : ∀ x e, lk D x = some e → x = c ∨ x ∈ Q ∨ Shut nx D x e
  pos : ∀ x e, lk D x = some e → 0 ≤ e
theorem dv_put {D : List (α × Int)} {n x : α} {v : Int} (h : x ≠ n) : dv (put D n v) x = dv D x := by
  unfold dv
  rw [lk_put, if_neg h]
theorem Mid.put {nx : α → List α} {c n : α} {d : Int} {D : List (α × Int)} {Q : List α} (h : Mid nx c d D Q) (hn : lk D n = none) : Mid nx c d (put D n (d + 1)) (Q ++ [n]) := by
  have hQ : ∀ q ∈ Q, q ≠ n := fun q hq e => h.known q hq (e ▸ hn)
  have hd0 := h.pos c d h.at_
  have hdn : dv (Mp.put D n (d + 1)) n = d + 1 := by unfold dv; rw [lk_put, if_pos rfl]; rfl
  refine ⟨?_, ?_, ?_, ?_, ?_, ?_, ?_⟩
  · rw [lk_put, if_neg (fun e => by have := h.at_; rw [e, hn] at this; cases this)]
    exact h.at_
  · intro q hq
    rw [lk_put]
    split
    · simp
    · rename_i hne
      rcases List.mem_append.1 hq with hq | hq
      · exact h.known q hq
      · exact absurd (List.mem_singleton.1 hq) hne
  · refine List.pairwise_append.2 ⟨?_, by simp, ?_⟩
    · refine h.rise.imp_of_mem ?_
      intro x y hx hy hxy
      rw [dv_put (hQ x hx), dv_put (hQ y hy)]
      exact hxy
    · intro x hx y hy
      rw [List.mem_singleton.1 hy, hdn, dv_put (hQ x hx)]
      unfold dv
      cases hl : lk D x with
      | none => exact absurd hl (h.known x hx)
      | some e => exact h.near x e hl
  · intro q hq
    rcases List.mem_append.1 hq with hq | hq
    · rw [dv_put (hQ q hq)]
      exact h.low q hq
    · rw [List.mem_singleton.1 hq, hdn]
      omega
  · intro x e hx
    rw [lk_put] at hx
    split at hx
    · cases hx; omega
    · exact h.near x e hx
  · intro x e hx
    rw [lk_put] at hx
    split at hx
    · rename_i he
      exact .inr (.inl (by rw [he]; simp))
    · rcases h.shut x e hx with h1 | h1 | h1
      · exact .inl h1
      · exact .inr (.inl (by simp [h1]))
      · refine .inr (.inr fun m hm => ?_)
        obtain ⟨e', h2, h3⟩ := h1 m hm
        refine ⟨e', ?_, h3⟩
        rw [lk_put, if_neg (fun e => by rw [e, hn] at h2; cases h2)]
        exact h2
  · intro x e hx
    rw [lk_put] at hx
    split at hx
    · cases hx; omega
    · exact h.pos x e hx
theorem Mid.relax {nx : α → List α} {c : α} {d : Int} {l : List α} : ∀ {D : List (α × Int)} {Q : List α}, Mid nx c d D Q → Mid nx c d (relax d D Q l).1 (relax d D Q l).2 ∧ ∀ n ∈ l, lk (Bfs.relax d D Q l).1 n ≠ none := by
  induction l with
  | nil => intro D Q h; exact ⟨h, fun n hn => by cases hn⟩
  | cons n l ih =>
    intro D Q h
    simp only [Bfs.relax]
    split
    · rename_i hn
      obtain ⟨h1, h2⟩ := ih (h.put hn)
      refine ⟨h1, fun m hm => ?_⟩
      rcases List.mem_cons.1 hm with e | hm
      · rw [e, relax_kept (show lk (Mp.put D n (d + 1)) n = some (d + 1) by rw [lk_put, if_pos rfl])]
        simp
      · exact h2 m hm
    · rename_i hn
      obtain ⟨h1, h2⟩ := ih h
      refine ⟨h1, fun m hm => ?_⟩
      rcases List.mem_cons.1 hm with e | hm
      · cases hl : lk D n with
        | none => exact absurd hl hn
        | some e1 => rw [e, relax_kept hl]; simp
      · exact h2 m hm
theorem Inv.step {nx : α → List α} {c : α} {d : Int} {D : List (α × Int)} {Q : List α} (h : Inv nx D (c :: Q)) (hc : lk D c = some d) : Inv nx (relax d D Q (nx c)).1 (relax d D Q (nx c)).2 := by
  have hdc : dv D c = d := by unfold dv; rw [hc]; rfl
  have hr := List.pairwise_cons.1 h.rise
  have m0 : Mid nx c d D Q := ⟨hc, fun q hq => h.known q (.tail _ hq), hr.2, fun q hq => by rw [← hdc]; exact hr.1 q hq, fun x e hx => by have := h.near x e hx c rfl; omega, fun x e hx => by
    rcases h.shut x e hx with h1 | h1
    · rcases List.mem_cons.1 h1 with h1 | h1
      · exact .inl h1
      · exact .inr (.inl h1)
    · exact .inr (.inr h1), h.pos⟩
  obtain ⟨m1, hall⟩ := m0.relax (l := nx c)
  refine ⟨m1.known, m1.rise, ?_, ?_, m1.pos⟩
  · intro x e hx q hq
    have h1 := m1.near x e hx
    have h2 := m1.low q (by cases hQ : (relax d D Q (nx c)).2 with
      | nil => rw [hQ] at hq; cases hq
      | cons a l => rw [hQ] at hq; cases hq; simp)
    omega
  · intro x e hx
    rcases m1.shut x e hx with h1 | h1 | h1
    · refine .inr fun n hn => ?_
      have h2 := hall n (h1 ▸ hn)
      cases hl : lk (relax d D Q (nx c)).1 n with
      | none => exact absurd hl h2
      | some e' =>
        refine ⟨e', rfl, ?_⟩
        have h3 := m1.near n e' hl
        have h4 := m1.at_
        rw [h1] at hx
        rw [hx] at h4
        cases h4
        exact h3
    · exact .inl h1
    · exact .inr h1
/-- What the search from s finds. -/
noncomputable def fin (nx : α → List α) (s : α) : List (α × Int) := open Classical in if h : ∃ (D : List (α × Int)) (g : Nat), Run nx g [(s, (0 : Int))] [s] D then h.choose else []
theorem fin_run {nx : α → List α} {s : α} (U : List α) (hs : s ∈ U) (hU : ∀ c ∈ U, ∀ n ∈ nx c, n ∈ U) : ∃ g, Run nx g [(s, (0 : Int))] [s] (fin nx s) := by
  have h : ∃ (D : List (α × Int)) (g : Nat), Run nx g [(s, (0 : Int))] [s] D := by
    obtain ⟨g, D, h, _⟩ := run_ends nx U hU _ [(s, (0 : Int))] [s] (Nat.le_refl _) (fun q hq => by rw [List.mem_singleton.1 hq]; simp [lk]) (fun q hq => by rw [List.mem_singleton.1 hq]; exact hs)
    exact ⟨D, g, h⟩
  unfold fin
  rw [dif_pos h]
  exact h.choose_spec
end
end Go.Proofs.Ytcldlljnaijmhaa.Bfs
/-
Own text, by hand: what AloneTicks comes to: the search in breadth.
-/
namespace Go.Proofs.Ytcldlljnaijmhaa.Pr
open Go.RowKit Go.Proofs.YtcldlljnaijmhaaW.PrintWords Go.Proofs.YtcldlljnaijmhaaW.PrintLast
open Classical in
noncomputable def impl_AloneTicks.f (a0_0 : Int) (l0_1 : List Int) (a1_0 : Int) (a1_1 : Int) : Option Int :=
  if l0_1.length ≤ 35184372088832 then some (if Pure.Gt a0_0 l0_1 [⟨a1_0, a1_1⟩] then (Mp.lk (Bfs.fin (Pure.Gos a0_0 l0_1) a1_0) a1_1).getD (-1) else -1) else none
end Go.Proofs.Ytcldlljnaijmhaa.Pr
-- Written by this session's own print (wip/tools/mkmp.py) out of the translation. Lean checks it.
namespace Go.Proofs.Ytcldlljnaijmhaa.Pr
open Go.RowKit Go.Proofs.YtcldlljnaijmhaaW.PrintWords Go.Proofs.YtcldlljnaijmhaaW.PrintLast Go.Proofs.YtcldlljnaijmhaaW.PrintMore
attribute [local go_sem] max2_int min2_int max_two min_two max_three min_three max_four min_four   -- for this text's walks alone
set_option linter.unusedVariables false
set_option linter.unusedSimpArgs false

/-! ### laws_FnExactAloneTicks: function 6 -/
noncomputable def laws_FnExactAloneTicks.f (k : Nat) (a0_0 : Int) (l0_1 : List Int) (a1_0 : Int) (a1_1 : Int) : Option (Bool) := (laws_szCells.f a0_0 l0_1 1048576).bind fun t343 => (if t343 < 0 then (some true) else ((laws_toCells.f k a0_0 l0_1).bind fun bt344 => ((laws_toTrip.f a1_0 a1_1).bind fun bt348 => ((spec_AloneTicks.f k bt344.1 bt344.2 bt348.1 bt348.2).bind fun t350 => ((laws_toCells.f k a0_0 l0_1).bind fun bt351 => ((laws_toTrip.f a1_0 a1_1).bind fun bt356 => ((impl_AloneTicks.f bt351.1 bt351.2 bt356.1 bt356.2).bind fun t358 => (if t358 = t350 then ((laws_toCells.f k a0_0 l0_1).bind fun bt359 => ((laws_eqCells.f k bt351.1 bt351.2 bt359.1 bt359.2).bind fun t363 => (if t363 = true then (some true) else (some false)))) else (some false)))))))))
/-! ### spec_JointTicks: function 34 -/
/-! ### impl_meets: function 59 -/
end Go.Proofs.Ytcldlljnaijmhaa.Pr
/-
Own text: the reference's search, in its own lists, finds what the search in breadth finds.
-/
namespace Go.Proofs.Ytcldlljnaijmhaa.Pure
open Go.RowKit Go.Proofs.YtcldlljnaijmhaaW.PrintWords Go.Proofs.YtcldlljnaijmhaaW.PrintLast Go.Proofs.Ytcldlljnaijmhaa.Pr Go.Proofs.Ytcldlljnaijmhaa.EvKit
open Mp (lk put lk_put)
open Bfs (Run relax open_ open_put)
open Classical

/-- The numbers below n. -/
def Us (n : Nat) : List Int := (List.range n).map (fun i : Nat => (i : Int))
theorem mem_Us {n : Nat} {x : Int} : x ∈ Us n ↔ 0 ≤ x ∧ x < n := by
  unfold Us
  rw [List.mem_map]
  constructor
  · rintro ⟨i, hi, rfl⟩
    have := List.mem_range.1 hi
    omega
  · intro h
    exact ⟨x.toNat, List.mem_range.2 (by omega), by omega⟩
theorem open_le {α : Type} [DecidableEq α] (D : List (α × Int)) (U : List α) : open_ D U ≤ U.length := by
  induction U with
  | nil => exact Nat.le_refl _
  | cons u U ih =>
    simp only [open_, List.length_cons]
    split <;> omega
theorem relax_pre {α : Type} [DecidableEq α] (d : Int) (l : List α) : ∀ (D : List (α × Int)) (A Q : List α), relax d D (A ++ Q) l = ((relax d D Q l).1, A ++ (relax d D Q l).2) := by
  induction l with
  | nil => intro D A Q; rfl
  | cons n l ih =>
    intro D A Q
    simp only [relax]
    split
    · rw [List.append_assoc, ih]
    · exact ih D A Q
/-- The list of the distances tells what is known. -/
def Rel (far : List Int) (n : Nat) (D : List (Int × Int)) : Prop := far.length = n ∧ ∀ x : Int, 0 ≤ x → x < n → rd far x = (lk D x).getD (-1)
theorem Rel.put {far : List Int} {n : Nat} {D : List (Int × Int)} (h : Rel far n D) {x v : Int} (h0 : 0 ≤ x) (h1 : x < n) : Rel (far.set x.toNat v) n (put D x v) := by
  obtain ⟨hl, hr⟩ := h
  refine ⟨by simp [hl], fun y hy0 hy1 => ?_⟩
  rw [lk_put]
  by_cases e : y = x
  · subst e
    unfold rd
    rw [if_pos rfl, List.getD_eq_getElem?_getD, List.getElem?_set_self (by omega)]
    rfl
  · rw [if_neg e, ← hr y hy0 hy1]
    unfold rd
    rw [List.getD_eq_getElem?_getD, List.getD_eq_getElem?_getD, List.getElem?_set_ne (by omega)]
/-- Small numbers. -/
def Low {α : Type} [DecidableEq α] (D : List (α × Int)) (U : List α) (B : Nat) : Prop := ∀ x e, lk D x = some e → 0 ≤ e ∧ e + (open_ D U : Int) ≤ B
theorem Low.put {α : Type} [DecidableEq α] {D : List (α × Int)} {U : List α} {B : Nat} (h : Low D U B) {n c : α} {d : Int} (hc : lk D c = some d) (hn : n ∈ U) (ho : lk D n = none) : Low (put D n (d + 1)) U B := by
  intro x e hx
  rw [lk_put] at hx
  have h1 := (open_put (D := D) (n := n) (d + 1) U).2 hn ho
  split at hx
  · cases hx
    have := h c d hc
    omega
  · have := h x e hx
    omega
theorem alone_l2 {w : Int} {c : List Int} (s t : Int) (a : Int) (i : Nat) (l : List Int) (hl : ∀ n ∈ l, Fr c n) (h100 : l.length ≤ 100) (d : Int) (r : Int) (B : Nat) (hB : B ≤ 1048576) (e : Nat) :
    ∀ (j : Nat) (far T : List Int) (D : List (Int × Int)), j + e = l.length → Rel far c.length D → lk D a = some d → T.length + open_ D (Us c.length) ≤ B → Low D (Us c.length) B → i < T.length → rd T (i : Int) = a → 0 ≤ a → a < c.length →
    (∀ far', Rel far' c.length (relax d D T (l.drop j)).1 → (relax d D T (l.drop j)).2.length + open_ (relax d D T (l.drop j)).1 (Us c.length) ≤ B → Low (relax d D T (l.drop j)).1 (Us c.length) B → Ev (fun k => spec_AloneTicks.l1 k far' (relax d D T (l.drop j)).2 ((i + 1 : Nat) : Int) w c s t) r) →
    Ev (fun k => spec_AloneTicks.l2 k far T i l (l.length : Int) j w c s t) r := by
  induction e with
  | zero =>
    intro j far T D hj hrel hd hb hlow hi hta ha0 ha1 hN
    apply Ev.succ
    simp only [spec_AloneTicks.l2, succ_w (show i < 35184372088833 by omega)]
    rw [List.drop_eq_nil_of_le (by omega)] at hN
    exact Ev.neg (by omega) (hN far hrel hb hlow)
  | succ e ih =>
    intro j far T D hj hrel hd hb hlow hi hta ha0 ha1 hN
    have hdr : l.drop j = l.getD j 0 :: l.drop (j + 1) := by
      rw [List.drop_eq_getElem_cons (show j < l.length by omega)]
      congr 1
      simp [List.getD_eq_getElem?_getD, List.getElem?_eq_getElem (show j < l.length by omega)]
    have en : rd l (j : Int) = l.getD j 0 := rfl
    have hfn := hl _ (getD_mem l j 0 (by omega))
    rw [hdr] at hN
    generalize l.getD j 0 = n at hN en hfn
    have hn0 := hfn.1
    have hn1 := hfn.2.1
    have hlen := hrel.1
    have hrn := hrel.2 n hn0 hn1
    have hra := hrel.2 a ha0 ha1
    rw [hd] at hra
    have hda := hlow a d hd
    apply Ev.succ
    simp only [spec_AloneTicks.l2, succ_w (show j < 35184372088833 by omega), en, hlen]
    refine Ev.pos (by omega) (Ev.pos (by omega) (Ev.pos (by omega) (Ev.pos (by omega) (Ev.pos (by omega) ?_))))
    cases hk : lk D n with
    | none =>
      rw [hk] at hrn
      simp only [relax, hk, if_true] at hN
      rw [hrn, hta]
      refine Ev.pos (by simp) (Ev.pos (by omega) (Ev.pos (by omega) (Ev.pos (by omega) (Ev.pos (by omega) (Ev.pos (by omega) ?_)))))
      rw [hra, show ((some d).getD (-1) : Int) = d from rfl, wrap64_id (x := d + 1) (by omega) (by omega)]
      have ho := (open_put (D := D) (n := n) (d + 1) (Us c.length)).2 (mem_Us.2 ⟨hn0, hn1⟩) hk
      refine ih (j + 1) _ (T ++ [n]) (put D n (d + 1)) (by omega) (hrel.put hn0 hn1) ?_ (by simp only [List.length_append, List.length_singleton]; omega) (hlow.put hd (mem_Us.2 ⟨hn0, hn1⟩) hk) (by simp; omega) ?_ ha0 ha1 hN
      · rw [lk_put, if_neg (fun e => by rw [e, hk] at hd; cases hd)]
        exact hd
      · rw [← hta]
        unfold rd
        rw [List.getD_eq_getElem?_getD, List.getD_eq_getElem?_getD, List.getElem?_append_left (by omega)]
    | some e1 =>
      rw [hk] at hrn
      have he1 := hlow n e1 hk
      simp only [relax, hk, reduceCtorEq, if_false] at hN
      rw [hrn]
      exact Ev.neg (by simp only [Option.getD_some]; omega) (ih (j + 1) far T D (by omega) hrel hd hb hlow hi hta ha0 ha1 hN)
theorem relax_mem {α : Type} [DecidableEq α] {d : Int} {C : α → Prop} {l : List α} (hl : ∀ n ∈ l, C n) : ∀ {D : List (α × Int)} {Q : List α}, (∀ q ∈ Q, C q) → ∀ q ∈ (relax d D Q l).2, C q := by
  induction l with
  | nil => intro D Q h; exact h
  | cons n l ih =>
    intro D Q h
    simp only [relax]
    split
    · refine ih (fun n h => hl n (.tail _ h)) (fun q hq => ?_)
      rcases List.mem_append.1 hq with hq | hq
      · exact h q hq
      · rw [List.mem_singleton.1 hq]; exact hl n (.head _)
    · exact ih (fun n h => hl n (.tail _ h)) h
theorem Gos_len (w : Int) (c : List Int) (a : Int) : (Gos w c a).length ≤ 100 := by
  unfold Gos
  refine Nat.le_trans (List.length_filter_le _ _) ?_
  simp
theorem alone_l1 {w : Int} {c : List Int} (hc : Cl w c) (s t : Int) (ht : Fr c t) (B : Nat) (hB : B ≤ 1048576) (D' : List (Int × Int)) (g : Nat) :
    ∀ (i : Nat) (far T : List Int) (D : List (Int × Int)), i ≤ T.length → Rel far c.length D → T.length + open_ D (Us c.length) ≤ B → Low D (Us c.length) B → (∀ q ∈ T, Fr c q) → Run (Gos w c) g D (T.drop i) D' →
    Ev (fun k => spec_AloneTicks.l1 k far T i w c s t) ((lk D' t).getD (-1)) := by
  induction g with
  | zero =>
    intro i far T D hi hrel hb hlow hT hr
    have hlen := hrel.1
    generalize hQ : T.drop i = Q at hr
    cases hr
    have : T.length ≤ i := by
      have := congrArg List.length hQ
      simp at this
      omega
    apply Ev.succ
    simp only [spec_AloneTicks.l1, hlen]
    have h0 := ht.1
    have h1 := ht.2.1
    exact Ev.neg (by omega) (Ev.pos (by omega) (Ev.pos (by omega) (Ev.some (hrel.2 t h0 h1))))
  | succ g ih =>
    intro i far T D hi hrel hb hlow hT hr
    have hlen := hrel.1
    generalize hQ : T.drop i = Q at hr
    cases hr with
    | @step _ Q a d _ _ hd hr =>
      have hiT : i < T.length := by
        have := congrArg List.length hQ
        simp at this
        omega
      have hta : rd T (i : Int) = a := by
        rw [List.drop_eq_getElem_cons hiT] at hQ
        injection hQ with e1 _
        unfold rd
        rw [Int.toNat_natCast, List.getD_eq_getElem?_getD, List.getElem?_eq_getElem hiT]
        exact e1
      have hQ2 : T.drop (i + 1) = Q := by
        rw [List.drop_eq_getElem_cons hiT] at hQ
        injection hQ with _ e2
      have hfa : Fr c a := by
        rw [← hta]
        exact hT _ (getD_mem T i 0 hiT)
      have hsplit : relax d D T (Gos w c a) = ((relax d D Q (Gos w c a)).1, T.take (i + 1) ++ (relax d D Q (Gos w c a)).2) := by
        have := relax_pre d (Gos w c a) D (T.take (i + 1)) (T.drop (i + 1))
        rw [List.take_append_drop, hQ2] at this
        exact this
      apply Ev.succ
      simp only [spec_AloneTicks.l1]
      refine Ev.pos (by omega) (Ev.pos (by omega) ?_)
      rw [hta]
      refine Ev.bnd (goes_ev hc hfa).2 ?_
      refine alone_l2 s t a i (Gos w c a) (fun n hn => Gos_free hn) (Gos_len w c a) d _ B hB (Gos w c a).length 0 far T D (by omega) hrel hd hb hlow hiT hta hfa.1 hfa.2.1 ?_
      rw [List.drop_zero]
      intro far' hrel' hb' hlow'
      have hdrop : (relax d D T (Gos w c a)).2.drop (i + 1) = (relax d D Q (Gos w c a)).2 := by
        rw [hsplit]
        exact List.drop_left' (by simp; omega)
      have hmem : ∀ q ∈ (relax d D T (Gos w c a)).2, Fr c q := relax_mem (fun n hn => Gos_free hn) hT
      refine ih (i + 1) far' _ _ ?_ hrel' hb' hlow' hmem ?_
      · rw [hsplit]
        simp
        omega
      · rw [hdrop, hsplit]
        exact hr
theorem alone_l0 (s t w : Int) (c : List Int) (hs : 0 ≤ s) (hs2 : s < c.length) (r : Int) (hn : c.length ≤ 35184372088832) (hN : Ev (fun k => spec_AloneTicks.l1 k ((List.replicate c.length (-1)).set s.toNat 0) [s] 0 w c s t) r) (e : Nat) :
    ∀ i : Nat, i + e = c.length → Ev (fun k => spec_AloneTicks.l0 k (List.replicate i (-1) ++ List.replicate (c.length - i) 0) (c.length : Int) i w c s t) r := by
  induction e with
  | zero =>
    intro i hi
    obtain rfl : i = c.length := by omega
    apply Ev.succ
    simp only [spec_AloneTicks.l0, Nat.sub_self, List.replicate_zero, List.append_nil, List.length_replicate]
    exact Ev.neg (by omega) (Ev.pos (by omega) (Ev.pos (by omega) hN))
  | succ e ih =>
    intro i hi
    have hset : (List.replicate i (-1 : Int) ++ List.replicate (c.length - i) 0).set i (-1) = List.replicate (i + 1) (-1) ++ List.replicate (c.length - (i + 1)) 0 := by
      rw [List.set_append_right _ _ (by simp), List.length_replicate, Nat.sub_self, show c.length - i = (c.length - (i + 1)) + 1 by omega, List.replicate_succ, List.set_cons_zero, List.replicate_succ', List.append_assoc]
      rfl
    apply Ev.succ
    simp only [spec_AloneTicks.l0, succ_w (show i < 35184372088833 by omega), List.length_append, List.length_replicate, Int.toNat_natCast, hset]
    exact Ev.pos (by omega) (Ev.pos (by omega) (Ev.pos (by omega) (ih (i + 1) (by omega))))
theorem Gos_in {w : Int} {c : List Int} (x : Int) (_ : x ∈ Us c.length) : ∀ n ∈ Gos w c x, n ∈ Us c.length := fun n hn => by
  have h := Gos_free hn
  exact mem_Us.2 ⟨h.1, h.2.1⟩
theorem Us_length (n : Nat) : (Us n).length = n := by simp [Us]
theorem alone_spec (w : Int) (c : List Int) (s t : Int) (hn : c.length ≤ 35184372088832) :
    Ev (fun k => spec_AloneTicks.f k w c s t) (if Gt w c [⟨s, t⟩] then (lk (Bfs.fin (Gos w c) s) t).getD (-1) else -1) := by
  simp only [spec_AloneTicks.f]
  refine Ev.bnd (goodTrips_both w c [⟨s, t⟩] hn).2 ?_
  by_cases hg : Gt w c [⟨s, t⟩]
  · have hc := hg.1
    have hf := (hg.2.2 0 (Nat.le_refl _) (by simp)).1
    have hfs : Fr c s := hf.1
    have hft : Fr c t := hf.2
    have h256 := hc.n256
    have h0 := hfs.1
    have h1 := hfs.2.1
    rw [if_pos hg]
    refine Ev.pos (by simpa using hg) (Ev.pos (by omega) (Ev.pos (by omega) ?_))
    simp only [Option.bind_some, List.length_replicate, Int.toNat_natCast]
    obtain ⟨g, hr⟩ := Bfs.fin_run (nx := Gos w c) (s := s) (Us c.length) (mem_Us.2 ⟨h0, h1⟩) Gos_in
    have key : Ev (fun k => spec_AloneTicks.l1 k ((List.replicate c.length (-1)).set s.toNat 0) [s] 0 w c s t) ((lk (Bfs.fin (Gos w c) s) t).getD (-1)) := by
      have hop := open_le [(s, (0 : Int))] (Us c.length)
      rw [Us_length] at hop
      refine alone_l1 hc s t hft 1000 (by omega) _ g 0 _ [s] [(s, 0)] (by simp) ?_ (by simp; omega) ?_ ?_ (by simpa using hr)
      · refine ⟨by simp, fun x hx0 hx1 => ?_⟩
        unfold rd
        rw [List.getD_eq_getElem?_getD]
        by_cases e : x = s
        · subst e
          rw [List.getElem?_set_self (by simp; omega)]
          simp [lk]
        · rw [List.getElem?_set_ne (by omega), List.getElem?_replicate, if_pos (by omega)]
          simp [lk, e]
      · intro x e hx
        simp only [lk] at hx
        split at hx
        · cases hx; omega
        · cases hx
      · intro q hq
        rw [List.mem_singleton.1 hq]
        exact hfs
    have := alone_l0 s t w c h0 h1 _ hn key c.length 0 (by omega)
    simpa using this
  · rw [if_neg hg]
    exact Ev.neg (by simpa using hg) (Ev.some rfl)
end Go.Proofs.Ytcldlljnaijmhaa.Pure
-- Written by this session's own print (wip/tools/mkmp.py) out of the translation. Lean checks it.
namespace Go.Proofs.Ytcldlljnaijmhaa.Pr
open Go.RowKit Go.Proofs.YtcldlljnaijmhaaW.PrintWords Go.Proofs.YtcldlljnaijmhaaW.PrintLast Go.Proofs.YtcldlljnaijmhaaW.PrintMore
attribute [local go_sem] max2_int min2_int max_two min_two max_three min_three max_four min_four   -- for this text's walks alone
set_option linter.unusedVariables false
set_option linter.unusedSimpArgs false

set_option maxHeartbeats 8000000 in
set_option maxRecDepth 100000 in
theorem impl_squared.calls (a0 : Int) (a1 : Int) (r : Bool) (w : World) (h : impl_squared.f a0 a1 = some r) :
   Calls Try.prog 68 #[.int .i64 a0, .int .i64 a1] w fun e w' => e = .returned (.bool r) ∧ Drawn0 w w' := by
  have H : (if a0 ≥ 1 then (if a0 ≤ 16 then (if a0 = 0 then (none) else (if (Int.tmod a1 a0) = 0 then (if (wrap64 (Int.tdiv a1 a0)) ≥ 1 then (some (decide ((wrap64 (Int.tdiv a1 a0)) ≤ 16))) else (some false)) else (some false))) else (some false)) else (some false)) = some r := h
  clear h
  by_cases c3 : a0 ≥ 1
  ·rw [if_pos c3] at H
   have c3b0 : decide (1 ≤ a0) = true := decide_eq_true c3
   clear c3
   by_cases c4 : a0 ≤ 16
   ·rw [if_pos c4] at H
    have c4b0 : decide (a0 ≤ 16) = true := decide_eq_true c4
    clear c4
    by_cases c5 : a0 = 0
    ·rw [if_pos c5] at H
     exact absurd H (by simp)
    ·rw [if_neg c5] at H
     have c5b0 : (a0 == 0) = false := beq_eq_false_iff_ne.mpr c5
     have c5b1 : (a0 != 0) = true := bne_iff_ne.mpr c5
     by_cases c6 : (Int.tmod a1 a0) = 0
     ·rw [if_pos c6] at H
      have c6b0 : ((Int.tmod a1 a0) == 0) = true := beq_iff_eq.mpr c6
      have c6b1 : ((Int.tmod a1 a0) != 0) = false := bne_eq_false_iff_eq.mpr c6
      clear c6
      by_cases c7 : (wrap64 (Int.tdiv a1 a0)) ≥ 1
      ·rw [if_pos c7] at H
       have c7b0 : decide (1 ≤ (wrap64 (Int.tdiv a1 a0))) = true := decide_eq_true c7
       clear c7
       obtain rfl := Option.some.inj H
       go_enter Try.func68, Try.ntmps68
       go_wp2
       go_ret
       exact ⟨es_, by repeat (first | exact Drawn0.refl _ | apply Drawn0.step)⟩
      ·rw [if_neg c7] at H
       have c7b0 : decide (1 ≤ (wrap64 (Int.tdiv a1 a0))) = false := decide_eq_false c7
       clear c7
       obtain rfl := Option.some.inj H
       go_enter Try.func68, Try.ntmps68
       go_wp2
       go_ret
       exact ⟨es_, by repeat (first | exact Drawn0.refl _ | apply Drawn0.step)⟩
     ·rw [if_neg c6] at H
      have c6b0 : ((Int.tmod a1 a0) == 0) = false := beq_eq_false_iff_ne.mpr c6
      have c6b1 : ((Int.tmod a1 a0) != 0) = true := bne_iff_ne.mpr c6
      obtain rfl := Option.some.inj H
      go_enter Try.func68, Try.ntmps68
      go_wp2
      go_ret
      exact ⟨es_, by repeat (first | exact Drawn0.refl _ | apply Drawn0.step)⟩
   ·rw [if_neg c4] at H
    have c4b0 : decide (a0 ≤ 16) = false := decide_eq_false c4
    clear c4
    obtain rfl := Option.some.inj H
    go_enter Try.func68, Try.ntmps68
    go_wp2
    go_ret
    exact ⟨es_, by repeat (first | exact Drawn0.refl _ | apply Drawn0.step)⟩
  ·rw [if_neg c3] at H
   have c3b0 : decide (1 ≤ a0) = false := decide_eq_false c3
   clear c3
   obtain rfl := Option.some.inj H
   go_enter Try.func68, Try.ntmps68
   go_wp2
   go_ret
   exact ⟨es_, by repeat (first | exact Drawn0.refl _ | apply Drawn0.step)⟩

set_option maxHeartbeats 8000000 in
set_option maxRecDepth 100000 in
theorem impl_GoodCells.calls (k : Nat) (a0_0 : Int) (A0_1 : Option Addr) (c0_1 : Nat) (l0_1 : List Int) (r : Bool) (w : World) (hr0_1 : Kd.C (Kd.int .i64) w A0_1 l0_1.length l0_1) (hc0_1 : l0_1.length ≤ c0_1) (h : impl_GoodCells.f k a0_0 l0_1 = some r) :
   Calls Try.prog 54 #[.agg #[.int .i64 a0_0, .slice A0_1 l0_1.length c0_1]] w fun e w' => e = .returned (.bool r) ∧ Below w.heap.size w w' := by
  have hu39 := Try.underlying39
  have HR0_1 := Aside0.mk hr0_1
  have HC0_1 := Aside0.mk hc0_1
  clear hr0_1 hc0_1
  have HB := Aside0.mk (Below.refl w.heap.size w)
  have H : ((impl_squared.f a0_0 (l0_1.length : Int)).bind fun t227 => (if t227 = true then (impl_GoodCells.l0 k l0_1 (l0_1.length : Int) 0) else (some false))) = some r := h
  clear h
  replace H := Option.bind_eq_some_iff.mp H
  obtain ⟨t227, A20, H⟩ := H
  replace H : (if t227 = true then (impl_GoodCells.l0 k l0_1 (l0_1.length : Int) 0) else (some false)) = some r := H
  have A2 := Aside0.mk A20
  clear A20
  by_cases c3 : t227 = true
  ·subst c3
   rw [if_pos rfl] at H
   have H' := Aside0.mk H
   clear H
   go_enter Try.func54, Try.ntmps54
   go_wp2_with (first | ((with_reducible refine gate_dst (N := 1) rfl ?_); refine box_event ?hg (N := 1) ?hd (cs := #[.int .i64 a0_0, .slice A0_1 l0_1.length c0_1]) (t := 39) ?hr ?_; (case hd => rfl); (case hg => rfl); (case hr => first | (go_simp; done) | (go_simp; rfl)); intro gb226 hg w4 hbox hb; have n0_ := Aside0.mk (below_step hb_ hb); have n1_ := Aside0.mk (hbox); have n2_ : Aside0 (w.heap.size ≤ gb226) := gz_; have n3_ : Aside0 (w.heap.size ≤ gb226) := gz_; clear HB; have HB := n0_; have BK226 := n1_; have GW226 := n2_; have GE226 := n3_; clear n0_ n1_ n2_ n3_; clear hb hbox hg; have hcz5_0 : w4.cell? ⟨gb226, 0, none⟩ = some (.int .i64 a0_0) := (blk_cell BK226.out 0).trans rfl; have hcz5_1 : w4.cell? ⟨gb226, 1, none⟩ = some (.slice A0_1 l0_1.length c0_1) := (blk_cell BK226.out 1).trans rfl; have hfz5_0 := blk_frozen BK226.out 0; have hfz5_1 := blk_frozen BK226.out 1) | ((with_reducible refine gate_callee (f := 68) rfl ?_); refine goesL_ (some 10) rfl rfl Try.func68 (by kernel_rfl) rfl #[.int .i64 a0_0, .int .i64 (l0_1.length : Int)] rfl ls_ ?_; (with_reducible refine (impl_squared.calls a0_0 (l0_1.length : Int) true _ A2.out).mono ?_); rintro e w' ⟨rfl, ⟨nd, rfl⟩⟩; refine ⟨_, rfl, ?_⟩))
   go_loopg [15] k (fun kq v15 w' => ∃ (x15_1 : Int), v15 = .int .i64 x15_1 ∧ Aside0 (impl_GoodCells.l0 kq l0_1 (l0_1.length : Int) x15_1 = some r) ∧ Aside0 (kq ≤ k) ∧ Aside0 (w'.heap[gb226]? = some (.cells #[.int .i64 a0_0, (.slice A0_1 l0_1.length c0_1)] 39 (0, 0))) ∧ Aside0 (Below w.heap.size w w'))
   case atStart => exact ⟨(0), es_, H', ⟨Nat.le_refl _⟩, ⟨bk_ BK226.out⟩, ⟨hb_⟩⟩
   case round =>
    clear H'
    try clear p2
    try clear c3
    try clear c5
    try clear hcz5_0
    try clear hcz5_1
    try clear hfz5_0
    try clear hfz5_1
    obtain ⟨x15_1, rfl, HA, HK1, BK226, HB⟩ := hrel
    cases gk with
    | zero => exact absurd HA.out (by simp [impl_GoodCells.l0])
    | succ k1 =>
     have H := HA.out
     clear HA
     simp only [impl_GoodCells.l0] at H
     by_cases c6 : x15_1 < (l0_1.length : Int)
     ·rw [if_pos c6] at H
      have c6b0 : decide (x15_1 < (l0_1.length : Int)) = true := decide_eq_true c6
      clear c6
      by_cases c7 : 0 ≤ x15_1
      ·rw [if_pos c7] at H
       have c7b0 : decide (0 ≤ x15_1) = true := decide_eq_true c7
       clear c7
       by_cases c8 : x15_1 < (l0_1.length : Int)
       ·rw [if_pos c8] at H
        have c8b0 : decide (x15_1 < (l0_1.length : Int)) = true := decide_eq_true c8
        clear c8
        by_cases c9 : (rd l0_1 x15_1) < 0
        ·rw [if_pos c9] at H
         have c9b0 : decide ((rd l0_1 x15_1) < 0) = true := decide_eq_true c9
         clear c9
         obtain rfl := Option.some.inj H
         have p228 : 0 ≤ (x15_1 : Int) := of_decide_eq_true as_
         have q228 : x15_1 < (l0_1.length : Int) := of_decide_eq_true as_
         obtain ⟨ad228, e228, hx228_0⟩ := Kd.at_int HR0_1.out x15_1 p228 q228
         cases e228
         replace hx228_0 := hc_ HB hx228_0
         replace p228 := eq_true p228
         replace q228 := eq_true q228
         go_wp2
         go_ret
         exact ⟨er_, hb_⟩
        ·rw [if_neg c9] at H
         have c9b0 : decide ((rd l0_1 x15_1) < 0) = false := decide_eq_false c9
         clear c9
         by_cases c10 : (rd l0_1 x15_1) > 2
         ·rw [if_pos c10] at H
          have c10b0 : decide (2 < (rd l0_1 x15_1)) = true := decide_eq_true c10
          clear c10
          obtain rfl := Option.some.inj H
          have p228 : 0 ≤ (x15_1 : Int) := of_decide_eq_true as_
          have q228 : x15_1 < (l0_1.length : Int) := of_decide_eq_true as_
          obtain ⟨ad228, e228, hx228_0⟩ := Kd.at_int HR0_1.out x15_1 p228 q228
          cases e228
          replace hx228_0 := hc_ HB hx228_0
          replace p228 := eq_true p228
          replace q228 := eq_true q228
          go_wp2
          go_ret
          exact ⟨er_, hb_⟩
         ·rw [if_neg c10] at H
          have c10b0 : decide (2 < (rd l0_1 x15_1)) = false := decide_eq_false c10
          clear c10
          have H' := Aside0.mk H
          clear H
          have p228 : 0 ≤ (x15_1 : Int) := of_decide_eq_true as_
          have q228 : x15_1 < (l0_1.length : Int) := of_decide_eq_true as_
          obtain ⟨ad228, e228, hx228_0⟩ := Kd.at_int HR0_1.out x15_1 p228 q228
          cases e228
          replace hx228_0 := hc_ HB hx228_0
          replace p228 := eq_true p228
          replace q228 := eq_true q228
          go_wp2
          go_roundg k1
          case measure => have := HK1.out; omega
          case rel => exact ⟨(wrap64 (x15_1 + 1)), es_, H', ⟨by have := HK1.out; omega⟩, ⟨bk_ BK226.out⟩, ⟨hb_⟩⟩
       ·rw [if_neg c8] at H
        exact absurd H (by simp)
      ·rw [if_neg c7] at H
       exact absurd H (by simp)
     ·rw [if_neg c6] at H
      have c6b0 : decide (x15_1 < (l0_1.length : Int)) = false := decide_eq_false c6
      clear c6
      obtain rfl := Option.some.inj H
      go_wp2
      go_ret
      exact ⟨er_, hb_⟩
  ·replace c3 := Bool.eq_false_iff.mpr c3
   subst c3
   rw [if_neg (show ¬ (false = true) by decide)] at H
   obtain rfl := Option.some.inj H
   go_enter Try.func54, Try.ntmps54
   go_wp2_with (first | ((with_reducible refine gate_dst (N := 1) rfl ?_); refine box_event ?hg (N := 1) ?hd (cs := #[.int .i64 a0_0, .slice A0_1 l0_1.length c0_1]) (t := 39) ?hr ?_; (case hd => rfl); (case hg => rfl); (case hr => first | (go_simp; done) | (go_simp; rfl)); intro gb226 hg w11 hbox hb; have n0_ := Aside0.mk (below_step hb_ hb); have n1_ := Aside0.mk (hbox); have n2_ : Aside0 (w.heap.size ≤ gb226) := gz_; have n3_ : Aside0 (w.heap.size ≤ gb226) := gz_; clear HB; have HB := n0_; have BK226 := n1_; have GW226 := n2_; have GE226 := n3_; clear n0_ n1_ n2_ n3_; clear hb hbox hg; have hcz12_0 : w11.cell? ⟨gb226, 0, none⟩ = some (.int .i64 a0_0) := (blk_cell BK226.out 0).trans rfl; have hcz12_1 : w11.cell? ⟨gb226, 1, none⟩ = some (.slice A0_1 l0_1.length c0_1) := (blk_cell BK226.out 1).trans rfl; have hfz12_0 := blk_frozen BK226.out 0; have hfz12_1 := blk_frozen BK226.out 1) | ((with_reducible refine gate_callee (f := 68) rfl ?_); refine goesL_ (some 10) rfl rfl Try.func68 (by kernel_rfl) rfl #[.int .i64 a0_0, .int .i64 (l0_1.length : Int)] rfl ls_ ?_; (with_reducible refine (impl_squared.calls a0_0 (l0_1.length : Int) false _ A2.out).mono ?_); rintro e w' ⟨rfl, ⟨nd, rfl⟩⟩; refine ⟨_, rfl, ?_⟩))
   go_ret
   exact ⟨er_, hb_⟩

set_option maxHeartbeats 8000000 in
set_option maxRecDepth 100000 in
theorem impl_Cells_free.calls (a0_0 : Int) (A0_1 : Option Addr) (c0_1 : Nat) (l0_1 : List Int) (a1 : Int) (r : Bool) (w : World) (hr0_1 : Kd.C (Kd.int .i64) w A0_1 l0_1.length l0_1) (hc0_1 : l0_1.length ≤ c0_1) (h : impl_Cells_free.f a0_0 l0_1 a1 = some r) :
   Calls Try.prog 55 #[.agg #[.int .i64 a0_0, .slice A0_1 l0_1.length c0_1], .int .i64 a1] w fun e w' => e = .returned (.bool r) ∧ Below w.heap.size w w' := by
  have hu39 := Try.underlying39
  have HR0_1 := Aside0.mk hr0_1
  have HC0_1 := Aside0.mk hc0_1
  clear hr0_1 hc0_1
  have HB := Aside0.mk (Below.refl w.heap.size w)
  have H : (if a1 ≥ 0 then (if a1 < (l0_1.length : Int) then (if 0 ≤ a1 then (some ((rd l0_1 a1) == 0)) else (none)) else (some false)) else (some false)) = some r := h
  clear h
  by_cases c3 : a1 ≥ 0
  ·rw [if_pos c3] at H
   have c3b0 : decide (0 ≤ a1) = true := decide_eq_true c3
   clear c3
   by_cases c4 : a1 < (l0_1.length : Int)
   ·rw [if_pos c4] at H
    have c4b0 : decide (a1 < (l0_1.length : Int)) = true := decide_eq_true c4
    clear c4
    by_cases c5 : 0 ≤ a1
    ·rw [if_pos c5] at H
     have c5b0 : decide (0 ≤ a1) = true := decide_eq_true c5
     clear c5
     obtain rfl := Option.some.inj H
     go_enter Try.func55, Try.ntmps55
     go_wp2_with (first | ((with_reducible refine gate_dst (N := 2) rfl ?_); (try (refine gate_guard (by rfl) ?_; dsimp only)); refine box_event ?hg (N := 2) ?hd (cs := #[.int .i64 a0_0, .slice A0_1 l0_1.length c0_1]) (t := 39) ?hr ?_; (case hd => rfl); (case hg => rfl); (case hr => first | (go_simp; done) | (go_simp; rfl)); intro gb229 hg w6 hbox hb; have n0_ := Aside0.mk (below_step hb_ hb); have n1_ := Aside0.mk (hbox); have n2_ : Aside0 (w.heap.size ≤ gb229) := gz_; have n3_ : Aside0 (w.heap.size ≤ gb229) := gz_; clear HB; have HB := n0_; have BK229 := n1_; have GW229 := n2_; have GE229 := n3_; clear n0_ n1_ n2_ n3_; clear hb hbox hg; have hcz7_0 : w6.cell? ⟨gb229, 0, none⟩ = some (.int .i64 a0_0) := (blk_cell BK229.out 0).trans rfl; have hcz7_1 : w6.cell? ⟨gb229, 1, none⟩ = some (.slice A0_1 l0_1.length c0_1) := (blk_cell BK229.out 1).trans rfl; have hfz7_0 := blk_frozen BK229.out 0; have hfz7_1 := blk_frozen BK229.out 1; have p230 : 0 ≤ (a1 : Int) := of_decide_eq_true as_; have q230 : a1 < (l0_1.length : Int) := of_decide_eq_true as_; obtain ⟨ad230, e230, hx230_0⟩ := Kd.at_int HR0_1.out a1 p230 q230; cases e230; replace hx230_0 := hc_ HB hx230_0; replace p230 := eq_true p230; replace q230 := eq_true q230))
     go_ret
     exact ⟨er_, hb_⟩
    ·rw [if_neg c5] at H
     exact absurd H (by simp)
   ·rw [if_neg c4] at H
    have c4b0 : decide (a1 < (l0_1.length : Int)) = false := decide_eq_false c4
    clear c4
    obtain rfl := Option.some.inj H
    go_enter Try.func55, Try.ntmps55
    go_wp2_with (first | ((with_reducible refine gate_dst (N := 2) rfl ?_); (try (refine gate_guard (by rfl) ?_; dsimp only)); refine box_event ?hg (N := 2) ?hd (cs := #[.int .i64 a0_0, .slice A0_1 l0_1.length c0_1]) (t := 39) ?hr ?_; (case hd => rfl); (case hg => rfl); (case hr => first | (go_simp; done) | (go_simp; rfl)); intro gb229 hg w8 hbox hb; have n0_ := Aside0.mk (below_step hb_ hb); have n1_ := Aside0.mk (hbox); have n2_ : Aside0 (w.heap.size ≤ gb229) := gz_; have n3_ : Aside0 (w.heap.size ≤ gb229) := gz_; clear HB; have HB := n0_; have BK229 := n1_; have GW229 := n2_; have GE229 := n3_; clear n0_ n1_ n2_ n3_; clear hb hbox hg; have hcz9_0 : w8.cell? ⟨gb229, 0, none⟩ = some (.int .i64 a0_0) := (blk_cell BK229.out 0).trans rfl; have hcz9_1 : w8.cell? ⟨gb229, 1, none⟩ = some (.slice A0_1 l0_1.length c0_1) := (blk_cell BK229.out 1).trans rfl; have hfz9_0 := blk_frozen BK229.out 0; have hfz9_1 := blk_frozen BK229.out 1))
    go_ret
    exact ⟨er_, hb_⟩
  ·rw [if_neg c3] at H
   have c3b0 : decide (0 ≤ a1) = false := decide_eq_false c3
   clear c3
   obtain rfl := Option.some.inj H
   go_enter Try.func55, Try.ntmps55
   go_wp2_with (first | ((with_reducible refine gate_dst (N := 2) rfl ?_); (try (refine gate_guard (by rfl) ?_; dsimp only)); refine box_event ?hg (N := 2) ?hd (cs := #[.int .i64 a0_0, .slice A0_1 l0_1.length c0_1]) (t := 39) ?hr ?_; (case hd => rfl); (case hg => rfl); (case hr => first | (go_simp; done) | (go_simp; rfl)); intro gb229 hg w10 hbox hb; have n0_ := Aside0.mk (below_step hb_ hb); have n1_ := Aside0.mk (hbox); have n2_ : Aside0 (w.heap.size ≤ gb229) := gz_; have n3_ : Aside0 (w.heap.size ≤ gb229) := gz_; clear HB; have HB := n0_; have BK229 := n1_; have GW229 := n2_; have GE229 := n3_; clear n0_ n1_ n2_ n3_; clear hb hbox hg))
   go_ret
   exact ⟨er_, hb_⟩

end Go.Proofs.Ytcldlljnaijmhaa.Pr
-- Written by this session's own print (wip/tools/mkmp.py) out of the translation. Lean checks it.
namespace Go.Proofs.Ytcldlljnaijmhaa.Pr
open Go.RowKit Go.Proofs.YtcldlljnaijmhaaW.PrintWords Go.Proofs.YtcldlljnaijmhaaW.PrintLast Go.Proofs.YtcldlljnaijmhaaW.PrintMore
attribute [local go_sem] max2_int min2_int max_two min_two max_three min_three max_four min_four   -- for this text's walks alone
set_option linter.unusedVariables false
set_option linter.unusedSimpArgs false

set_option maxHeartbeats 8000000 in
set_option maxRecDepth 100000 in
theorem impl_GoodTrips.calls (k : Nat) (a0_0 : Int) (A0_1 : Option Addr) (c0_1 : Nat) (l0_1 : List Int) (A1 : Option Addr) (c1 : Nat) (l1 : List (S49)) (r : Bool) (w : World) (hr0_1 : Kd.C (Kd.int .i64) w A0_1 l0_1.length l0_1) (hc0_1 : l0_1.length ≤ c0_1) (hr1 : Kd.C k49 w A1 l1.length l1) (hc1 : l1.length ≤ c1) (h : impl_GoodTrips.f k a0_0 l0_1 l1 = some r) :
   Calls Try.prog 28 #[.agg #[.int .i64 a0_0, .slice A0_1 l0_1.length c0_1], .slice A1 l1.length c1] w fun e w' => e = .returned (.bool r) ∧ Below w.heap.size w w' := by
  have hu39 := Try.underlying39
  have hu49 := Try.underlying49
  have HR0_1 := Aside0.mk hr0_1
  have HC0_1 := Aside0.mk hc0_1
  clear hr0_1 hc0_1
  have HR1 := Aside0.mk hr1
  have HC1 := Aside0.mk hc1
  clear hr1 hc1
  have HB := Aside0.mk (Below.refl w.heap.size w)
  have H : ((impl_GoodCells.f k a0_0 l0_1).bind fun t232 => (if t232 = true then (impl_GoodTrips.j0 k l1 (decide ((l1.length : Int) > 5)) a0_0 l0_1) else (impl_GoodTrips.j0 k l1 true a0_0 l0_1))) = some r := h
  clear h
  have HC3 := Aside0.mk H
  clear H
  go_enter Try.func28, Try.ntmps28
  go_upto_region 1 with (first | ((with_reducible refine gate_dst (N := 2) rfl ?_); (try (refine gate_guard (by rfl) ?_; dsimp only)); refine box_event ?hg (N := 2) ?hd (cs := #[.int .i64 a0_0, .slice A0_1 l0_1.length c0_1]) (t := 39) ?hr ?_; (case hd => rfl); (case hg => rfl); (case hr => first | (go_simp; done) | (go_simp; rfl)); intro gb231 hg w4 hbox hb; have n0_ := Aside0.mk (below_step hb_ hb); have n1_ := Aside0.mk (hbox); have n2_ : Aside0 (w.heap.size ≤ gb231) := gz_; have n3_ : Aside0 (w.heap.size ≤ gb231) := gz_; clear HB; have HB := n0_; have BK231 := n1_; have GW231 := n2_; have GE231 := n3_; clear n0_ n1_ n2_ n3_; clear hb hbox hg))
  (try simp only [Act.put, List.setIfInBounds_toArray, List.set_cons_zero, List.set_cons_succ])
  go_cut [16] (fun v16 wc => ∃ (kq : Nat) (x16_2 : Bool), v16 = .bool x16_2 ∧ Aside0 (impl_GoodTrips.j0 kq l1 x16_2 a0_0 l0_1 = some r) ∧ Aside0 (kq ≤ k) ∧ Aside0 (wc.heap[gb231]? = some (.cells #[.int .i64 a0_0, (.slice A0_1 l0_1.length c0_1)] 39 (0, 0))) ∧ Aside0 (Below w.heap.size w wc))
  case first =>
   have H := HC3.out
   clear HC3
   replace H := Option.bind_eq_some_iff.mp H
   obtain ⟨t232, A50, H⟩ := H
   replace H : (if t232 = true then (impl_GoodTrips.j0 k l1 (decide ((l1.length : Int) > 5)) a0_0 l0_1) else (impl_GoodTrips.j0 k l1 true a0_0 l0_1)) = some r := H
   have A5 := Aside0.mk A50
   clear A50
   by_cases c6 : t232 = true
   ·subst c6
    rw [if_pos rfl] at H
    have H' := Aside0.mk H
    clear H
    have hcz7_0 : w4.cell? ⟨gb231, 0, none⟩ = some (.int .i64 a0_0) := (blk_cell BK231.out 0).trans rfl
    have hcz7_1 : w4.cell? ⟨gb231, 1, none⟩ = some (.slice A0_1 l0_1.length c0_1) := (blk_cell BK231.out 1).trans rfl
    have hfz7_0 := blk_frozen BK231.out 0
    have hfz7_1 := blk_frozen BK231.out 1
    go_wp2_with (first | ((with_reducible refine gate_callee (f := 54) rfl ?_); refine goesL_ (some 10) rfl rfl Try.func54 (by kernel_rfl) rfl #[.agg #[.int .i64 a0_0, .slice A0_1 l0_1.length c0_1]] rfl ls_ ?_; (with_reducible refine (impl_GoodCells.calls k a0_0 _ _ l0_1 true _ ?side1 ?side2 A5.out).mono ?_); (case side1 => exact cb_ HR0_1.out); (case side2 => exact HC0_1.out); rintro e w8 ⟨rfl, hb⟩; refine ⟨_, rfl, ?_⟩; have n0_ := bb_ BK231 hb; have n1_ := Aside0.mk (below_step hb_ hb); clear BK231; clear HB; have BK231 := n0_; have HB := n1_; clear n0_ n1_; (try clear hb); (try clear hb2); (try clear hk); (try clear hi)))
    go_meet
    case rel => exact ⟨_, (decide ((l1.length : Int) > 5)), es_, H', ⟨by first | omega | exact Nat.le_refl _⟩, ⟨bk_ BK231.out⟩, ⟨hb_⟩⟩
   ·replace c6 := Bool.eq_false_iff.mpr c6
    subst c6
    rw [if_neg (show ¬ (false = true) by decide)] at H
    have H' := Aside0.mk H
    clear H
    have hcz9_0 : w4.cell? ⟨gb231, 0, none⟩ = some (.int .i64 a0_0) := (blk_cell BK231.out 0).trans rfl
    have hcz9_1 : w4.cell? ⟨gb231, 1, none⟩ = some (.slice A0_1 l0_1.length c0_1) := (blk_cell BK231.out 1).trans rfl
    have hfz9_0 := blk_frozen BK231.out 0
    have hfz9_1 := blk_frozen BK231.out 1
    go_wp2_with (first | ((with_reducible refine gate_callee (f := 54) rfl ?_); refine goesL_ (some 10) rfl rfl Try.func54 (by kernel_rfl) rfl #[.agg #[.int .i64 a0_0, .slice A0_1 l0_1.length c0_1]] rfl ls_ ?_; (with_reducible refine (impl_GoodCells.calls k a0_0 _ _ l0_1 false _ ?side1 ?side2 A5.out).mono ?_); (case side1 => exact cb_ HR0_1.out); (case side2 => exact HC0_1.out); rintro e w10 ⟨rfl, hb⟩; refine ⟨_, rfl, ?_⟩; have n0_ := bb_ BK231 hb; have n1_ := Aside0.mk (below_step hb_ hb); clear BK231; clear HB; have BK231 := n0_; have HB := n1_; clear n0_ n1_; (try clear hb); (try clear hb2); (try clear hk); (try clear hi)))
    go_meet
    case rel => exact ⟨_, (true), es_, H', ⟨by first | omega | exact Nat.le_refl _⟩, ⟨bk_ BK231.out⟩, ⟨hb_⟩⟩
  case rest =>
   clear HC3
   try clear c1
   try clear c2
   try clear p2
   try clear c5
   try clear c6
   try clear hcz7_0
   try clear hcz7_1
   try clear hcz9_0
   try clear hcz9_1
   try clear hfz7_0
   try clear hfz7_1
   try clear hfz9_0
   try clear hfz9_1
   obtain ⟨kq, x16_2, rfl, HA, HJ2, BK231, HB⟩ := hcut
   cases kq with
   | zero => exact absurd HA.out (by simp [impl_GoodTrips.j0])
   | succ kj2 =>
    have H := HA.out
    clear HA
    simp only [impl_GoodTrips.j0] at H
    by_cases c11 : x16_2 = true
    ·subst c11
     rw [if_pos rfl] at H
     obtain rfl := Option.some.inj H
     go_wp2
     go_ret
     exact ⟨er_, hb_⟩
    ·replace c11 := Bool.eq_false_iff.mpr c11
     subst c11
     rw [if_neg (show ¬ (false = true) by decide)] at H
     have H' := Aside0.mk H
     clear H
     go_wp2
     go_loopg [19] kj2 (fun kq v19 w' => ∃ (x19_2 : Int), v19 = .int .i64 x19_2 ∧ Aside0 (impl_GoodTrips.l0 kq l1 l1 (l1.length : Int) x19_2 a0_0 l0_1 = some r) ∧ Aside0 (kq ≤ kj2) ∧ Aside0 (w'.heap[gb231]? = some (.cells #[.int .i64 a0_0, (.slice A0_1 l0_1.length c0_1)] 39 (0, 0))) ∧ Aside0 (Below w.heap.size w w'))
     case atStart => exact ⟨(0), es_, H', ⟨Nat.le_refl _⟩, ⟨bk_ BK231.out⟩, ⟨hb_⟩⟩
     case round =>
      clear H'
      try clear c1
      try clear c2
      try clear p2
      try clear c5
      try clear c6
      try clear c11
      try clear hcz7_0
      try clear hcz7_1
      try clear hcz9_0
      try clear hcz9_1
      try clear hfz7_0
      try clear hfz7_1
      try clear hfz9_0
      try clear hfz9_1
      try clear p2
      obtain ⟨x19_2, rfl, HA, HK2, BK231, HB⟩ := hrel
      cases gk with
      | zero => exact absurd HA.out (by simp [impl_GoodTrips.l0])
      | succ k2 =>
       have H := HA.out
       clear HA
       simp only [impl_GoodTrips.l0] at H
       by_cases c12 : x19_2 < (l1.length : Int)
       ·rw [if_pos c12] at H
        have c12b0 : decide (x19_2 < (l1.length : Int)) = true := decide_eq_true c12
        clear c12
        by_cases c13 : 0 ≤ x19_2
        ·rw [if_pos c13] at H
         have c13b0 : decide (0 ≤ x19_2) = true := decide_eq_true c13
         clear c13
         by_cases c14 : x19_2 < (l1.length : Int)
         ·rw [if_pos c14] at H
          have c14b0 : decide (x19_2 < (l1.length : Int)) = true := decide_eq_true c14
          clear c14
          have HC15 := Aside0.mk H
          clear H
          have p233 : 0 ≤ (x19_2 : Int) := of_decide_eq_true as_
          have q233 : x19_2 < (l1.length : Int) := of_decide_eq_true as_
          obtain ⟨ad233, e233, hx233_0, hx233_1⟩ := at_T49 HR1.out x19_2 p233 q233
          cases e233
          replace hx233_0 := hc_ HB hx233_0
          replace hx233_1 := hc_ HB hx233_1
          replace p233 := eq_true p233
          replace q233 := eq_true q233
          go_upto_region 6 with (first | ((with_reducible refine gate_dst (N := 6) rfl ?_); (try (refine gate_guard (by rfl) ?_; dsimp only)); refine box_event ?hg (N := 6) ?hd (cs := #[.int .i64 0, .int .i64 0]) (t := 49) ?hr ?_; (case hd => rfl); (case hg => rfl); (case hr => first | (go_simp; done) | (go_simp; rfl)); intro gb234 hg w16 hbox hb; have n0_ := bb_ BK231 hb; have n1_ := Aside0.mk (below_step hb_ hb); have n2_ := Aside0.mk (hbox); have n3_ : Aside0 (w.heap.size ≤ gb234) := gz_; have n4_ : Aside0 (w.heap.size ≤ gb234) := gz_; have n5_ := Aside0.mk ((by rw [hg]; exact Nat.ne_of_lt (blk_lt (g := gb231) (o := .cells #[.int .i64 a0_0, .slice A0_1 l0_1.length c0_1] 39 (0, 0)) (bk_ BK231.out)) : gb231 ≠ gb234)); have n6_ := Aside0.mk ((by rw [hg]; exact Nat.ne_of_gt (blk_lt (g := gb231) (o := .cells #[.int .i64 a0_0, .slice A0_1 l0_1.length c0_1] 39 (0, 0)) (bk_ BK231.out)) : gb234 ≠ gb231)); clear BK231; clear HB; have BK231 := n0_; have HB := n1_; have BK234 := n2_; have GW234 := n3_; have GE234 := n4_; have NB231_234 := n5_; have NB234_231 := n6_; clear n0_ n1_ n2_ n3_ n4_ n5_ n6_; clear hb hbox hg; have hnb17 := NB234_231.out; have hnc17 := NB231_234.out; have hcz18_0 : w16.cell? ⟨gb234, 0, none⟩ = some (.int .i64 0) := (blk_cell BK234.out 0).trans rfl; have hcz18_1 : w16.cell? ⟨gb234, 1, none⟩ = some (.int .i64 0) := (blk_cell BK234.out 1).trans rfl; have hfz18_0 := blk_frozen BK234.out 0; have hfz18_1 := blk_frozen BK234.out 1))
          (try simp only [Act.put, List.setIfInBounds_toArray, List.set_cons_zero, List.set_cons_succ])
          go_cut [35] (fun v35 wc => ∃ (kq : Nat) (x35_14 : Bool), v35 = .bool x35_14 ∧ Aside0 (impl_GoodTrips.j2 kq l1 x19_2 l1 (l1.length : Int) x19_2 x35_14 a0_0 l0_1 ((rd_T49 l1 x19_2).f0) ((rd_T49 l1 x19_2).f1) = some r) ∧ Aside0 (kq ≤ k2) ∧ Aside0 (wc.heap[gb231]? = some (.cells #[.int .i64 a0_0, (.slice A0_1 l0_1.length c0_1)] 39 (0, 0))) ∧ Aside0 (wc.heap[gb234]? = some (.cells #[.int .i64 ((rd_T49 l1 x19_2).f0), .int .i64 ((rd_T49 l1 x19_2).f1)] 49 (0, 0))) ∧ Aside0 (Below w.heap.size w wc))
          case first =>
           have H := HC15.out
           clear HC15
           replace H := Option.bind_eq_some_iff.mp H
           obtain ⟨t235, A190, H⟩ := H
           replace H : (if t235 = true then ((impl_Cells_free.f a0_0 l0_1 ((rd_T49 l1 x19_2).f1)).bind fun t236 => (impl_GoodTrips.j2 k2 l1 x19_2 l1 (l1.length : Int) x19_2 (!t236) a0_0 l0_1 ((rd_T49 l1 x19_2).f0) ((rd_T49 l1 x19_2).f1))) else (impl_GoodTrips.j2 k2 l1 x19_2 l1 (l1.length : Int) x19_2 true a0_0 l0_1 ((rd_T49 l1 x19_2).f0) ((rd_T49 l1 x19_2).f1))) = some r := H
           have A19 := Aside0.mk A190
           clear A190
           by_cases c20 : t235 = true
           ·subst c20
            rw [if_pos rfl] at H
            replace H := Option.bind_eq_some_iff.mp H
            obtain ⟨t236, A210, H⟩ := H
            replace H : (impl_GoodTrips.j2 k2 l1 x19_2 l1 (l1.length : Int) x19_2 (!t236) a0_0 l0_1 ((rd_T49 l1 x19_2).f0) ((rd_T49 l1 x19_2).f1)) = some r := H
            have A21 := Aside0.mk A210
            clear A210
            have H' := Aside0.mk H
            clear H
            have hnb22 := NB231_234.out
            have hnc22 := NB234_231.out
            have hcz23_0 : w16.cell? ⟨gb231, 0, none⟩ = some (.int .i64 a0_0) := (blk_cell BK231.out 0).trans rfl
            have hcz23_1 : w16.cell? ⟨gb231, 1, none⟩ = some (.slice A0_1 l0_1.length c0_1) := (blk_cell BK231.out 1).trans rfl
            have hfz23_0 := blk_frozen BK231.out 0
            have hfz23_1 := blk_frozen BK231.out 1
            have hcz24_0 : w16.cell? ⟨gb234, 0, none⟩ = some (.int .i64 0) := (blk_cell BK234.out 0).trans rfl
            have hcz24_1 : w16.cell? ⟨gb234, 1, none⟩ = some (.int .i64 0) := (blk_cell BK234.out 1).trans rfl
            have hfz24_0 := blk_frozen BK234.out 0
            have hfz24_1 := blk_frozen BK234.out 1
            go_wp2_with (first | ((with_reducible refine gate_callee (f := 55) rfl ?_); refine goesL_ (some 27) rfl rfl Try.func55 (by kernel_rfl) rfl #[.agg #[.int .i64 a0_0, .slice A0_1 l0_1.length c0_1], .int .i64 ((rd_T49 l1 x19_2).f0)] rfl ls_ ?_; (with_reducible refine (impl_Cells_free.calls a0_0 _ _ l0_1 ((rd_T49 l1 x19_2).f0) true _ ?side1 ?side2 A19.out).mono ?_); (case side1 => exact Kd.C_below HR0_1.out hb_); (case side2 => exact HC0_1.out); rintro e w25 ⟨rfl, hb⟩; refine ⟨_, rfl, ?_⟩; have n0_ := Aside0.mk (blk_below (g := gb231) (o := .cells #[.int .i64 a0_0, .slice A0_1 l0_1.length c0_1] 39 (0, 0)) (by (with_reducible repeat (first | refine blk_drewN ?_ _ | refine blk_drew ?_ | refine blk_alloc ?_ _)); refine blk_far ?_ NB231_234.out _; (with_reducible repeat (first | refine blk_drewN ?_ _ | refine blk_drew ?_ | refine blk_alloc ?_ _)); refine blk_far ?_ NB231_234.out _; (with_reducible repeat (first | refine blk_drewN ?_ _ | refine blk_drew ?_ | refine blk_alloc ?_ _)); exact BK231.out) hb); have n1_ := Aside0.mk (blk_below (g := gb234) (o := .cells #[.int .i64 ((rd_T49 l1 x19_2).f0), .int .i64 ((rd_T49 l1 x19_2).f1)] 49 (0, 0)) (by (with_reducible repeat (first | refine blk_drewN ?_ _ | refine blk_drew ?_ | refine blk_alloc ?_ _)); refine blk_put (cs := #[.int .i64 ((rd_T49 l1 x19_2).f0), .int .i64 0]) ?_ 1 _ rfl; (with_reducible repeat (first | refine blk_drewN ?_ _ | refine blk_drew ?_ | refine blk_alloc ?_ _)); refine blk_put (cs := #[.int .i64 0, .int .i64 0]) ?_ 0 _ rfl; (with_reducible repeat (first | refine blk_drewN ?_ _ | refine blk_drew ?_ | refine blk_alloc ?_ _)); exact BK234.out) hb); have n2_ := Aside0.mk (below_step hb_ hb); clear BK231; clear BK234; clear HB; have BK231 := n0_; have BK234 := n1_; have HB := n2_; clear n0_ n1_ n2_; (try clear hb); (try clear hb2); (try clear hk); (try clear hi); have hcz26_0 : w25.cell? ⟨gb231, 0, none⟩ = some (.int .i64 a0_0) := (blk_cell BK231.out 0).trans rfl; have hcz26_1 : w25.cell? ⟨gb231, 1, none⟩ = some (.slice A0_1 l0_1.length c0_1) := (blk_cell BK231.out 1).trans rfl; have hfz26_0 := blk_frozen BK231.out 0; have hfz26_1 := blk_frozen BK231.out 1; have hcz27_0 : w25.cell? ⟨gb234, 0, none⟩ = some (.int .i64 ((rd_T49 l1 x19_2).f0)) := (blk_cell BK234.out 0).trans rfl; have hcz27_1 : w25.cell? ⟨gb234, 1, none⟩ = some (.int .i64 ((rd_T49 l1 x19_2).f1)) := (blk_cell BK234.out 1).trans rfl; have hfz27_0 := blk_frozen BK234.out 0; have hfz27_1 := blk_frozen BK234.out 1) | (go_at_call 55; (with_reducible refine (impl_Cells_free.calls a0_0 _ _ l0_1 ((rd_T49 l1 x19_2).f1) t236 _ ?side1 ?side2 A21.out).mono ?_); (case side1 => exact cb_ HR0_1.out); (case side2 => exact HC0_1.out); rintro e w28 ⟨rfl, hb⟩; have n0_ := bb_ BK231 hb; have n1_ := bb_ BK234 hb; have n2_ := Aside0.mk (below_step hb_ hb); clear BK231; clear BK234; clear HB; have BK231 := n0_; have BK234 := n1_; have HB := n2_; clear n0_ n1_ n2_; (try clear hb); (try clear hb2); (try clear hk); (try clear hi)))
            go_meet
            case rel => exact ⟨_, (!t236), es_, H', ⟨by have := HJ2.out; have := HK2.out; first | omega | exact Nat.le_refl _⟩, ⟨bk_ BK231.out⟩, ⟨bk_ BK234.out⟩, ⟨hb_⟩⟩
           ·replace c20 := Bool.eq_false_iff.mpr c20
            subst c20
            rw [if_neg (show ¬ (false = true) by decide)] at H
            have H' := Aside0.mk H
            clear H
            have hnb29 := NB231_234.out
            have hnc29 := NB234_231.out
            have hcz30_0 : w16.cell? ⟨gb231, 0, none⟩ = some (.int .i64 a0_0) := (blk_cell BK231.out 0).trans rfl
            have hcz30_1 : w16.cell? ⟨gb231, 1, none⟩ = some (.slice A0_1 l0_1.length c0_1) := (blk_cell BK231.out 1).trans rfl
            have hfz30_0 := blk_frozen BK231.out 0
            have hfz30_1 := blk_frozen BK231.out 1
            have hcz31_0 : w16.cell? ⟨gb234, 0, none⟩ = some (.int .i64 0) := (blk_cell BK234.out 0).trans rfl
            have hcz31_1 : w16.cell? ⟨gb234, 1, none⟩ = some (.int .i64 0) := (blk_cell BK234.out 1).trans rfl
            have hfz31_0 := blk_frozen BK234.out 0
            have hfz31_1 := blk_frozen BK234.out 1
            go_wp2_with (first | ((with_reducible refine gate_callee (f := 55) rfl ?_); refine goesL_ (some 27) rfl rfl Try.func55 (by kernel_rfl) rfl #[.agg #[.int .i64 a0_0, .slice A0_1 l0_1.length c0_1], .int .i64 ((rd_T49 l1 x19_2).f0)] rfl ls_ ?_; (with_reducible refine (impl_Cells_free.calls a0_0 _ _ l0_1 ((rd_T49 l1 x19_2).f0) false _ ?side1 ?side2 A19.out).mono ?_); (case side1 => exact Kd.C_below HR0_1.out hb_); (case side2 => exact HC0_1.out); rintro e w32 ⟨rfl, hb⟩; refine ⟨_, rfl, ?_⟩; have n0_ := Aside0.mk (blk_below (g := gb231) (o := .cells #[.int .i64 a0_0, .slice A0_1 l0_1.length c0_1] 39 (0, 0)) (by (with_reducible repeat (first | refine blk_drewN ?_ _ | refine blk_drew ?_ | refine blk_alloc ?_ _)); refine blk_far ?_ NB231_234.out _; (with_reducible repeat (first | refine blk_drewN ?_ _ | refine blk_drew ?_ | refine blk_alloc ?_ _)); refine blk_far ?_ NB231_234.out _; (with_reducible repeat (first | refine blk_drewN ?_ _ | refine blk_drew ?_ | refine blk_alloc ?_ _)); exact BK231.out) hb); have n1_ := Aside0.mk (blk_below (g := gb234) (o := .cells #[.int .i64 ((rd_T49 l1 x19_2).f0), .int .i64 ((rd_T49 l1 x19_2).f1)] 49 (0, 0)) (by (with_reducible repeat (first | refine blk_drewN ?_ _ | refine blk_drew ?_ | refine blk_alloc ?_ _)); refine blk_put (cs := #[.int .i64 ((rd_T49 l1 x19_2).f0), .int .i64 0]) ?_ 1 _ rfl; (with_reducible repeat (first | refine blk_drewN ?_ _ | refine blk_drew ?_ | refine blk_alloc ?_ _)); refine blk_put (cs := #[.int .i64 0, .int .i64 0]) ?_ 0 _ rfl; (with_reducible repeat (first | refine blk_drewN ?_ _ | refine blk_drew ?_ | refine blk_alloc ?_ _)); exact BK234.out) hb); have n2_ := Aside0.mk (below_step hb_ hb); clear BK231; clear BK234; clear HB; have BK231 := n0_; have BK234 := n1_; have HB := n2_; clear n0_ n1_ n2_; (try clear hb); (try clear hb2); (try clear hk); (try clear hi)))
            go_meet
            case rel => exact ⟨_, (true), es_, H', ⟨by have := HJ2.out; have := HK2.out; first | omega | exact Nat.le_refl _⟩, ⟨bk_ BK231.out⟩, ⟨bk_ BK234.out⟩, ⟨hb_⟩⟩
          case rest =>
           clear HC15
           try clear c1
           try clear c2
           try clear p2
           try clear q2
           try clear hx2
           try clear c5
           try clear c6
           try clear c11
           try clear c12
           try clear c12b0
           try clear c13
           try clear c13b0
           try clear c14
           try clear c14b0
           try clear c17
           try clear c20
           try clear c22
           try clear p23
           try clear q23
           try clear hx23
           try clear c28
           try clear c29
           try clear hcz18_0
           try clear hcz18_1
           try clear hcz23_0
           try clear hcz23_1
           try clear hcz24_0
           try clear hcz24_1
           try clear hcz26_0
           try clear hcz26_1
           try clear hcz27_0
           try clear hcz27_1
           try clear hcz30_0
           try clear hcz30_1
           try clear hcz31_0
           try clear hcz31_1
           try clear hcz7_0
           try clear hcz7_1
           try clear hcz9_0
           try clear hcz9_1
           try clear hfz18_0
           try clear hfz18_1
           try clear hfz23_0
           try clear hfz23_1
           try clear hfz24_0
           try clear hfz24_1
           try clear hfz26_0
           try clear hfz26_1
           try clear hfz27_0
           try clear hfz27_1
           try clear hfz30_0
           try clear hfz30_1
           try clear hfz31_0
           try clear hfz31_1
           try clear hfz7_0
           try clear hfz7_1
           try clear hfz9_0
           try clear hfz9_1
           try clear hx233_0
           try clear hx233_1
           try clear p2
           try clear p233
           try clear q233
           obtain ⟨kq, x35_14, rfl, HA, HJ14, BK231, BK234, HB⟩ := hcut
           cases kq with
           | zero => exact absurd HA.out (by simp [impl_GoodTrips.j2])
           | succ kj14 =>
            have H := HA.out
            clear HA
            simp only [impl_GoodTrips.j2] at H
            by_cases c33 : x35_14 = true
            ·subst c33
             rw [if_pos rfl] at H
             obtain rfl := Option.some.inj H
             go_wp2
             go_ret
             exact ⟨er_, hb_⟩
            ·replace c33 := Bool.eq_false_iff.mpr c33
             subst c33
             rw [if_neg (show ¬ (false = true) by decide)] at H
             by_cases c34 : 0 ≤ x19_2
             ·rw [if_pos c34] at H
              have c34b0 := eq_true c34
              have c34b1 : decide (0 ≤ x19_2) = true := decide_eq_true c34
              clear c34
              by_cases c35 : x19_2 ≤ (l1.length : Int)
              ·rw [if_pos c35] at H
               have c35b0 := eq_true c35
               have c35b1 : decide (x19_2 ≤ (l1.length : Int)) = true := decide_eq_true c35
               clear c35
               obtain ⟨y237, hy237⟩ : ∃ y_ : List (S49), y_ = (l1.take (x19_2 : Int).toNat) := ⟨_, rfl⟩
               replace H : (impl_GoodTrips.l1 kj14 l1 l1 (l1.length : Int) x19_2 y237 (y237.length : Int) 0 a0_0 l0_1 ((rd_T49 l1 x19_2).f0) ((rd_T49 l1 x19_2).f1)) = some r := by first | (rw [hy237]; with_reducible exact H) | (have H2_ := (Option.bind_some _ _).symm.trans H; rw [hy237]; with_reducible exact H2_) | (have H2_ := (Option.bind_some _ _).symm.trans H; with_reducible exact H2_) | with_reducible exact H | (rw [hy237]; exact H) | exact H
               have Ny237 := Aside0.mk hy237
               clear hy237
               have H' := Aside0.mk H
               clear H
               have q36 : (x19_2 : Int) ≤ ((l1.length : Int) : Int) := of_decide_eq_true as_
               obtain ⟨i036, hi036, _, hsz36, _⟩ := info_parts info49
               have hroom36 : l1.length ≤ c1 := HC1.out
               have hC36 : Kd.C k49 _ (some ad233) l1.length l1 := HR1.out
               have hcut36 := cut_to (P := Try.prog) 41 49 .i64 Try.underlying41 hi036 (some ad233) l1.length c1 x19_2 (of_decide_eq_true as_) q36 hroom36
               have hr36 := Kd.C_take (m := (x19_2 : Int).toNat) hC36 (by omega)
               have hy36 : y237.length = (x19_2 : Int).toNat := (by rw [Ny237.out, List.length_take]; omega)
               rw [← Ny237.out] at hr36
               rw [← hy36] at hcut36
               have HR240 := Aside0.mk hr36
               have HC240 := Aside0.mk (show y237.length ≤ c1 from by omega)
               clear hr36 hC36 hroom36 hi036 hsz36
               have KY36 := Aside0.mk hy36
               clear hy36
               replace q36 := eq_true q36
               go_wp2
               go_loopg [40] kj14 (fun kq v40 w' => ∃ (x40_4 : Int), v40 = .int .i64 x40_4 ∧ Aside0 (impl_GoodTrips.l1 kq l1 l1 (l1.length : Int) x19_2 y237 (y237.length : Int) x40_4 a0_0 l0_1 ((rd_T49 l1 x19_2).f0) ((rd_T49 l1 x19_2).f1) = some r) ∧ Aside0 (kq ≤ kj14) ∧ Aside0 (w'.heap[gb231]? = some (.cells #[.int .i64 a0_0, (.slice A0_1 l0_1.length c0_1)] 39 (0, 0))) ∧ Aside0 (w'.heap[gb234]? = some (.cells #[.int .i64 ((rd_T49 l1 x19_2).f0), .int .i64 ((rd_T49 l1 x19_2).f1)] 49 (0, 0))) ∧ Aside0 (Below w.heap.size w w'))
               case atStart => exact ⟨(0), es_, H', ⟨Nat.le_refl _⟩, ⟨bk_ BK231.out⟩, ⟨bk_ BK234.out⟩, ⟨hb_⟩⟩
               case round =>
                clear H'
                try clear c1
                try clear c2
                try clear p2
                try clear q2
                try clear hx2
                try clear c3
                try clear q3
                try clear c5
                try clear c6
                try clear c11
                try clear c12
                try clear c12b0
                try clear c13
                try clear c13b0
                try clear c14
                try clear c14b0
                try clear c17
                try clear c20
                try clear c22
                try clear p23
                try clear q23
                try clear hx23
                try clear c28
                try clear c29
                try clear c33
                try clear c34
                try clear c34b0
                try clear c34b1
                try clear c35
                try clear c35b0
                try clear c35b1
                try clear q36
                try clear hcz18_0
                try clear hcz18_1
                try clear hcz23_0
                try clear hcz23_1
                try clear hcz24_0
                try clear hcz24_1
                try clear hcz26_0
                try clear hcz26_1
                try clear hcz27_0
                try clear hcz27_1
                try clear hcz30_0
                try clear hcz30_1
                try clear hcz31_0
                try clear hcz31_1
                try clear hcz7_0
                try clear hcz7_1
                try clear hcz9_0
                try clear hcz9_1
                try clear hfz18_0
                try clear hfz18_1
                try clear hfz23_0
                try clear hfz23_1
                try clear hfz24_0
                try clear hfz24_1
                try clear hfz26_0
                try clear hfz26_1
                try clear hfz27_0
                try clear hfz27_1
                try clear hfz30_0
                try clear hfz30_1
                try clear hfz31_0
                try clear hfz31_1
                try clear hfz7_0
                try clear hfz7_1
                try clear hfz9_0
                try clear hfz9_1
                try clear hx233_0
                try clear hx233_1
                try clear p2
                try clear p23
                try clear p233
                try clear q2
                try clear q23
                try clear q233
                try clear q36
                obtain ⟨x40_4, rfl, HA, HK4, BK231, BK234, HB⟩ := hrel
                cases gk with
                | zero => exact absurd HA.out (by simp [impl_GoodTrips.l1])
                | succ k4 =>
                 have H := HA.out
                 clear HA
                 simp only [impl_GoodTrips.l1] at H
                 by_cases c37 : x40_4 < (y237.length : Int)
                 ·rw [if_pos c37] at H
                  have c37b0 : decide (x40_4 < (y237.length : Int)) = true := decide_eq_true c37
                  clear c37
                  by_cases c38 : 0 ≤ x40_4
                  ·rw [if_pos c38] at H
                   have c38b0 : decide (0 ≤ x40_4) = true := decide_eq_true c38
                   clear c38
                   by_cases c39 : x40_4 < (y237.length : Int)
                   ·rw [if_pos c39] at H
                    have c39b0 : decide (x40_4 < (y237.length : Int)) = true := decide_eq_true c39
                    clear c39
                    by_cases c40 : ((rd_T49 y237 x40_4).f0) = ((rd_T49 l1 x19_2).f0)
                    ·rw [if_pos c40] at H
                     have c40b0 : (((rd_T49 y237 x40_4).f0) == ((rd_T49 l1 x19_2).f0)) = true := beq_iff_eq.mpr c40
                     have c40b1 : (((rd_T49 y237 x40_4).f0) != ((rd_T49 l1 x19_2).f0)) = false := bne_eq_false_iff_eq.mpr c40
                     clear c40
                     obtain rfl := Option.some.inj H
                     have p241 : 0 ≤ (x40_4 : Int) := of_decide_eq_true as_
                     have q241 : x40_4 < (y237.length : Int) := of_decide_eq_true as_
                     obtain ⟨ad241, e241, hx241_0, hx241_1⟩ := at_T49 HR240.out x40_4 p241 q241
                     obtain rfl : ad233 = ad241 := (by injection e241)
                     replace hx241_0 := hc_ HB hx241_0
                     replace hx241_1 := hc_ HB hx241_1
                     replace p241 := eq_true p241
                     replace q241 := eq_true q241
                     go_wp2_with (first | ((with_reducible refine gate_dst (N := 8) rfl ?_); (try (refine gate_guard (by rfl) ?_; dsimp only)); refine box_event ?hg (N := 8) ?hd (cs := #[.int .i64 0, .int .i64 0]) (t := 49) ?hr ?_; (case hd => rfl); (case hg => rfl); (case hr => first | (go_simp; done) | (go_simp; rfl)); intro gb242 hg w41 hbox hb; have n0_ := bb_ BK231 hb; have n1_ := bb_ BK234 hb; have n2_ := Aside0.mk (below_step hb_ hb); have n3_ := Aside0.mk (hbox); have n4_ : Aside0 (w.heap.size ≤ gb242) := gz_; have n5_ : Aside0 (w.heap.size ≤ gb242) := gz_; have n6_ := Aside0.mk ((by rw [hg]; exact Nat.ne_of_lt (blk_lt (g := gb231) (o := .cells #[.int .i64 a0_0, .slice A0_1 l0_1.length c0_1] 39 (0, 0)) (bk_ BK231.out)) : gb231 ≠ gb242)); have n7_ := Aside0.mk ((by rw [hg]; exact Nat.ne_of_gt (blk_lt (g := gb231) (o := .cells #[.int .i64 a0_0, .slice A0_1 l0_1.length c0_1] 39 (0, 0)) (bk_ BK231.out)) : gb242 ≠ gb231)); have n8_ := Aside0.mk ((by rw [hg]; exact Nat.ne_of_lt (blk_lt (g := gb234) (o := .cells #[.int .i64 ((rd_T49 l1 x19_2).f0), .int .i64 ((rd_T49 l1 x19_2).f1)] 49 (0, 0)) (bk_ BK234.out)) : gb234 ≠ gb242)); have n9_ := Aside0.mk ((by rw [hg]; exact Nat.ne_of_gt (blk_lt (g := gb234) (o := .cells #[.int .i64 ((rd_T49 l1 x19_2).f0), .int .i64 ((rd_T49 l1 x19_2).f1)] 49 (0, 0)) (bk_ BK234.out)) : gb242 ≠ gb234)); clear BK231; clear BK234; clear HB; have BK231 := n0_; have BK234 := n1_; have HB := n2_; have BK242 := n3_; have GW242 := n4_; have GE242 := n5_; have NB231_242 := n6_; have NB242_231 := n7_; have NB234_242 := n8_; have NB242_234 := n9_; clear n0_ n1_ n2_ n3_ n4_ n5_ n6_ n7_ n8_ n9_; clear hb hbox hg; have hnb42 := NB242_231.out; have hnc42 := NB231_242.out; have hnb43 := NB242_234.out; have hnc43 := NB234_242.out; have hcz44_0 : w41.cell? ⟨gb242, 0, none⟩ = some (.int .i64 0) := (blk_cell BK242.out 0).trans rfl; have hcz44_1 : w41.cell? ⟨gb242, 1, none⟩ = some (.int .i64 0) := (blk_cell BK242.out 1).trans rfl; have hfz44_0 := blk_frozen BK242.out 0; have hfz44_1 := blk_frozen BK242.out 1; have hnb45 := NB234_231.out; have hnc45 := NB231_234.out; have hcz46_0 : w41.cell? ⟨gb234, 0, none⟩ = some (.int .i64 ((rd_T49 l1 x19_2).f0)) := (blk_cell BK234.out 0).trans rfl; have hcz46_1 : w41.cell? ⟨gb234, 1, none⟩ = some (.int .i64 ((rd_T49 l1 x19_2).f1)) := (blk_cell BK234.out 1).trans rfl; have hfz46_0 := blk_frozen BK234.out 0; have hfz46_1 := blk_frozen BK234.out 1))
                     go_ret
                     exact ⟨er_, hb_⟩
                    ·rw [if_neg c40] at H
                     have c40b0 : (((rd_T49 y237 x40_4).f0) == ((rd_T49 l1 x19_2).f0)) = false := beq_eq_false_iff_ne.mpr c40
                     have c40b1 : (((rd_T49 y237 x40_4).f0) != ((rd_T49 l1 x19_2).f0)) = true := bne_iff_ne.mpr c40
                     by_cases c47 : ((rd_T49 y237 x40_4).f1) = ((rd_T49 l1 x19_2).f1)
                     ·rw [if_pos c47] at H
                      have c47b0 : (((rd_T49 y237 x40_4).f1) == ((rd_T49 l1 x19_2).f1)) = true := beq_iff_eq.mpr c47
                      have c47b1 : (((rd_T49 y237 x40_4).f1) != ((rd_T49 l1 x19_2).f1)) = false := bne_eq_false_iff_eq.mpr c47
                      clear c47
                      obtain rfl := Option.some.inj H
                      have p241 : 0 ≤ (x40_4 : Int) := of_decide_eq_true as_
                      have q241 : x40_4 < (y237.length : Int) := of_decide_eq_true as_
                      obtain ⟨ad241, e241, hx241_0, hx241_1⟩ := at_T49 HR240.out x40_4 p241 q241
                      obtain rfl : ad233 = ad241 := (by injection e241)
                      replace hx241_0 := hc_ HB hx241_0
                      replace hx241_1 := hc_ HB hx241_1
                      replace p241 := eq_true p241
                      replace q241 := eq_true q241
                      go_wp2_with (first | ((with_reducible refine gate_dst (N := 8) rfl ?_); (try (refine gate_guard (by rfl) ?_; dsimp only)); refine box_event ?hg (N := 8) ?hd (cs := #[.int .i64 0, .int .i64 0]) (t := 49) ?hr ?_; (case hd => rfl); (case hg => rfl); (case hr => first | (go_simp; done) | (go_simp; rfl)); intro gb242 hg w48 hbox hb; have n0_ := bb_ BK231 hb; have n1_ := bb_ BK234 hb; have n2_ := Aside0.mk (below_step hb_ hb); have n3_ := Aside0.mk (hbox); have n4_ : Aside0 (w.heap.size ≤ gb242) := gz_; have n5_ : Aside0 (w.heap.size ≤ gb242) := gz_; have n6_ := Aside0.mk ((by rw [hg]; exact Nat.ne_of_lt (blk_lt (g := gb231) (o := .cells #[.int .i64 a0_0, .slice A0_1 l0_1.length c0_1] 39 (0, 0)) (bk_ BK231.out)) : gb231 ≠ gb242)); have n7_ := Aside0.mk ((by rw [hg]; exact Nat.ne_of_gt (blk_lt (g := gb231) (o := .cells #[.int .i64 a0_0, .slice A0_1 l0_1.length c0_1] 39 (0, 0)) (bk_ BK231.out)) : gb242 ≠ gb231)); have n8_ := Aside0.mk ((by rw [hg]; exact Nat.ne_of_lt (blk_lt (g := gb234) (o := .cells #[.int .i64 ((rd_T49 l1 x19_2).f0), .int .i64 ((rd_T49 l1 x19_2).f1)] 49 (0, 0)) (bk_ BK234.out)) : gb234 ≠ gb242)); have n9_ := Aside0.mk ((by rw [hg]; exact Nat.ne_of_gt (blk_lt (g := gb234) (o := .cells #[.int .i64 ((rd_T49 l1 x19_2).f0), .int .i64 ((rd_T49 l1 x19_2).f1)] 49 (0, 0)) (bk_ BK234.out)) : gb242 ≠ gb234)); clear BK231; clear BK234; clear HB; have BK231 := n0_; have BK234 := n1_; have HB := n2_; have BK242 := n3_; have GW242 := n4_; have GE242 := n5_; have NB231_242 := n6_; have NB242_231 := n7_; have NB234_242 := n8_; have NB242_234 := n9_; clear n0_ n1_ n2_ n3_ n4_ n5_ n6_ n7_ n8_ n9_; clear hb hbox hg; have hnb49 := NB242_231.out; have hnc49 := NB231_242.out; have hnb50 := NB242_234.out; have hnc50 := NB234_242.out; have hcz51_0 : w48.cell? ⟨gb242, 0, none⟩ = some (.int .i64 0) := (blk_cell BK242.out 0).trans rfl; have hcz51_1 : w48.cell? ⟨gb242, 1, none⟩ = some (.int .i64 0) := (blk_cell BK242.out 1).trans rfl; have hfz51_0 := blk_frozen BK242.out 0; have hfz51_1 := blk_frozen BK242.out 1; have hnb52 := NB234_231.out; have hnc52 := NB231_234.out; have hcz53_0 : w48.cell? ⟨gb234, 0, none⟩ = some (.int .i64 ((rd_T49 l1 x19_2).f0)) := (blk_cell BK234.out 0).trans rfl; have hcz53_1 : w48.cell? ⟨gb234, 1, none⟩ = some (.int .i64 ((rd_T49 l1 x19_2).f1)) := (blk_cell BK234.out 1).trans rfl; have hfz53_0 := blk_frozen BK234.out 0; have hfz53_1 := blk_frozen BK234.out 1))
                      go_ret
                      exact ⟨er_, hb_⟩
                     ·rw [if_neg c47] at H
                      have c47b0 : (((rd_T49 y237 x40_4).f1) == ((rd_T49 l1 x19_2).f1)) = false := beq_eq_false_iff_ne.mpr c47
                      have c47b1 : (((rd_T49 y237 x40_4).f1) != ((rd_T49 l1 x19_2).f1)) = true := bne_iff_ne.mpr c47
                      have H' := Aside0.mk H
                      clear H
                      have p241 : 0 ≤ (x40_4 : Int) := of_decide_eq_true as_
                      have q241 : x40_4 < (y237.length : Int) := of_decide_eq_true as_
                      obtain ⟨ad241, e241, hx241_0, hx241_1⟩ := at_T49 HR240.out x40_4 p241 q241
                      obtain rfl : ad233 = ad241 := (by injection e241)
                      replace hx241_0 := hc_ HB hx241_0
                      replace hx241_1 := hc_ HB hx241_1
                      replace p241 := eq_true p241
                      replace q241 := eq_true q241
                      go_wp2_with (first | ((with_reducible refine gate_dst (N := 8) rfl ?_); (try (refine gate_guard (by rfl) ?_; dsimp only)); refine box_event ?hg (N := 8) ?hd (cs := #[.int .i64 0, .int .i64 0]) (t := 49) ?hr ?_; (case hd => rfl); (case hg => rfl); (case hr => first | (go_simp; done) | (go_simp; rfl)); intro gb242 hg w54 hbox hb; have n0_ := bb_ BK231 hb; have n1_ := bb_ BK234 hb; have n2_ := Aside0.mk (below_step hb_ hb); have n3_ := Aside0.mk (hbox); have n4_ : Aside0 (w.heap.size ≤ gb242) := gz_; have n5_ : Aside0 (w.heap.size ≤ gb242) := gz_; have n6_ := Aside0.mk ((by rw [hg]; exact Nat.ne_of_lt (blk_lt (g := gb231) (o := .cells #[.int .i64 a0_0, .slice A0_1 l0_1.length c0_1] 39 (0, 0)) (bk_ BK231.out)) : gb231 ≠ gb242)); have n7_ := Aside0.mk ((by rw [hg]; exact Nat.ne_of_gt (blk_lt (g := gb231) (o := .cells #[.int .i64 a0_0, .slice A0_1 l0_1.length c0_1] 39 (0, 0)) (bk_ BK231.out)) : gb242 ≠ gb231)); have n8_ := Aside0.mk ((by rw [hg]; exact Nat.ne_of_lt (blk_lt (g := gb234) (o := .cells #[.int .i64 ((rd_T49 l1 x19_2).f0), .int .i64 ((rd_T49 l1 x19_2).f1)] 49 (0, 0)) (bk_ BK234.out)) : gb234 ≠ gb242)); have n9_ := Aside0.mk ((by rw [hg]; exact Nat.ne_of_gt (blk_lt (g := gb234) (o := .cells #[.int .i64 ((rd_T49 l1 x19_2).f0), .int .i64 ((rd_T49 l1 x19_2).f1)] 49 (0, 0)) (bk_ BK234.out)) : gb242 ≠ gb234)); clear BK231; clear BK234; clear HB; have BK231 := n0_; have BK234 := n1_; have HB := n2_; have BK242 := n3_; have GW242 := n4_; have GE242 := n5_; have NB231_242 := n6_; have NB242_231 := n7_; have NB234_242 := n8_; have NB242_234 := n9_; clear n0_ n1_ n2_ n3_ n4_ n5_ n6_ n7_ n8_ n9_; clear hb hbox hg; have hnb55 := NB242_231.out; have hnc55 := NB231_242.out; have hnb56 := NB242_234.out; have hnc56 := NB234_242.out; have hcz57_0 : w54.cell? ⟨gb242, 0, none⟩ = some (.int .i64 0) := (blk_cell BK242.out 0).trans rfl; have hcz57_1 : w54.cell? ⟨gb242, 1, none⟩ = some (.int .i64 0) := (blk_cell BK242.out 1).trans rfl; have hfz57_0 := blk_frozen BK242.out 0; have hfz57_1 := blk_frozen BK242.out 1; have hnb58 := NB234_231.out; have hnc58 := NB231_234.out; have hcz59_0 : w54.cell? ⟨gb234, 0, none⟩ = some (.int .i64 ((rd_T49 l1 x19_2).f0)) := (blk_cell BK234.out 0).trans rfl; have hcz59_1 : w54.cell? ⟨gb234, 1, none⟩ = some (.int .i64 ((rd_T49 l1 x19_2).f1)) := (blk_cell BK234.out 1).trans rfl; have hfz59_0 := blk_frozen BK234.out 0; have hfz59_1 := blk_frozen BK234.out 1))
                      go_roundg k4
                      case measure => have := HJ2.out; have := HK2.out; have := HJ14.out; have := HK4.out; omega
                      case rel => exact ⟨(wrap64 (x40_4 + 1)), es_, H', ⟨by have := HJ2.out; have := HK2.out; have := HJ14.out; have := HK4.out; omega⟩, ⟨by (with_reducible repeat (first | refine blk_drewN ?_ _ | refine blk_drew ?_ | refine blk_alloc ?_ _)); refine blk_far ?_ NB231_242.out _; (with_reducible repeat (first | refine blk_drewN ?_ _ | refine blk_drew ?_ | refine blk_alloc ?_ _)); refine blk_far ?_ NB231_242.out _; (with_reducible repeat (first | refine blk_drewN ?_ _ | refine blk_drew ?_ | refine blk_alloc ?_ _)); exact BK231.out⟩, ⟨by (with_reducible repeat (first | refine blk_drewN ?_ _ | refine blk_drew ?_ | refine blk_alloc ?_ _)); refine blk_far ?_ NB234_242.out _; (with_reducible repeat (first | refine blk_drewN ?_ _ | refine blk_drew ?_ | refine blk_alloc ?_ _)); refine blk_far ?_ NB234_242.out _; (with_reducible repeat (first | refine blk_drewN ?_ _ | refine blk_drew ?_ | refine blk_alloc ?_ _)); exact BK234.out⟩, ⟨hb_⟩⟩
                   ·rw [if_neg c39] at H
                    exact absurd H (by simp)
                  ·rw [if_neg c38] at H
                   exact absurd H (by simp)
                 ·rw [if_neg c37] at H
                  have c37b0 : decide (x40_4 < (y237.length : Int)) = false := decide_eq_false c37
                  clear c37
                  have H' := Aside0.mk H
                  clear H
                  go_wp2
                  go_roundg k4
                  case measure => have := HJ2.out; have := HK2.out; have := HJ14.out; have := HK4.out; omega
                  case rel => exact ⟨(wrap64 (x19_2 + 1)), es_, H', ⟨by have := HJ2.out; have := HK2.out; have := HJ14.out; have := HK4.out; omega⟩, ⟨bk_ BK231.out⟩, ⟨hb_⟩⟩
              ·rw [if_neg c35] at H
               exact absurd H (by simp)
             ·rw [if_neg c34] at H
              exact absurd H (by simp)
         ·rw [if_neg c14] at H
          exact absurd H (by simp)
        ·rw [if_neg c13] at H
         exact absurd H (by simp)
       ·rw [if_neg c12] at H
        have c12b0 : decide (x19_2 < (l1.length : Int)) = false := decide_eq_false c12
        clear c12
        obtain rfl := Option.some.inj H
        go_wp2
        go_ret
        exact ⟨er_, hb_⟩

end Go.Proofs.Ytcldlljnaijmhaa.Pr
