-- Joined and pruned by wip/tools/prune.py out of this session's own texts (PureBase, PureInts, PureCells, PureTrips, PureIntSS, PureMeet, PureGrid, HdAlong, Prd2, PurePaths, Mp, PureBfs, HdAlone, Prd3)
import Derived.Test.YtcldlljnaijmhaaZjt5
import Derived.MapKept
import Derived.Laws.StructEq
import Derived.Maps.RangeRun
/-
Own text: what many of the pure proofs use: 'for all from i on', counters, 'between', the copy and the comparison of slices of bytes.
-/
namespace Go.Proofs.Ytcldlljnaijmhaa.Pure
open Go.RowKit Go.Proofs.YtcldlljnaijmhaaW.PrintWords Go.Proofs.Ytcldlljnaijmhaa.EvKit

def From (n i : Nat) (C : Nat → Prop) : Prop := ∀ j, i ≤ j → j < n → C j
theorem From.end_ {n i : Nat} {C : Nat → Prop} (h : n ≤ i) : From n i C := fun j h1 h2 => by omega
theorem From.step {n i : Nat} {C : Nat → Prop} (h : i < n) : From n i C ↔ C i ∧ From n (i + 1) C := by
  constructor
  · exact fun a => ⟨a i (Nat.le_refl i) h, fun j h1 h2 => a j (by omega) h2⟩
  · rintro ⟨a, b⟩ j h1 h2
    by_cases e : j = i
    · exact e ▸ a
    · exact b j (by omega) h2
/-- One of those from i on, below n. -/
def Some_ (n i : Nat) (C : Nat → Prop) : Prop := ∃ j, i ≤ j ∧ j < n ∧ C j
theorem Some_.end_ {n i : Nat} {C : Nat → Prop} (h : n ≤ i) : ¬ Some_ n i C := by
  rintro ⟨j, h1, h2, _⟩
  omega
theorem Some_.step {n i : Nat} {C : Nat → Prop} (h : i < n) : Some_ n i C ↔ C i ∨ Some_ n (i + 1) C := by
  constructor
  · rintro ⟨j, h1, h2, h3⟩
    by_cases e : j = i
    · exact Or.inl (e ▸ h3)
    · exact Or.inr ⟨j, by omega, h2, h3⟩
  · rintro (a | ⟨j, h1, h2, h3⟩)
    · exact ⟨i, Nat.le_refl i, h, a⟩
    · exact ⟨j, by omega, h2, h3⟩
theorem succ_w {i : Nat} (h : i < 35184372088833) : wrap64 ((i : Int) + 1) = ((i + 1 : Nat) : Int) := by rw [wrap64_id (by omega) (by omega)]; omega
end Go.Proofs.Ytcldlljnaijmhaa.Pure
/-
Own text: what the laws' own helpers on []int come to: a copy, a comparison.
-/
namespace Go.Proofs.Ytcldlljnaijmhaa.Pure
open Go.RowKit Go.Proofs.YtcldlljnaijmhaaW.PrintWords Go.Proofs.YtcldlljnaijmhaaW.PrintLast Go.Proofs.Ytcldlljnaijmhaa.Pr Go.Proofs.Ytcldlljnaijmhaa.EvKit

theorem toIntS_l0 (l : List Int) (hl : l.length ≤ 35184372088832) (d : Nat) : ∀ i : Nat, i + d = l.length →
    Ev (fun k => laws_toIntS.l0 k l ((l.take i).map id ++ List.replicate (l.length - i) 0) i) (l.map id) := by
  induction d with
  | zero =>
    intro i hi
    apply Ev.succ
    simp only [laws_toIntS.l0, show ¬ ((i : Int) < (l.length : Int)) by omega, if_false]
    have : i = l.length := by omega
    subst this
    exact Ev.some (copy_done _ _ _)
  | succ d ih =>
    intro i hi
    apply Ev.succ
    have hlen : ((l.take i).map id ++ List.replicate (l.length - i) (0 : Int)).length = l.length := by simp; omega
    simp only [laws_toIntS.l0, hlen, show ((i : Int) < (l.length : Int)) by omega, show (0 : Int) ≤ (i : Int) by omega, if_true, Int.toNat_natCast]
    rw [show wrap64 ((i : Int) + 1) = ((i + 1 : Nat) : Int) by rw [wrap64_id (by omega) (by omega)]; omega]
    have := copy_step id (0 : Int) 0 l i (by omega)
    have e : rd l (i : Int) = id (l.getD i 0) := rfl
    rw [e, this]
    exact ih (i + 1) (by omega)
theorem toIntS_ev (l : List Int) (hl : l.length ≤ 35184372088832) : Ev (fun k => laws_toIntS.f k l) l := by
  simp only [laws_toIntS.f, Int.toNat_natCast, show (0 : Int) ≤ (l.length : Int) by omega, hl, if_true]
  have := toIntS_l0 l hl l.length 0 (by omega)
  simpa using this

theorem eqIntS_l0 (l : List Int) (hl : l.length ≤ 35184372088832) (d : Nat) : ∀ i : Nat, i + d = l.length → Ev (fun k => laws_eqIntS.l0 k l l i) true := by
  induction d with
  | zero =>
    intro i hi
    apply Ev.succ
    simp only [laws_eqIntS.l0, show ¬ ((i : Int) < (l.length : Int)) by omega, if_false]
    exact Ev.some rfl
  | succ d ih =>
    intro i hi
    apply Ev.succ
    simp only [laws_eqIntS.l0, show ((i : Int) < (l.length : Int)) by omega, show (0 : Int) ≤ (i : Int) by omega, if_true]
    rw [show wrap64 ((i : Int) + 1) = ((i + 1 : Nat) : Int) by rw [wrap64_id (by omega) (by omega)]; omega]
    exact ih (i + 1) (by omega)
theorem eqIntS_ev (l : List Int) (hl : l.length ≤ 35184372088832) : Ev (fun k => laws_eqIntS.f k l l) true := by
  simp only [laws_eqIntS.f, if_true]
  exact eqIntS_l0 l hl l.length 0 (by omega)

end Go.Proofs.Ytcldlljnaijmhaa.Pure
/-
Own text: cells: the two checks agree; what good cells are; what is free; the laws' helpers on cells.
-/
namespace Go.Proofs.Ytcldlljnaijmhaa.Pure
open Go.RowKit Go.Proofs.YtcldlljnaijmhaaW.PrintWords Go.Proofs.YtcldlljnaijmhaaW.PrintLast Go.Proofs.Ytcldlljnaijmhaa.Pr Go.Proofs.Ytcldlljnaijmhaa.EvKit
open Classical

def Sq (w : Int) (n : Nat) : Prop := 1 ≤ w ∧ w ≤ 16 ∧ (n : Int) % w = 0 ∧ w ≤ n ∧ (n : Int) / w ≤ 16
/-- Good cells. -/
def Cl (w : Int) (c : List Int) : Prop := Sq w c.length ∧ From c.length 0 fun j => 0 ≤ c.getD j 0 ∧ c.getD j 0 ≤ 2

theorem sq_impl (w : Int) (n : Nat) (hn : n ≤ 35184372088832) : impl_squared.f w n = some (decide (Sq w n)) := by
  unfold impl_squared.f Sq
  by_cases h1 : w ≥ 1
  · by_cases h2 : w ≤ 16
    · have hm : (n : Int).tmod w = (n : Int) % w := Int.tmod_eq_emod_of_nonneg (by omega)
      have hd : (n : Int).tdiv w = (n : Int) / w := Int.tdiv_eq_ediv_of_nonneg (by omega)
      rw [if_pos h1, if_pos h2, if_neg (by omega), hm, hd]
      by_cases h3 : (n : Int) % w = 0
      · have hle : (n : Int) / w ≤ n := Int.ediv_le_self _ (by omega)
        have h0 : 0 ≤ (n : Int) / w := Int.ediv_nonneg (by omega) (by omega)
        have key : (n : Int) / w ≥ 1 ↔ w ≤ n := (Int.le_ediv_iff_mul_le (by omega)).trans (by rw [Int.one_mul])
        rw [if_pos h3, wrap64_id (by omega) (by omega)]
        by_cases h4 : (n : Int) / w ≥ 1
        · have h5 : w ≤ n := key.1 h4
          rw [if_pos h4]
          simp [h1, h2, h3, h5]
        · have h5 : ¬ w ≤ n := fun h => h4 (key.2 h)
          rw [if_neg h4]
          simp [h5]
      · rw [if_neg h3]
        simp [h3]
    · rw [if_pos h1, if_neg h2]
      simp [h2]
  · rw [if_neg h1]
    simp [show ¬ 1 ≤ w from h1]
theorem sq_spec (w : Int) (n : Nat) (hn : n ≤ 35184372088832) : spec_l12Sized.f w n = some (decide (Sq w n)) := by
  unfold spec_l12Sized.f Sq
  by_cases h1 : w ≥ 1
  · by_cases h2 : w ≤ 16
    · have hm : (n : Int).tmod w = (n : Int) % w := Int.tmod_eq_emod_of_nonneg (by omega)
      have hd : (n : Int).tdiv w = (n : Int) / w := Int.tdiv_eq_ediv_of_nonneg (by omega)
      have hle : (n : Int) / w ≤ n := Int.ediv_le_self _ (by omega)
      have h0 : 0 ≤ (n : Int) / w := Int.ediv_nonneg (by omega) (by omega)
      rw [if_pos h1, if_pos h2, hm, hd, if_neg (show ¬ w = 0 by omega), wrap64_id (by omega) (by omega)]
      by_cases h4 : (n : Int) ≥ w
      · rw [if_pos h4]
        by_cases h3 : (n : Int) % w = 0
        · rw [if_pos h3]
          simp [h1, h2, h3, show w ≤ (n : Int) from h4]
        · rw [if_neg h3]
          simp [h3]
      · rw [if_neg h4]
        simp [show ¬ w ≤ (n : Int) from h4]
    · rw [if_pos h1, if_neg h2]
      simp [h2]
  · rw [if_neg h1]
    simp [show ¬ 1 ≤ w from h1]

theorem cells_l0 (c : List Int) (hn : c.length ≤ 35184372088832) (d : Nat) : ∀ i : Nat, i + d = c.length →
    Ev (fun k => impl_GoodCells.l0 k c (c.length : Int) i) (decide (From c.length i fun j => 0 ≤ c.getD j 0 ∧ c.getD j 0 ≤ 2)) ∧ Ev (fun k => spec_GoodCells.l0 k c (c.length : Int) i) (decide (From c.length i fun j => 0 ≤ c.getD j 0 ∧ c.getD j 0 ≤ 2)) := by
  induction d with
  | zero =>
    intro i hi
    have e : decide (From c.length i fun j => 0 ≤ c.getD j 0 ∧ c.getD j 0 ≤ 2) = true := by
      rw [decide_eq_true_eq]
      exact From.end_ (by omega)
    rw [e]
    refine ⟨Ev.succ ?_, Ev.succ ?_⟩
    · simp only [impl_GoodCells.l0]
      exact Ev.neg (by omega) (Ev.some rfl)
    · simp only [spec_GoodCells.l0]
      exact Ev.neg (by omega) (Ev.some rfl)
  | succ d ih =>
    intro i hi
    obtain ⟨a, b⟩ := ih (i + 1) (by omega)
    have step := From.step (n := c.length) (i := i) (C := fun j => 0 ≤ c.getD j 0 ∧ c.getD j 0 ≤ 2) (by omega)
    have e : rd c (i : Int) = c.getD i 0 := rfl
    by_cases h : 0 ≤ c.getD i 0 ∧ c.getD i 0 ≤ 2
    · have e2 : decide (From c.length i fun j => 0 ≤ c.getD j 0 ∧ c.getD j 0 ≤ 2) = decide (From c.length (i + 1) fun j => 0 ≤ c.getD j 0 ∧ c.getD j 0 ≤ 2) := by
        rw [decide_eq_decide]
        exact ⟨fun x => (step.1 x).2, fun x => step.2 ⟨h, x⟩⟩
      rw [e2]
      refine ⟨Ev.succ ?_, Ev.succ ?_⟩
      · simp only [impl_GoodCells.l0, e, succ_w (show i < 35184372088833 by omega)]
        exact Ev.pos (by omega) (Ev.pos (by omega) (Ev.pos (by omega) (Ev.neg (by omega) (Ev.neg (by omega) a))))
      · simp only [spec_GoodCells.l0, e, succ_w (show i < 35184372088833 by omega)]
        exact Ev.pos (by omega) (Ev.pos (by omega) (Ev.pos (by omega) (Ev.neg (by omega) (Ev.neg (by omega) b))))
    · have e2 : decide (From c.length i fun j => 0 ≤ c.getD j 0 ∧ c.getD j 0 ≤ 2) = false := by
        rw [decide_eq_false_iff_not]
        exact fun x => h (step.1 x).1
      rw [e2]
      refine ⟨Ev.succ ?_, Ev.succ ?_⟩
      · simp only [impl_GoodCells.l0, e]
        exact Ev.pos (by omega) (Ev.pos (by omega) (Ev.pos (by omega) (Ev.ite (fun _ => Ev.some rfl) (fun _ => Ev.pos (by omega) (Ev.some rfl)))))
      · simp only [spec_GoodCells.l0, e]
        exact Ev.pos (by omega) (Ev.pos (by omega) (Ev.pos (by omega) (Ev.ite (fun _ => Ev.some rfl) (fun _ => Ev.pos (by omega) (Ev.some rfl)))))
theorem goodCells_impl (w : Int) (c : List Int) (hn : c.length ≤ 35184372088832) : Ev (fun k => impl_GoodCells.f k w c) (decide (Cl w c)) := by
  simp only [impl_GoodCells.f]
  refine Ev.bnd0 (sq_impl w c.length hn) (Ev.ite (fun h => Ev.eq (cells_l0 c hn c.length 0 (by omega)).1 ?_) (fun h => Ev.some ?_))
  · rw [decide_eq_decide]
    exact ⟨fun x => ⟨by simpa using h, x⟩, fun x => x.2⟩
  · symm
    rw [decide_eq_false_iff_not]
    exact fun x => h (by simpa using x.1)
theorem goodCells_spec (w : Int) (c : List Int) (hn : c.length ≤ 35184372088832) : Ev (fun k => spec_GoodCells.f k w c) (decide (Cl w c)) := by
  simp only [spec_GoodCells.f]
  refine Ev.bnd0 (sq_spec w c.length hn) (Ev.ite (fun h => Ev.eq (cells_l0 c hn c.length 0 (by omega)).2 ?_) (fun h => Ev.some ?_))
  · rw [decide_eq_decide]
    exact ⟨fun x => ⟨by simpa using h, x⟩, fun x => x.2⟩
  · symm
    rw [decide_eq_false_iff_not]
    exact fun x => h (by simpa using x.1)

/-- The number of a free cell. -/
def Fr (c : List Int) (a : Int) : Prop := 0 ≤ a ∧ a < c.length ∧ c.getD a.toNat 0 = 0
theorem free_impl (w : Int) (c : List Int) (a : Int) : impl_Cells_free.f w c a = some (decide (Fr c a)) := by
  unfold impl_Cells_free.f
  have e : rd c a = c.getD a.toNat 0 := rfl
  by_cases h1 : a ≥ 0
  · by_cases h2 : a < (c.length : Int)
    · rw [if_pos h1, if_pos h2, if_pos h1, e]
      congr 1
      by_cases h3 : c.getD a.toNat 0 = 0
      · rw [decide_eq_true (p := Fr c a) (And.intro h1 (And.intro h2 h3)), h3]
        rfl
      · rw [decide_eq_false (p := Fr c a) (fun x => h3 x.2.2)]
        simpa using h3
    · rw [if_pos h1, if_neg h2, decide_eq_false (p := Fr c a) (fun x => h2 x.2.1)]
  · rw [if_neg h1, decide_eq_false (p := Fr c a) (fun x => h1 x.1)]
theorem free_spec (w : Int) (c : List Int) (a : Int) : spec_l12Free.f w c a = some (decide (Fr c a)) := free_impl w c a

/-! ### the laws' helpers -/
theorem toCells_ev (w : Int) (c : List Int) (hl : c.length ≤ 1048576) : Ev (fun k => laws_toCells.f k w c) (w, c) := by
  simp only [laws_toCells.f]
  exact Ev.bnd (toIntS_ev c (by omega)) (Ev.some rfl)
theorem eqCells_ev (w : Int) (c : List Int) (hl : c.length ≤ 1048576) : Ev (fun k => laws_eqCells.f k w c w c) true := by
  simp only [laws_eqCells.f]
  exact Ev.pos trivial (Ev.bnd (eqIntS_ev c (by omega)) (Ev.pos rfl (Ev.some rfl)))
theorem szCells_eq (w : Int) (c : List Int) (a : Int) (hl : c.length ≤ 9223372036854775807) (h0 : 0 ≤ a) (h1 : a ≤ 1048576) :
    ∃ r, laws_szCells.f w c a = some r ∧ (¬ r < 0 → (c.length : Int) ≤ a ∧ r ≤ a) := by
  simp only [laws_szCells.f, laws_szIntS.f]
  rw [wrap64_id (x := a - (c.length : Int)) (by omega) (by omega)]
  by_cases h : a - (c.length : Int) < 0
  · exact ⟨-1, by simp [h], by omega⟩
  · exact ⟨a - (c.length : Int), by simp only [h, if_false, Option.bind_some], by omega⟩
end Go.Proofs.Ytcldlljnaijmhaa.Pure
/-
Own text: good trips: the program and the reference come to the same; the laws' helpers on trips.
-/
namespace Go.Proofs.Ytcldlljnaijmhaa.Pure
open Go.RowKit Go.Proofs.YtcldlljnaijmhaaW.PrintWords Go.Proofs.YtcldlljnaijmhaaW.PrintLast Go.Proofs.Ytcldlljnaijmhaa.Pr Go.Proofs.Ytcldlljnaijmhaa.EvKit
open Classical

def TR (l : List S49) (i : Nat) : S49 := l.getD i z49
/-- Trip i is fine: both ends free, no end shared with an earlier one. -/
def Tr1 (c : List Int) (l : List S49) (i : Nat) : Prop := (Fr c (TR l i).f0 ∧ Fr c (TR l i).f1) ∧ From i 0 fun j => ¬ (TR l j).f0 = (TR l i).f0 ∧ ¬ (TR l j).f1 = (TR l i).f1
/-- Good trips. -/
def Gt (w : Int) (c : List Int) (l : List S49) : Prop := Cl w c ∧ l.length ≤ 5 ∧ From l.length 0 (Tr1 c l)

theorem trips_l1 (w : Int) (c : List Int) (l : List S49) (hn : l.length ≤ 5) (i : Nat) (hi : i < l.length) (r : Bool)
    (h1 : (From i 0 fun j => ¬ (TR l j).f0 = (TR l i).f0 ∧ ¬ (TR l j).f1 = (TR l i).f1) → Ev (fun k => impl_GoodTrips.l0 k l l (l.length : Int) ((i + 1 : Nat) : Int) w c) r ∧ Ev (fun k => spec_GoodTrips.l0 k l l (l.length : Int) ((i + 1 : Nat) : Int) w c) r)
    (h2 : ¬ (From i 0 fun j => ¬ (TR l j).f0 = (TR l i).f0 ∧ ¬ (TR l j).f1 = (TR l i).f1) → r = false) (d : Nat) : ∀ j : Nat, j + d = i → (From j 0 fun j => ¬ (TR l j).f0 = (TR l i).f0 ∧ ¬ (TR l j).f1 = (TR l i).f1) →
    Ev (fun k => impl_GoodTrips.l1 k l l (l.length : Int) i (l.take i) (((l.take i).length : Nat) : Int) j w c (TR l i).f0 (TR l i).f1) r ∧ Ev (fun k => spec_GoodTrips.l1 k l i j l (l.length : Int) i w c (TR l i).f0 (TR l i).f1) r := by
  have htl : (l.take i).length = i := by simp; omega
  induction d with
  | zero =>
    intro j hj hu
    obtain ⟨a, b⟩ := h1 (by have e : j = i := by omega
                            subst e
                            exact hu)
    refine ⟨Ev.succ ?_, Ev.succ ?_⟩
    · simp only [impl_GoodTrips.l1, htl, succ_w (show i < 35184372088833 by omega)]
      exact Ev.neg (by omega) a
    · simp only [spec_GoodTrips.l1, succ_w (show i < 35184372088833 by omega)]
      exact Ev.neg (by omega) b
  | succ d ih =>
    intro j hj hu
    have e0 : rd_T49 (l.take i) (j : Int) = TR l j := by
      unfold rd_T49 TR
      simp [List.getD_eq_getElem?_getD, show j < i by omega]
    have e1 : rd_T49 l (j : Int) = TR l j := rfl
    have bad : ¬ (¬ (TR l j).f0 = (TR l i).f0 ∧ ¬ (TR l j).f1 = (TR l i).f1) → r = false := fun h => h2 (fun a => h (a j (by omega) (by omega)))
    by_cases h0 : ¬ (TR l j).f0 = (TR l i).f0 ∧ ¬ (TR l j).f1 = (TR l i).f1
    · obtain ⟨a, b⟩ := ih (j + 1) (by omega) (fun q _ hq2 => by
        by_cases e : q = j
        · exact e ▸ h0
        · exact hu q (by omega) (by omega))
      rw [htl] at a
      refine ⟨Ev.succ ?_, Ev.succ ?_⟩
      · simp only [impl_GoodTrips.l1, htl, e0, succ_w (show j < 35184372088833 by omega)]
        exact Ev.pos (by omega) (Ev.pos (by omega) (Ev.pos (by omega) (Ev.neg h0.1 (Ev.neg h0.2 a))))
      · simp only [spec_GoodTrips.l1, e1, succ_w (show j < 35184372088833 by omega)]
        exact Ev.pos (by omega) (Ev.pos (by omega) (Ev.pos (by omega) (Ev.neg h0.1 (Ev.neg h0.2 b))))
    · have e := bad h0
      refine ⟨Ev.succ ?_, Ev.succ ?_⟩
      · simp only [impl_GoodTrips.l1, htl, e0]
        exact Ev.pos (by omega) (Ev.pos (by omega) (Ev.pos (by omega) (Ev.ite (fun _ => Ev.some e.symm) (fun h => Ev.pos (Classical.byContradiction fun h' => h0 ⟨h, h'⟩) (Ev.some e.symm)))))
      · simp only [spec_GoodTrips.l1, e1]
        exact Ev.pos (by omega) (Ev.pos (by omega) (Ev.pos (by omega) (Ev.ite (fun _ => Ev.some e.symm) (fun h => Ev.pos (Classical.byContradiction fun h' => h0 ⟨h, h'⟩) (Ev.some e.symm)))))

theorem trips_l0 (w : Int) (c : List Int) (l : List S49) (hn : l.length ≤ 5) (d : Nat) : ∀ i : Nat, i + d = l.length →
    Ev (fun k => impl_GoodTrips.l0 k l l (l.length : Int) i w c) (decide (From l.length i (Tr1 c l))) ∧ Ev (fun k => spec_GoodTrips.l0 k l l (l.length : Int) i w c) (decide (From l.length i (Tr1 c l))) := by
  induction d with
  | zero =>
    intro i hi
    have e : decide (From l.length i (Tr1 c l)) = true := by
      rw [decide_eq_true_eq]
      exact From.end_ (by omega)
    rw [e]
    refine ⟨Ev.succ ?_, Ev.succ ?_⟩
    · simp only [impl_GoodTrips.l0]
      exact Ev.neg (by omega) (Ev.some rfl)
    · simp only [spec_GoodTrips.l0]
      exact Ev.neg (by omega) (Ev.some rfl)
  | succ d ih =>
    intro i hi
    have step := From.step (n := l.length) (i := i) (C := Tr1 c l) (by omega)
    have e1 : rd_T49 l (i : Int) = TR l i := rfl
    have nx := ih (i + 1) (by omega)
    have htl : (l.take i).length = i := by simp; omega
    generalize hR : decide (From l.length i (Tr1 c l)) = R
    have bad : ¬ Tr1 c l i → R = false := fun h => by rw [← hR, decide_eq_false_iff_not]; exact fun x => h (step.1 x).1
    have good : Tr1 c l i → R = decide (From l.length (i + 1) (Tr1 c l)) := fun h => by rw [← hR, decide_eq_decide]; exact ⟨fun x => (step.1 x).2, fun x => step.2 ⟨h, x⟩⟩
    have jno : (¬ (Fr c (TR l i).f0 ∧ Fr c (TR l i).f1)) → Ev (fun k => impl_GoodTrips.j2 k l i l (l.length : Int) i true w c (TR l i).f0 (TR l i).f1) R ∧ Ev (fun k => spec_GoodTrips.j2 k l i l (l.length : Int) i true w c (TR l i).f0 (TR l i).f1) R := by
      intro h
      have e := bad (fun x => h x.1)
      refine ⟨Ev.succ ?_, Ev.succ ?_⟩
      · simp only [impl_GoodTrips.j2, if_true]
        exact Ev.some e.symm
      · simp only [spec_GoodTrips.j2, if_true]
        exact Ev.some e.symm
    have jyes : Fr c (TR l i).f0 ∧ Fr c (TR l i).f1 → Ev (fun k => impl_GoodTrips.j2 k l i l (l.length : Int) i false w c (TR l i).f0 (TR l i).f1) R ∧ Ev (fun k => spec_GoodTrips.j2 k l i l (l.length : Int) i false w c (TR l i).f0 (TR l i).f1) R := by
      intro h
      obtain ⟨a, b⟩ := trips_l1 w c l hn i (by omega) R (fun x => by rw [good ⟨h, x⟩]; exact nx) (fun x => bad (fun y => x y.2)) i 0 (by omega) (fun q hq hq2 => by omega)
      refine ⟨Ev.succ ?_, Ev.succ ?_⟩
      · simp only [impl_GoodTrips.j2, Bool.false_eq_true, if_false, Option.bind_some, Int.toNat_natCast]
        exact Ev.pos (by omega) (Ev.pos (by omega) a)
      · simp only [spec_GoodTrips.j2, Bool.false_eq_true, if_false]
        exact b
    by_cases ha : Fr c (TR l i).f0
    · by_cases hb : Fr c (TR l i).f1
      · obtain ⟨a, b⟩ := jyes ⟨ha, hb⟩
        refine ⟨Ev.succ ?_, Ev.succ ?_⟩
        · simp only [impl_GoodTrips.l0, e1]
          refine Ev.pos (by omega) (Ev.pos (by omega) (Ev.pos (by omega) (Ev.bnd0 (free_impl w c _) (Ev.pos (by simpa using ha) (Ev.bnd0 (free_impl w c _) ?_)))))
          rw [decide_eq_true hb]
          exact a
        · simp only [spec_GoodTrips.l0, e1]
          refine Ev.pos (by omega) (Ev.pos (by omega) (Ev.pos (by omega) (Ev.bnd0 (free_spec w c _) (Ev.pos (by simpa using ha) (Ev.bnd0 (free_spec w c _) ?_)))))
          rw [decide_eq_true hb]
          exact b
      · obtain ⟨a, b⟩ := jno (fun x => hb x.2)
        refine ⟨Ev.succ ?_, Ev.succ ?_⟩
        · simp only [impl_GoodTrips.l0, e1]
          refine Ev.pos (by omega) (Ev.pos (by omega) (Ev.pos (by omega) (Ev.bnd0 (free_impl w c _) (Ev.pos (by simpa using ha) (Ev.bnd0 (free_impl w c _) ?_)))))
          rw [decide_eq_false hb]
          exact a
        · simp only [spec_GoodTrips.l0, e1]
          refine Ev.pos (by omega) (Ev.pos (by omega) (Ev.pos (by omega) (Ev.bnd0 (free_spec w c _) (Ev.pos (by simpa using ha) (Ev.bnd0 (free_spec w c _) ?_)))))
          rw [decide_eq_false hb]
          exact b
    · obtain ⟨a, b⟩ := jno (fun x => ha x.1)
      refine ⟨Ev.succ ?_, Ev.succ ?_⟩
      · simp only [impl_GoodTrips.l0, e1]
        exact Ev.pos (by omega) (Ev.pos (by omega) (Ev.pos (by omega) (Ev.bnd0 (free_impl w c _) (Ev.neg (by simpa using ha) a))))
      · simp only [spec_GoodTrips.l0, e1]
        exact Ev.pos (by omega) (Ev.pos (by omega) (Ev.pos (by omega) (Ev.bnd0 (free_spec w c _) (Ev.neg (by simpa using ha) b))))

theorem goodTrips_both (w : Int) (c : List Int) (l : List S49) (hn : c.length ≤ 35184372088832) : Ev (fun k => impl_GoodTrips.f k w c l) (decide (Gt w c l)) ∧ Ev (fun k => spec_GoodTrips.f k w c l) (decide (Gt w c l)) := by
  have no : ¬ Gt w c l → Ev (fun k => impl_GoodTrips.j0 k l true w c) (decide (Gt w c l)) ∧ Ev (fun k => spec_GoodTrips.j0 k l true w c) (decide (Gt w c l)) := by
    intro h
    rw [decide_eq_false h]
    refine ⟨Ev.succ ?_, Ev.succ ?_⟩
    · simp only [impl_GoodTrips.j0, if_true]; exact Ev.some rfl
    · simp only [spec_GoodTrips.j0, if_true]; exact Ev.some rfl
  simp only [impl_GoodTrips.f, spec_GoodTrips.f]
  by_cases hc : Cl w c
  · by_cases h5 : (l.length : Int) > 5
    · obtain ⟨a, b⟩ := no (fun x => by have := x.2.1; omega)
      rw [decide_eq_true h5]
      exact ⟨Ev.bnd (goodCells_impl w c hn) (Ev.pos (by simpa using hc) a), Ev.bnd (goodCells_spec w c hn) (Ev.pos (by simpa using hc) b)⟩
    · obtain ⟨a, b⟩ := trips_l0 w c l (by omega) l.length 0 (by omega)
      have e : decide (Gt w c l) = decide (From l.length 0 (Tr1 c l)) := by
        rw [decide_eq_decide]
        exact ⟨fun x => x.2.2, fun x => ⟨hc, by omega, x⟩⟩
      rw [e, decide_eq_false h5]
      refine ⟨Ev.bnd (goodCells_impl w c hn) (Ev.pos (by simpa using hc) (Ev.succ ?_)), Ev.bnd (goodCells_spec w c hn) (Ev.pos (by simpa using hc) (Ev.succ ?_))⟩
      · simp only [impl_GoodTrips.j0, Bool.false_eq_true, if_false]; exact a
      · simp only [spec_GoodTrips.j0, Bool.false_eq_true, if_false]; exact b
  · obtain ⟨a, b⟩ := no (fun x => hc x.1)
    exact ⟨Ev.bnd (goodCells_impl w c hn) (Ev.neg (by simpa using hc) a), Ev.bnd (goodCells_spec w c hn) (Ev.neg (by simpa using hc) b)⟩

/-! ### the laws' helpers -/
end Go.Proofs.Ytcldlljnaijmhaa.Pure
/-
Own text: what the laws' own helpers on [][]int come to: their size, a copy, a comparison.
-/
namespace Go.Proofs.Ytcldlljnaijmhaa.Pure
open Go.RowKit Go.Proofs.YtcldlljnaijmhaaW.PrintWords Go.Proofs.YtcldlljnaijmhaaW.PrintLast Go.Proofs.Ytcldlljnaijmhaa.Pr Go.Proofs.Ytcldlljnaijmhaa.EvKit

end Go.Proofs.Ytcldlljnaijmhaa.Pure
/-
Own text: the first tick at which two paths meet: the program and the reference come to the same.
-/
namespace Go.Proofs.Ytcldlljnaijmhaa.Pure
open Go.RowKit Go.Proofs.YtcldlljnaijmhaaW.PrintWords Go.Proofs.YtcldlljnaijmhaaW.PrintLast Go.Proofs.Ytcldlljnaijmhaa.Pr Go.Proofs.Ytcldlljnaijmhaa.EvKit
open Classical

def P_ (l : List (List Int)) (i k : Nat) : Int := (l.getD i []).getD k 0
/-- At the tick k path i meets path j. -/
def Hit (l : List (List Int)) (k i j : Nat) : Prop := P_ l i k = P_ l j k ∨ (0 < k ∧ P_ l i k = P_ l j (k - 1) ∧ P_ l j k = P_ l i (k - 1))
/-- At the tick k two meet, the later one from i on. -/
def Two (l : List (List Int)) (k i : Nat) : Prop := Some_ l.length i fun p => Some_ p 0 (Hit l k p)

end Go.Proofs.Ytcldlljnaijmhaa.Pure
/-
Own text: where a cell lies: its column and its row; the cell beside it.
-/
namespace Go.Proofs.Ytcldlljnaijmhaa.Pure
open Go.RowKit Go.Proofs.YtcldlljnaijmhaaW.PrintWords Go.Proofs.YtcldlljnaijmhaaW.PrintLast Go.Proofs.Ytcldlljnaijmhaa.Pr Go.Proofs.Ytcldlljnaijmhaa.EvKit
open Classical

def X_ (w a : Int) : Int := a % w
def Y_ (w a : Int) : Int := a / w
/-- How many rows. -/
def H_ (w : Int) (c : List Int) : Int := (c.length : Int) / w

section
variable {w : Int} {c : List Int}
theorem Cl.w1 (h : Cl w c) : 1 ≤ w := h.1.1
theorem Cl.w16 (h : Cl w c) : w ≤ 16 := h.1.2.1
theorem Cl.h16 (h : Cl w c) : H_ w c ≤ 16 := h.1.2.2.2.2
theorem Cl.wh (h : Cl w c) : H_ w c * w = c.length := by
  have h1 := Int.mul_ediv_add_emod (c.length : Int) w
  rw [h.1.2.2.1, Int.add_zero, Int.mul_comm] at h1
  exact h1
theorem Cl.h1 (h : Cl w c) : 1 ≤ H_ w c := (Int.le_ediv_iff_mul_le (by have := h.w1; omega)).2 (by rw [Int.one_mul]; exact h.1.2.2.2.1)
theorem mul_le16 {x y : Int} (hx : 0 ≤ x) (hx2 : x ≤ 16) (hy : 0 ≤ y) (hy2 : y ≤ 16) : x * y ≤ 256 ∧ 0 ≤ x * y := by
  have h1 := Int.mul_le_mul hx2 hy2 hy (by omega : (0 : Int) ≤ 16)
  exact ⟨by omega, Int.mul_nonneg hx hy⟩
theorem XY (w a : Int) : Y_ w a * w + X_ w a = a := by
  have := Int.mul_ediv_add_emod a w
  rw [Int.mul_comm] at this
  exact this
theorem X_range (h : Cl w c) (a : Int) : 0 ≤ X_ w a ∧ X_ w a < w := ⟨Int.emod_nonneg _ (by have := h.w1; omega), Int.emod_lt_of_pos _ (by have := h.w1; omega)⟩
theorem Y_range (h : Cl w c) {a : Int} (h0 : 0 ≤ a) (h1 : a < c.length) : 0 ≤ Y_ w a ∧ Y_ w a < H_ w c := by
  refine ⟨Int.ediv_nonneg h0 (by have := h.w1; omega), Int.ediv_lt_of_lt_mul (by have := h.w1; omega) ?_⟩
  rw [h.wh]
  exact h1
theorem cell_in (h : Cl w c) {x y : Int} (hx : 0 ≤ x) (hx2 : x < w) (hy : 0 ≤ y) (hy2 : y < H_ w c) : 0 ≤ y * w + x ∧ y * w + x < c.length := by
  have h1 := Int.mul_nonneg hy (show 0 ≤ w by omega)
  have h2 := Int.mul_le_mul_of_nonneg_right (show y ≤ H_ w c - 1 by omega) (show 0 ≤ w by omega)
  have h3 := h.wh
  rw [Int.sub_mul, Int.one_mul] at h2
  omega
theorem X_cell {x : Int} (hx : 0 ≤ x) (hx2 : x < w) (y : Int) : X_ w (y * w + x) = x := by
  unfold X_
  rw [Int.add_comm, Int.add_mul_emod_self_right]
  exact Int.emod_eq_of_lt hx hx2
theorem Y_cell {x : Int} (hx : 0 ≤ x) (hx2 : x < w) (y : Int) : Y_ w (y * w + x) = y := by
  have h1 := XY w (y * w + x)
  rw [X_cell hx hx2] at h1
  have h2 : Y_ w (y * w + x) * w = y * w := by omega
  exact Int.eq_of_mul_eq_mul_right (by omega) h2
theorem tmod_X {a : Int} (h : 0 ≤ a) : a.tmod w = X_ w a := Int.tmod_eq_emod_of_nonneg h
theorem tdiv_Y {a : Int} (h : 0 ≤ a) : a.tdiv w = Y_ w a := Int.tdiv_eq_ediv_of_nonneg h

/-- The cell beside one, -1 beyond the edge. -/
noncomputable def Nx (w : Int) (c : List Int) (a dx dy : Int) : Int :=
  if 0 ≤ X_ w a + dx ∧ X_ w a + dx < w ∧ 0 ≤ Y_ w a + dy ∧ Y_ w a + dy < H_ w c then (Y_ w a + dy) * w + (X_ w a + dx) else -1
theorem next_eq (h : Cl w c) {a dx dy : Int} (h0 : 0 ≤ a) (h1 : a < c.length) (hx : -100 ≤ dx ∧ dx ≤ 100) (hy : -100 ≤ dy ∧ dy ≤ 100) : impl_Cells_next.f w c a dx dy = some (Nx w c a dx dy) := by
  have hX := X_range h a
  have hY := Y_range h h0 h1
  have hw := h.w1
  have hw2 := h.w16
  have hH := h.h16
  unfold impl_Cells_next.f
  rw [if_neg (by omega), tmod_X h0, tdiv_Y h0, show (c.length : Int) / w = H_ w c from rfl]
  rw [wrap64_id (x := Y_ w a) (by omega) (by omega), wrap64_id (x := H_ w c) (by omega) (by omega), wrap64_id (x := X_ w a + dx) (by omega) (by omega), wrap64_id (x := Y_ w a + dy) (by omega) (by omega)]
  by_cases c1 : X_ w a + dx < 0
  · rw [if_pos c1]
    unfold Nx
    rw [if_neg (by omega)]
  · rw [if_neg c1]
    by_cases c2 : X_ w a + dx ≥ w
    · rw [if_pos c2]
      unfold Nx
      rw [if_neg (by omega)]
    · rw [if_neg c2]
      by_cases c3 : Y_ w a + dy < 0
      · rw [if_pos c3]
        unfold Nx
        rw [if_neg (by omega)]
      · rw [if_neg c3]
        by_cases c4 : Y_ w a + dy ≥ H_ w c
        · rw [if_pos c4]
          unfold Nx
          rw [if_neg (by omega)]
        · rw [if_neg c4]
          have hm := mul_le16 (x := Y_ w a + dy) (y := w) (by omega) (by omega) (by omega) hw2
          rw [wrap64_id (x := (Y_ w a + dy) * w) (by omega) (by omega), wrap64_id (by omega) (by omega)]
          unfold Nx
          rw [if_pos (by omega)]
end
end Go.Proofs.Ytcldlljnaijmhaa.Pure
/-
Own text, by hand: what (Cells).along comes to: the cell beside in one of the four ways.
-/
namespace Go.Proofs.Ytcldlljnaijmhaa.Pr
open Go.RowKit Go.Proofs.YtcldlljnaijmhaaW.PrintWords Go.Proofs.YtcldlljnaijmhaaW.PrintLast
def impl_Cells_along.f (a0_0 : Int) (l0_1 : List Int) (a1 : Int) (a2 : Int) : Option Int :=
  if a2 = 0 then impl_Cells_next.f a0_0 l0_1 a1 1 0 else if a2 = 1 then impl_Cells_next.f a0_0 l0_1 a1 0 1 else if a2 = 2 then impl_Cells_next.f a0_0 l0_1 a1 (-1) 0 else if a2 = 3 then impl_Cells_next.f a0_0 l0_1 a1 0 (-1) else none
end Go.Proofs.Ytcldlljnaijmhaa.Pr
-- Written by this session's own print (wip/tools/mkmp.py) out of the translation. Lean checks it.
namespace Go.Proofs.Ytcldlljnaijmhaa.Pr
open Go.RowKit Go.Proofs.YtcldlljnaijmhaaW.PrintWords Go.Proofs.YtcldlljnaijmhaaW.PrintLast Go.Proofs.YtcldlljnaijmhaaW.PrintMore
attribute [local go_sem] max2_int min2_int max_two min_two max_three min_three max_four min_four   -- for this text's walks alone
set_option linter.unusedVariables false
set_option linter.unusedSimpArgs false

/-! ### impl_Cells_goes: function 58 -/
def impl_Cells_goes.l0 : Nat → List Int → List Int → Int → Int → Int → List Int → Option (List Int)
  | 0, _, _, _, _, _, _ => none
  | k + 1, x5, x21, x22, x23, x245000, x245001 => if x23 < x22 then (if 0 ≤ x23 then (if x23 < (x21.length : Int) then ((impl_Cells_free.f x245000 x245001 (rd x21 x23)).bind fun t253 => (if t253 = true then (if x5.length < 17592186044416 then (impl_Cells_goes.l0 k (x5 ++ [rd x21 x23]) x21 x22 (wrap64 (x23 + 1)) x245000 x245001) else (none)) else (impl_Cells_goes.l0 k x5 x21 x22 (wrap64 (x23 + 1)) x245000 x245001))) else (none)) else (none)) else (some x5)
def impl_Cells_goes.f (k : Nat) (a0_0 : Int) (l0_1 : List Int) (a1 : Int) : Option (List Int) := (impl_Cells_along.f a0_0 l0_1 a1 3).bind fun t245 => ((impl_Cells_along.f a0_0 l0_1 a1 2).bind fun t246 => ((impl_Cells_along.f a0_0 l0_1 a1 0).bind fun t247 => ((impl_Cells_along.f a0_0 l0_1 a1 1).bind fun t248 => ((some (([t245, t246, a1, t247, t248] : List Int) : List Int)).bind fun y249 => (impl_Cells_goes.l0 k ([] : List Int) y249 (y249.length : Int) 0 a0_0 l0_1)))))
/-! ### impl_GoodPaths: function 37 -/
/-! ### laws_FnExactGoodPaths: function 8 -/
/-! ### spec_AloneTicks: function 31 -/
end Go.Proofs.Ytcldlljnaijmhaa.Pr
/-
Own text: good paths: the places to go next, the two checks.
-/
namespace Go.Proofs.Ytcldlljnaijmhaa.Pure
open Go.RowKit Go.Proofs.YtcldlljnaijmhaaW.PrintWords Go.Proofs.YtcldlljnaijmhaaW.PrintLast Go.Proofs.Ytcldlljnaijmhaa.Pr Go.Proofs.Ytcldlljnaijmhaa.EvKit
open Classical

/-- n if n is the number of a free cell, else -1. -/
noncomputable def Fo (c : List Int) (n : Int) : Int := if Fr c n then n else -1

theorem l12_go {w : Int} {c : List Int} (h : Cl w c) {x y : Int} (_ : -9 ≤ x ∧ x ≤ 99) (hy : -9 ≤ y ∧ y ≤ 99) :
    ((spec_l12Has.f w (c.length : Int) x y).bind fun t => (if t = true then (if 0 ≤ (wrap64 ((wrap64 (y * w)) + x)) then (if (wrap64 ((wrap64 (y * w)) + x)) < (c.length : Int) then (if (rd c (wrap64 ((wrap64 (y * w)) + x))) = 0 then (some (wrap64 ((wrap64 (y * w)) + x))) else (some (-1))) else (none)) else (none)) else (some (-1)))) = some (Fo c (if 0 ≤ x ∧ x < w ∧ 0 ≤ y ∧ y < H_ w c then y * w + x else -1)) := by
  have hw := h.w1
  have hw2 := h.w16
  have hH := h.h16
  have hH1 := h.h1
  have hn : ¬ Fr c (-1) := fun a => by have := a.1; omega
  have hd : wrap64 ((c.length : Int).tdiv w) = H_ w c := by
    rw [Int.tdiv_eq_ediv_of_nonneg (by omega), show (c.length : Int) / w = H_ w c from rfl, wrap64_id (by omega) (by omega)]
  have has : spec_l12Has.f w (c.length : Int) x y = some (decide (0 ≤ x ∧ x < w ∧ 0 ≤ y ∧ y < H_ w c)) := by
    unfold spec_l12Has.f
    rw [hd]
    by_cases a1 : x ≥ 0
    · rw [if_pos a1]
      by_cases a2 : x < w
      · rw [if_pos a2]
        by_cases a3 : y ≥ 0
        · rw [if_pos a3, if_neg (by omega)]
          simp [show 0 ≤ x from a1, a2, show 0 ≤ y from a3]
        · rw [if_neg a3]
          simp [show ¬ 0 ≤ y from a3]
      · rw [if_neg a2]
        simp [a2]
    · rw [if_neg a1]
      simp [show ¬ 0 ≤ x from a1]
  rw [has, Option.bind_some]
  by_cases hin : 0 ≤ x ∧ x < w ∧ 0 ≤ y ∧ y < H_ w c
  · have hm := mul_le16 (x := y) (y := w) (by omega) (by omega) (by omega) hw2
    have hc := cell_in h hin.1 hin.2.1 hin.2.2.1 hin.2.2.2
    rw [if_pos (by simpa using hin), if_pos hin, wrap64_id (x := y * w) (by omega) (by omega), wrap64_id (x := y * w + x) (by omega) (by omega), if_pos hc.1, if_pos hc.2]
    have e : rd c (y * w + x) = c.getD (y * w + x).toNat 0 := rfl
    rw [e]
    unfold Fo
    by_cases hz : c.getD (y * w + x).toNat 0 = 0
    · rw [if_pos hz, if_pos (show Fr c _ from And.intro hc.1 (And.intro hc.2 hz))]
    · rw [if_neg hz, if_neg (show ¬ Fr c _ from fun a => hz a.2.2)]
  · rw [if_neg (by simpa using hin), if_neg hin]
    unfold Fo
    rw [if_neg hn]

/-- The way's step, as both name it. -/
def dX (k : Int) : Int := if k = 0 then 1 else if k = 1 then 0 else if k = 2 then -1 else 0
def dY (k : Int) : Int := if k = 0 then 0 else if k = 1 then 1 else if k = 2 then 0 else -1

theorem along_eq {w : Int} {c : List Int} (h : Cl w c) {a : Int} (h0 : 0 ≤ a) (h1 : a < c.length) (k : Int) (hk : 0 ≤ k) (hk2 : k ≤ 3) : impl_Cells_along.f w c a k = some (Nx w c a (dX k) (dY k)) := by
  unfold impl_Cells_along.f
  have : k = 0 ∨ k = 1 ∨ k = 2 ∨ k = 3 := by omega
  rcases this with rfl | rfl | rfl | rfl <;> simp only [Int.reduceEq, if_true, if_false] <;> exact next_eq h h0 h1 (by decide) (by decide)

theorem l12_eq {w : Int} {c : List Int} (h : Cl w c) {a : Int} (h0 : 0 ≤ a) (h1 : a < c.length) (k : Int) (hk : 0 ≤ k) (hk2 : k ≤ 3) : spec_l12Next.f w c a k = some (Fo c (Nx w c a (dX k) (dY k))) := by
  have hX := X_range h a
  have hY := Y_range h h0 h1
  have hw := h.w1
  have hw2 := h.w16
  have hH := h.h16
  unfold spec_l12Next.f
  rw [if_neg (by omega), tmod_X h0, tdiv_Y h0, wrap64_id (x := Y_ w a) (by omega) (by omega), wrap64_id (x := X_ w a + 1) (by omega) (by omega), wrap64_id (x := Y_ w a + 1) (by omega) (by omega), wrap64_id (x := X_ w a - 1) (by omega) (by omega), wrap64_id (x := Y_ w a - 1) (by omega) (by omega)]
  have : k = 0 ∨ k = 1 ∨ k = 2 ∨ k = 3 := by omega
  rcases this with rfl | rfl | rfl | rfl <;> simp only [Int.reduceEq, if_true, if_false] <;> rw [l12_go h (by omega) (by omega)] <;> unfold Nx dX dY <;> simp only [Int.reduceEq, if_true, if_false, Int.add_zero] <;> rfl

theorem next_l0 (ys : List Int) (hn : ys.length ≤ 100) (d : Nat) : ∀ (i : Nat) (acc : List Int), i + d = ys.length → acc.length ≤ i → Ev (fun k => spec_l20Next.l0 k acc ys (ys.length : Int) i) (acc ++ (ys.drop i).filter fun v => decide (v ≥ 0)) := by
  induction d with
  | zero =>
    intro i acc hi ha
    apply Ev.succ
    simp only [spec_l20Next.l0]
    rw [List.drop_eq_nil_of_le (by omega)]
    exact Ev.neg (by omega) (Ev.some (by simp))
  | succ d ih =>
    intro i acc hi ha
    apply Ev.succ
    have e : rd ys (i : Int) = ys[i]'(by omega) := by
      unfold rd
      rw [List.getD_eq_getElem?_getD, Int.toNat_natCast, List.getElem?_eq_getElem (by omega)]
      rfl
    rw [List.drop_eq_getElem_cons (show i < ys.length by omega), List.filter_cons]
    simp only [spec_l20Next.l0, e, succ_w (show i < 35184372088833 by omega)]
    refine Ev.pos (by omega) (Ev.pos (by omega) (Ev.pos (by omega) (Ev.ite (fun hp => Ev.pos (by omega) ?_) (fun hp => ?_))))
    · rw [if_pos (by simpa using hp)]
      exact Ev.eq (ih (i + 1) (acc ++ [ys[i]'(by omega)]) (by omega) (by simp; omega)) (by simp)
    · rw [if_neg (by simpa using hp)]
      exact ih (i + 1) acc (by omega) (by omega)
theorem goes_l0 (w : Int) (c : List Int) (ys : List Int) (hn : ys.length ≤ 100) (d : Nat) : ∀ (i : Nat) (acc : List Int), i + d = ys.length → acc.length ≤ i → Ev (fun k => impl_Cells_goes.l0 k acc ys (ys.length : Int) i w c) (acc ++ (ys.drop i).filter fun v => decide (Fr c v)) := by
  induction d with
  | zero =>
    intro i acc hi ha
    apply Ev.succ
    simp only [impl_Cells_goes.l0]
    rw [List.drop_eq_nil_of_le (by omega)]
    exact Ev.neg (by omega) (Ev.some (by simp))
  | succ d ih =>
    intro i acc hi ha
    apply Ev.succ
    have e : rd ys (i : Int) = ys[i]'(by omega) := by
      unfold rd
      rw [List.getD_eq_getElem?_getD, Int.toNat_natCast, List.getElem?_eq_getElem (by omega)]
      rfl
    rw [List.drop_eq_getElem_cons (show i < ys.length by omega), List.filter_cons]
    simp only [impl_Cells_goes.l0, e, succ_w (show i < 35184372088833 by omega)]
    refine Ev.pos (by omega) (Ev.pos (by omega) (Ev.pos (by omega) (Ev.bnd0 (free_impl w c _) (Ev.ite (fun hp => Ev.pos (by omega) ?_) (fun hp => ?_)))))
    · rw [if_pos hp]
      exact Ev.eq (ih (i + 1) (acc ++ [ys[i]'(by omega)]) (by omega) (by simp; omega)) (by simp)
    · rw [if_neg hp]
      exact ih (i + 1) acc (by omega) (by omega)

/-- Where one may be a tick later. -/
noncomputable def Gos (w : Int) (c : List Int) (a : Int) : List Int := ([Nx w c a 0 (-1), Nx w c a (-1) 0, a, Nx w c a 1 0, Nx w c a 0 1]).filter fun v => decide (Fr c v)
theorem Gos_free {w : Int} {c : List Int} {a v : Int} (h : v ∈ Gos w c a) : Fr c v := by
  have := (List.mem_filter.1 h).2
  simpa using this
theorem fo_cons (c : List Int) (n : Int) (l m : List Int) (h : l = m) : (if decide (Fo c n ≥ 0) = true then Fo c n :: l else l) = if decide (Fr c n) = true then n :: m else m := by
  subst h
  unfold Fo
  by_cases hf : Fr c n
  · rw [if_pos hf, if_pos (by simpa using hf.1), if_pos (by simpa using hf)]
  · rw [if_neg hf, if_neg (by simp), if_neg (by simpa using hf)]
theorem goes_ev {w : Int} {c : List Int} (h : Cl w c) {a : Int} (hf : Fr c a) : Ev (fun k => impl_Cells_goes.f k w c a) (Gos w c a) ∧ Ev (fun k => spec_l20Next.f k w c a) (Gos w c a) := by
  have h0 := hf.1
  have h1 := hf.2.1
  constructor
  · simp only [impl_Cells_goes.f, along_eq h h0 h1 3 (by omega) (by omega), along_eq h h0 h1 2 (by omega) (by omega), along_eq h h0 h1 0 (by omega) (by omega), along_eq h h0 h1 1 (by omega) (by omega), Option.bind_some]
    have := goes_l0 w c [Nx w c a (dX 3) (dY 3), Nx w c a (dX 2) (dY 2), a, Nx w c a (dX 0) (dY 0), Nx w c a (dX 1) (dY 1)] (by simp) 5 0 [] rfl (Nat.le_refl _)
    exact this
  · simp only [spec_l20Next.f, l12_eq h h0 h1 3 (by omega) (by omega), l12_eq h h0 h1 2 (by omega) (by omega), l12_eq h h0 h1 0 (by omega) (by omega), l12_eq h h0 h1 1 (by omega) (by omega), Option.bind_some]
    have := next_l0 [Fo c (Nx w c a (dX 3) (dY 3)), Fo c (Nx w c a (dX 2) (dY 2)), a, Fo c (Nx w c a (dX 0) (dY 0)), Fo c (Nx w c a (dX 1) (dY 1))] (by simp) 5 0 [] rfl (Nat.le_refl _)
    refine Ev.eq this ?_
    have ea : a = Fo c a := by unfold Fo; rw [if_pos hf]
    unfold Gos
    rw [List.nil_append, List.drop_zero]
    conv => lhs; arg 2; arg 2; arg 2; arg 1; rw [ea]
    simp only [List.filter_cons, List.filter_nil]
    exact fo_cons c _ _ _ (fo_cons c _ _ _ (fo_cons c _ _ _ (fo_cons c _ _ _ (fo_cons c _ _ _ rfl))))

end Go.Proofs.Ytcldlljnaijmhaa.Pure
/-
Own text: a map without deletions, told by the list of its keys and values in the order in which they came.
-/
namespace Go.Proofs.Ytcldlljnaijmhaa.Mp
open Go.MapKept Go.ChangeMaps
set_option linter.unusedVariables false
set_option linter.unusedSimpArgs false

section
variable {α β : Type}
/-- The entries, numbered from n on. -/
def ents (ek : α → Value) (ev : β → Value) : Nat → List (α × β) → List MapEntry
  | _, [] => []
  | n, (a, b) :: l => { key := ek a, val := ev b, born := n } :: ents ek ev (n + 1) l
/-- The map's block. -/
def mobj (ek : α → Value) (ev : β → Value) (L : List (α × β)) : Obj := .map (ents ek ev 0 L).toArray L.length
variable [DecidableEq α]
/-- What stands at a key. -/
def lk : List (α × β) → α → Option β
  | [], _ => none
  | (a, b) :: l, x => if x = a then some b else lk l x
/-- .. and where. -/
def place : List (α × β) → α → Option (Nat × β)
  | [], _ => none
  | (a, b) :: l, x => if x = a then some (0, b) else (place l x).map fun p => (p.1 + 1, p.2)
/-- m[x] = v. -/
def put : List (α × β) → α → β → List (α × β)
  | [], x, v => [(x, v)]
  | (a, b) :: l, x, v => if x = a then (a, v) :: l else (a, b) :: put l x v
theorem place_lk (L : List (α × β)) (x : α) : (place L x).map Prod.snd = lk L x := by
  induction L with
  | nil => rfl
  | cons p l ih =>
    obtain ⟨a, b⟩ := p
    simp only [place, lk]
    split
    · rfl
    · rw [← ih]
      cases place l x <;> rfl
theorem lk_put (L : List (α × β)) (x y : α) (v : β) : lk (put L x v) y = if y = x then some v else lk L y := by
  induction L with
  | nil => simp only [put, lk]
  | cons p l ih =>
    obtain ⟨a, b⟩ := p
    simp only [put]
    split
    · rename_i h
      subst h
      simp only [lk]
      split <;> rfl
    · rename_i h
      simp only [lk, ih]
      split
      · rename_i h2
        subst h2
        rw [if_neg (fun e => h e.symm)]
      · rfl
theorem put_place {L : List (α × β)} {x : α} (v : β) {i : Nat} {b : β} (h : place L x = some (i, b)) (ek : α → Value) (ev : β → Value) (n : Nat) :
    (put L x v).length = L.length ∧ i < L.length ∧ ents ek ev n (put L x v) = (ents ek ev n L).modify i (fun e => { e with key := ek x, val := ev v }) ∧ ((ents ek ev n L)[i]?).map (·.key) = some (ek x) := by
  induction L generalizing n i with
  | nil => cases h
  | cons p l ih =>
    obtain ⟨a, c⟩ := p
    simp only [place] at h
    split at h
    · rename_i e
      subst e
      cases h
      simp [put, ents, List.modify]
    · rename_i e
      cases hp : place l x with
      | none => rw [hp] at h; cases h
      | some q =>
        rw [hp] at h
        obtain ⟨j, b'⟩ := q
        cases h
        obtain ⟨h1, h2, h3, h4⟩ := ih hp (n + 1)
        simp only [put, if_neg e, ents, List.length_cons]
        exact ⟨by omega, by omega, by rw [h3]; rfl, h4⟩
theorem put_none {L : List (α × β)} {x : α} (v : β) (h : lk L x = none) (ek : α → Value) (ev : β → Value) (n : Nat) :
    put L x v = L ++ [(x, v)] ∧ ents ek ev n (put L x v) = ents ek ev n L ++ [{ key := ek x, val := ev v, born := n + L.length }] := by
  induction L generalizing n with
  | nil => exact ⟨rfl, rfl⟩
  | cons p l ih =>
    obtain ⟨a, c⟩ := p
    simp only [lk] at h
    split at h
    · cases h
    · rename_i e
      obtain ⟨h1, h2⟩ := ih h (n + 1)
      simp only [put, if_neg e, ents, h1, List.cons_append, List.length_cons]
      refine ⟨trivial, ?_⟩
      rw [← h1, h2, show n + 1 + l.length = n + (l.length + 1) by omega]

/-- What a key's type is good for. -/
structure Key (P : Program) (kt : TypeId) (ek : α → Value) : Prop where
  check : ∀ (w : World) (e : Bool) (a : α), (Instr.checkKey e 10000 kt (ek a)).run P w = .ok () w
  find : ∀ (w : World) (β : Type) (ev : β → Value) (L : List (α × β)) (a : α), (Instr.findKey kt (ek a) (ents ek ev 0 L)).run P w = .ok ((place L a).map fun p => (p.1, ev p.2)) w
  stays : ∀ (w : World) (a : α), (Instr.keyThatStays (ek a) (ek a)).run P w = .ok (ek a) w
variable {P : Program} {t kt e : TypeId} {ek : α → Value} {ev : β → Value} {L : List (α × β)} {w : World} {b : Nat}
theorem run_lk (K : Key P kt ek) (ht : P.underlying t = some (.map kt e)) {z : Value} (hz : (zeroValue e).run P w = .ok z w) (hb : w.heap[b]? = some (mobj ek ev L)) (a : α) :
    (Instr.lookup t (.map (some b)) (ek a) false).run P w = .ok (((lk L a).map ev).getD z) w := by
  have hb' : w.heap[b]? = some (.map (ents ek ev 0 L).toArray L.length) := hb
  have hf := K.find w β ev L a
  have hl := place_lk L a
  simp only [Instr.lookup, Sem.run_bind, run_underlying ht, Result.andThen, MapKept.run_getObj_map hb', K.check, List.toList_toArray, hf, Sem.run_pure]
  rw [← hl]
  cases place L a with
  | none => simp [hz, Result.andThen]
  | some p => simp [Result.andThen]
theorem run_lk_ok (K : Key P kt ek) (ht : P.underlying t = some (.map kt e)) {z : Value} (hz : (zeroValue e).run P w = .ok z w) (hb : w.heap[b]? = some (mobj ek ev L)) (a : α) :
    (Instr.lookup t (.map (some b)) (ek a) true).run P w = .ok (.tuple #[((lk L a).map ev).getD z, .bool (lk L a).isSome]) w := by
  have hb' : w.heap[b]? = some (.map (ents ek ev 0 L).toArray L.length) := hb
  have hf := K.find w β ev L a
  have hl := place_lk L a
  simp only [Instr.lookup, Sem.run_bind, run_underlying ht, Result.andThen, MapKept.run_getObj_map hb', K.check, List.toList_toArray, hf, Sem.run_pure]
  rw [← hl]
  cases place L a with
  | none => simp [hz, Result.andThen]
  | some p => simp [Result.andThen]
theorem run_put (K : Key P kt ek) (ht : P.underlying t = some (.map kt e)) (hb : w.heap[b]? = some (mobj ek ev L)) (a : α) (v : β) :
    (Instr.mapUpdate t (.map (some b)) (ek a) (ev v)).run P w = .ok () (setBlock w b (mobj ek ev (put L a v))) := by
  have hb' : w.heap[b]? = some (.map (ents ek ev 0 L).toArray L.length) := hb
  have hf := K.find w β ev L a
  simp only [Instr.mapUpdate, Sem.run_bind, run_underlying ht, Result.andThen, MapKept.run_getObj_map hb', K.check, List.toList_toArray, hf]
  cases hp : place L a with
  | none =>
    obtain ⟨h1, h2⟩ := put_none v (by rw [← place_lk, hp]; rfl) ek ev 0 (L := L) (x := a)
    simp only [Option.map_none, MapKept.run_setObj_map _ hb']
    unfold setBlock mobj
    rw [h2, h1]
    simp
  | some q =>
    obtain ⟨i, c⟩ := q
    obtain ⟨h1, h2, h3, h4⟩ := put_place v hp ek ev 0
    simp only [Option.map_some, Sem.run_bind, List.getElem?_toArray]
    rw [h4]
    simp only [Option.getD_some, K.stays, Result.andThen, MapKept.run_setObj_map _ hb']
    unfold setBlock mobj
    rw [h1, h3]
    simp
theorem setBlock_at {w : World} {b : Nat} {o : Obj} (hb : w.heap[b]? = some o) (o' : Obj) : (setBlock w b o').heap[b]? = some o' := by
  have hlt : b < w.heap.size := (Array.getElem?_eq_some_iff.1 hb).1
  simp [setBlock, hlt]
end
/-- Whole numbers as keys. -/
theorem Key.int {P : Program} {kt : TypeId} (hd : P.underlying kt = some (.int .i64)) : Key P kt (Value.int .i64) where
  check w e a := run_checkKey hd (k := .int .i64 a) (by simp [IsKey]) e 9999
  stays w a := run_keyThatStays (d := .int .i64) (k := .int .i64 a) (by simp [IsKey])
  find w β ev L a := by
    have key : ∀ (L : List (Int × β)) (n i : Nat), Instr.findNow (.int .i64) (.int .i64 a) (ents (Value.int .i64) ev n L) i = some ((place L a).map fun p => (i + p.1, ev p.2)) := by
      intro L
      induction L with
      | nil => intro n i; rfl
      | cons p l ih =>
        intro n i
        obtain ⟨x, c⟩ := p
        simp only [ents, Instr.findNow, Instr.sameNow, if_true, place]
        by_cases h : a = x
        · subst h
          simp
        · have hb : (a == x) = false := beq_eq_false_iff_ne.2 h
          simp only [hb, if_neg h, ih]
          cases place l a with
          | none => rfl
          | some q => simp; omega
    have := key L 0 0
    simp only [Nat.zero_add] at this
    exact run_findKey hd this
/-- Two whole numbers as a struct. -/
def ekp (p : Int × Int) : Value := .agg #[.int .i64 p.1, .int .i64 p.2]
section
variable {P : Program} {kt : TypeId} {f1 f2 : Field}
theorem run_part_int (w : World) {e : TypeId} (he : P.underlying e = some (.int .i64)) {xs : Array Value} {off : Nat} {v : Value} (hx : xs[off]? = some v) : (part e xs off).run P w = .ok v w := by
  simp [part, isAgg, run_underlying he, hx]
theorem run_eq_pair (w : World) (hu : P.underlying kt = some (.struct #[f1, f2])) (hp : P.stoodInHeld kt = false) (n1 : f1.name ≠ "_") (n2 : f2.name ≠ "_") (t1 : P.underlying f1.type = some (.int .i64)) (t2 : P.underlying f2.type = some (.int .i64)) (o1 : f1.offset = 0) (o2 : f2.offset = 1) (a b : Int × Int) :
    (Op.equal kt (ekp a) (ekp b)).run P w = .ok (decide (a = b)) w := by
  have hf : P.fieldsOf kt = #[f1, f2] := by simp [Program.fieldsOf, hu]
  unfold Op.equal Op.maxDepth ekp
  rw [run_equalIn_struct w 9999 kt _ _ (by rw [hf]; exact hu) hp, hf]
  have p1 : ∀ a : Int × Int, (part f1.type #[Value.int .i64 a.1, .int .i64 a.2] f1.offset).run P w = .ok (.int .i64 a.1) w := fun a => run_part_int w t1 (by rw [o1]; rfl)
  have p2 : ∀ a : Int × Int, (part f2.type #[Value.int .i64 a.1, .int .i64 a.2] f2.offset).run P w = .ok (.int .i64 a.2) w := fun a => run_part_int w t2 (by rw [o2]; rfl)
  have e1 := run_equalIn_int (P := P) w 9998 f1.type .i64 .i64 a.1 b.1 t1
  have e2 := run_equalIn_int (P := P) w 9998 f2.type .i64 .i64 a.2 b.2 t2
  obtain ⟨a1, a2⟩ := a
  obtain ⟨b1, b2⟩ := b
  have e3 : decide ((a1, a2) = (b1, b2)) = (a1 == b1 && a2 == b2) := by
    rw [Bool.eq_iff_iff]
    simp
  rw [e3]
  have q1 := p1 (a1, a2)
  have q2 := p1 (b1, b2)
  have q3 := p2 (a1, a2)
  have q4 := p2 (b1, b2)
  simp only at q1 q2 q3 q4 e1 e2
  simp only [Op.eqFields, ne_eq, n1, n2, not_false_eq_true, if_true, Sem.run_bind, q1, q2, Result.andThen, e1]
  cases h1 : (a1 == b1)
  · simp
  · cases h2 : (a2 == b2) <;> rw [h2] at e2 <;> simp [Result.andThen, q3, q4, e2]
theorem Key.pair (hu : P.underlying kt = some (.struct #[f1, f2])) (hp : P.stoodInHeld kt = false) (n1 : f1.name ≠ "_") (n2 : f2.name ≠ "_") (t1 : P.underlying f1.type = some (.int .i64)) (t2 : P.underlying f2.type = some (.int .i64)) (o1 : f1.offset = 0) (o2 : f2.offset = 1) : Key P kt ekp where
  check w e a := by
    have p1 : (part f1.type #[Value.int .i64 a.1, .int .i64 a.2] f1.offset).run P w = .ok (.int .i64 a.1) w := run_part_int w t1 (by rw [o1]; rfl)
    have p2 : (part f2.type #[Value.int .i64 a.1, .int .i64 a.2] f2.offset).run P w = .ok (.int .i64 a.2) w := run_part_int w t2 (by rw [o2]; rfl)
    have c1 := run_checkKey (w := w) t1 (k := .int .i64 a.1) (by simp [IsKey]) e 9998
    have c2 := run_checkKey (w := w) t2 (k := .int .i64 a.2) (by simp [IsKey]) e 9998
    have hn : (10000 : Nat) = 9999 + 1 := rfl
    rw [hn, ekp]
    unfold Instr.checkKey
    simp only [Sem.run_bind, run_underlying hu, Result.andThen]
    rw [← Array.forIn_toList]
    simp [n1, n2, p1, p2, c1, c2, Result.andThen]
  stays w a := by
    have h : Instr.sameBits 10000 (ekp a) (ekp a) = true := by
      simp [ekp, Instr.sameBits]
    simp [Instr.keyThatStays, h]
  find w β ev L a := by
    have eq := fun b => run_eq_pair w hu hp n1 n2 t1 t2 o1 o2 a b
    have key : ∀ (L : List ((Int × Int) × β)) (n i : Nat), (Instr.findAsking kt (ekp a) (ents ekp ev n L) i).run P w = .ok ((place L a).map fun p => (i + p.1, ev p.2)) w := by
      intro L
      induction L with
      | nil => intro n i; rfl
      | cons p l ih =>
        intro n i
        obtain ⟨x, c⟩ := p
        simp only [ents, Instr.findAsking, Sem.run_bind, eq, Result.andThen, place]
        by_cases h : a = x
        · simp [h]
        · simp only [h, decide_false, Bool.false_eq_true, if_false, ih]
          cases place l a with
          | none => rfl
          | some q => simp; omega
    have h2 := key L 0 0
    simp only [Nat.zero_add] at h2
    unfold Instr.findKey
    simp only [Sem.run_bind, run_underlying hu, Result.andThen]
    cases L with
    | nil => rfl
    | cons p l =>
      obtain ⟨x, c⟩ := p
      simp only [ents, Instr.findNow, Instr.sameNow]
      exact h2
end
end Go.Proofs.Ytcldlljnaijmhaa.Mp
/-
Own text: a search in breadth, over any places: it ends; what it finds never changes; it is as short as any walk.
-/
namespace Go.Proofs.Ytcldlljnaijmhaa.Bfs
open Go.Proofs.Ytcldlljnaijmhaa.Mp
set_option linter.unusedVariables false

section
variable {α : Type} [DecidableEq α]
/-- The places next to one at d: those that are not known yet are d + 1 far. -/
def relax (d : Int) : List (α × Int) → List α → List α → List (α × Int) × List α
  | D, Q, [] => (D, Q)
  | D, Q, n :: l => if lk D n = none then relax d (put D n (d + 1)) (Q ++ [n]) l else relax d D Q l
/-- The search, in g rounds. -/
inductive Run (nx : α → List α) : Nat → List (α × Int) → List α → List (α × Int) → Prop
  | done (D : List (α × Int)) : Run nx 0 D [] D
  | step {D : List (α × Int)} {Q : List α} {c : α} {d : Int} {g : Nat} {D' : List (α × Int)} : lk D c = some d → Run nx g (relax d D Q (nx c)).1 (relax d D Q (nx c)).2 D' → Run nx (g + 1) D (c :: Q) D'
/-- How many places of U are not known yet. -/
def open_ (D : List (α × Int)) : List α → Nat
  | [] => 0
  | u :: U => (if lk D u = none then 1 else 0) + open_ D U
theorem open_put {D : List (α × Int)} {n : α} (v : Int) (U : List α) : open_ (put D n v) U ≤ open_ D U ∧ (n ∈ U → lk D n = none → open_ (put D n v) U < open_ D U) := by
  induction U with
  | nil => exact ⟨Nat.le_refl _, fun h => by cases h⟩
  | cons u U ih =>
    simp only [open_, lk_put]
    by_cases h : u = n
    · subst h
      simp only [if_true, reduceCtorEq, if_false]
      refine ⟨by have := ih.1; split <;> omega, fun _ hn => ?_⟩
      rw [if_pos hn]
      have := ih.1
      omega
    · simp only [if_neg h]
      refine ⟨by have := ih.1; omega, fun hm hn => ?_⟩
      rcases List.mem_cons.1 hm with e | hm
      · exact absurd e.symm h
      · have := ih.2 hm hn
        omega
theorem relax_kept {d : Int} {l : List α} : ∀ {D : List (α × Int)} {Q : List α} {x : α} {e : Int}, lk D x = some e → lk (relax d D Q l).1 x = some e := by
  induction l with
  | nil => intro D Q x e h; exact h
  | cons n l ih =>
    intro D Q x e h
    simp only [relax]
    split
    · rename_i hn
      refine ih ?_
      rw [lk_put]
      split
      · rename_i hx
        rw [hx, hn] at h
        cases h
      · exact h
    · exact ih h
theorem relax_open {d : Int} {U : List α} {l : List α} (hl : ∀ n ∈ l, n ∈ U) : ∀ (D : List (α × Int)) (Q : List α), (relax d D Q l).2.length + open_ (relax d D Q l).1 U ≤ Q.length + open_ D U := by
  induction l with
  | nil => intro D Q; exact Nat.le_refl _
  | cons n l ih =>
    intro D Q
    simp only [relax]
    split
    · rename_i hn
      have h1 := ih (fun n h => hl n (.tail _ h)) (put D n (d + 1)) (Q ++ [n])
      have h2 := (open_put (D := D) (n := n) (d + 1) U).2 (hl n (.head _)) hn
      simp only [List.length_append, List.length_singleton] at h1
      omega
    · exact ih (fun n h => hl n (.tail _ h)) D Q
theorem relax_known {d : Int} {l : List α} : ∀ {D : List (α × Int)} {Q : List α}, (∀ q ∈ Q, lk D q ≠ none) → ∀ q ∈ (relax d D Q l).2, lk (relax d D Q l).1 q ≠ none := by
  induction l with
  | nil => intro D Q h; exact h
  | cons n l ih =>
    intro D Q h
    simp only [relax]
    split
    · refine ih (fun q hq => ?_)
      rw [lk_put]
      split
      · simp
      · rename_i hne
        rcases List.mem_append.1 hq with hq | hq
        · exact h q hq
        · exact absurd (List.mem_singleton.1 hq) hne
    · exact ih h
theorem relax_in {d : Int} {U l : List α} (hl : ∀ n ∈ l, n ∈ U) : ∀ {D : List (α × Int)} {Q : List α}, (∀ q ∈ Q, q ∈ U) → ∀ q ∈ (relax d D Q l).2, q ∈ U := by
  induction l with
  | nil => intro D Q h; exact h
  | cons n l ih =>
    intro D Q h
    simp only [relax]
    split
    · refine ih (fun n h => hl n (.tail _ h)) (fun q hq => ?_)
      rcases List.mem_append.1 hq with hq | hq
      · exact h q hq
      · rw [List.mem_singleton.1 hq]; exact hl n (.head _)
    · exact ih (fun n h => hl n (.tail _ h)) h
/-- The search ends. -/
theorem run_ends (nx : α → List α) (U : List α) (hU : ∀ c ∈ U, ∀ n ∈ nx c, n ∈ U) (m : Nat) : ∀ (D : List (α × Int)) (Q : List α), Q.length + open_ D U ≤ m → (∀ q ∈ Q, lk D q ≠ none) → (∀ q ∈ Q, q ∈ U) → ∃ g D', Run nx g D Q D' ∧ g ≤ m := by
  induction m with
  | zero =>
    intro D Q hm _ _
    have : Q = [] := List.eq_nil_of_length_eq_zero (by omega)
    subst this
    exact ⟨0, D, .done D, Nat.le_refl _⟩
  | succ m ih =>
    intro D Q hm h1 h2
    cases Q with
    | nil => exact ⟨0, D, .done D, Nat.zero_le _⟩
    | cons c Q =>
      cases hc : lk D c with
      | none => exact absurd hc (h1 c (.head _))
      | some d =>
        have hn := hU c (h2 c (.head _))
        have h3 := relax_open (d := d) hn D Q
        simp only [List.length_cons] at hm
        obtain ⟨g, D', hr, hg⟩ := ih _ _ (Nat.le_trans h3 (by omega)) (relax_known (d := d) (l := nx c) (fun q hq => h1 q (.tail _ hq))) (relax_in (d := d) hn (D := D) (fun q hq => h2 q (.tail _ hq)))
        exact ⟨g + 1, D', .step hc hr, by omega⟩
theorem run_kept {nx : α → List α} {g : Nat} {D D' : List (α × Int)} {Q : List α} (h : Run nx g D Q D') {x : α} {e : Int} (hx : lk D x = some e) : lk D' x = some e := by
  induction h with
  | done => exact hx
  | step _ _ ih => exact ih (relax_kept hx)

/-- All next to x are known, and no farther than one step more. -/
def Shut (nx : α → List α) (D : List (α × Int)) (x : α) (e : Int) : Prop := ∀ n ∈ nx x, ∃ e', lk D n = some e' ∧ e' ≤ e + 1
def dv (D : List (α × Int)) (x : α) : Int := (lk D x).getD 0
structure Inv (nx : α → List α) (D : List (α × Int)) (Q : List α) : Prop where
  known : ∀ q ∈ Q, lk D q ≠ none
  rise : Q.Pairwise fun x y => dv D x ≤ dv D y
  near : ∀ x e, lk D x = some e → ∀ q, Q.head? = some q → e ≤ dv D q + 1
  shut : ∀ x e, lk D x = some e → x ∈ Q ∨ Shut nx D x e
  pos : ∀ x e, lk D x = some e → 0 ≤ e
/-- .. while the places next to c are looked at. -/
structure Mid (nx : α → List α) (c : α) (d : Int) (D : List (α × Int)) (Q : List α) : Prop where
  at_ : lk D c = some d
  known : ∀ q ∈ Q, lk D q ≠ none
  rise : Q.Pairwise fun x y => dv D x ≤ dv D y
  low : ∀ q ∈ Q, d ≤ dv D q
  near : ∀ x e, lk D x = some e → e ≤ d + 1
  shut : ∀ x e, lk D x = some e → x = c ∨ x ∈ Q ∨ Shut nx D x e
  pos : ∀ x e, lk D x = some e → 0 ≤ e
theorem dv_put {D : List (α × Int)} {n x : α} {v : Int} (h : x ≠ n) : dv (put D n v) x = dv D x := by
  unfold dv
  rw [lk_put, if_neg h]
theorem Mid.put {nx : α → List α} {c n : α} {d : Int} {D : List (α × Int)} {Q : List α} (h : Mid nx c d D Q) (hn : lk D n = none) : Mid nx c d (put D n (d + 1)) (Q ++ [n]) := by
  have hQ : ∀ q ∈ Q, q ≠ n := fun q hq e => h.known q hq (e ▸ hn)
  have hd0 := h.pos c d h.at_
  have hdn : dv (Mp.put D n (d + 1)) n = d + 1 := by unfold dv; rw [lk_put, if_pos rfl]; rfl
  refine ⟨?_, ?_, ?_, ?_, ?_, ?_, ?_⟩
  · rw [lk_put, if_neg (fun e => by have := h.at_; rw [e, hn] at this; cases this)]
    exact h.at_
  · intro q hq
    rw [lk_put]
    split
    · simp
    · rename_i hne
      rcases List.mem_append.1 hq with hq | hq
      · exact h.known q hq
      · exact absurd (List.mem_singleton.1 hq) hne
  · refine List.pairwise_append.2 ⟨?_, by simp, ?_⟩
    · refine h.rise.imp_of_mem ?_
      intro x y hx hy hxy
      rw [dv_put (hQ x hx), dv_put (hQ y hy)]
      exact hxy
    · intro x hx y hy
      rw [List.mem_singleton.1 hy, hdn, dv_put (hQ x hx)]
      unfold dv
      cases hl : lk D x with
      | none => exact absurd hl (h.known x hx)
      | some e => exact h.near x e hl
  · intro q hq
    rcases List.mem_append.1 hq with hq | hq
    · rw [dv_put (hQ q hq)]
      exact h.low q hq
    · rw [List.mem_singleton.1 hq, hdn]
      omega
  · intro x e hx
    rw [lk_put] at hx
    split at hx
    · cases hx; omega
    · exact h.near x e hx
  · intro x e hx
    rw [lk_put] at hx
    split at hx
    · rename_i he
      exact .inr (.inl (by rw [he]; simp))
    · rcases h.shut x e hx with h1 | h1 | h1
      · exact .inl h1
      · exact .inr (.inl (by simp [h1]))
      · refine .inr (.inr fun m hm => ?_)
        obtain ⟨e', h2, h3⟩ := h1 m hm
        refine ⟨e', ?_, h3⟩
        rw [lk_put, if_neg (fun e => by rw [e, hn] at h2; cases h2)]
        exact h2
  · intro x e hx
    rw [lk_put] at hx
    split at hx
    · cases hx; omega
    · exact h.pos x e hx
theorem Mid.relax {nx : α → List α} {c : α} {d : Int} {l : List α} : ∀ {D : List (α × Int)} {Q : List α}, Mid nx c d D Q → Mid nx c d (relax d D Q l).1 (relax d D Q l).2 ∧ ∀ n ∈ l, lk (Bfs.relax d D Q l).1 n ≠ none := by
  induction l with
  | nil => intro D Q h; exact ⟨h, fun n hn => by cases hn⟩
  | cons n l ih =>
    intro D Q h
    simp only [Bfs.relax]
    split
    · rename_i hn
      obtain ⟨h1, h2⟩ := ih (h.put hn)
      refine ⟨h1, fun m hm => ?_⟩
      rcases List.mem_cons.1 hm with e | hm
      · rw [e, relax_kept (show lk (Mp.put D n (d + 1)) n = some (d + 1) by rw [lk_put, if_pos rfl])]
        simp
      · exact h2 m hm
    · rename_i hn
      obtain ⟨h1, h2⟩ := ih h
      refine ⟨h1, fun m hm => ?_⟩
      rcases List.mem_cons.1 hm with e | hm
      · cases hl : lk D n with
        | none => exact absurd hl hn
        | some e1 => rw [e, relax_kept hl]; simp
      · exact h2 m hm
theorem Inv.step {nx : α → List α} {c : α} {d : Int} {D : List (α × Int)} {Q : List α} (h : Inv nx D (c :: Q)) (hc : lk D c = some d) : Inv nx (relax d D Q (nx c)).1 (relax d D Q (nx c)).2 := by
  have hdc : dv D c = d := by unfold dv; rw [hc]; rfl
  have hr := List.pairwise_cons.1 h.rise
  have m0 : Mid nx c d D Q := ⟨hc, fun q hq => h.known q (.tail _ hq), hr.2, fun q hq => by rw [← hdc]; exact hr.1 q hq, fun x e hx => by have := h.near x e hx c rfl; omega, fun x e hx => by
    rcases h.shut x e hx with h1 | h1
    · rcases List.mem_cons.1 h1 with h1 | h1
      · exact .inl h1
      · exact .inr (.inl h1)
    · exact .inr (.inr h1), h.pos⟩
  obtain ⟨m1, hall⟩ := m0.relax (l := nx c)
  refine ⟨m1.known, m1.rise, ?_, ?_, m1.pos⟩
  · intro x e hx q hq
    have h1 := m1.near x e hx
    have h2 := m1.low q (by cases hQ : (relax d D Q (nx c)).2 with
      | nil => rw [hQ] at hq; cases hq
      | cons a l => rw [hQ] at hq; cases hq; simp)
    omega
  · intro x e hx
    rcases m1.shut x e hx with h1 | h1 | h1
    · refine .inr fun n hn => ?_
      have h2 := hall n (h1 ▸ hn)
      cases hl : lk (relax d D Q (nx c)).1 n with
      | none => exact absurd hl h2
      | some e' =>
        refine ⟨e', rfl, ?_⟩
        have h3 := m1.near n e' hl
        have h4 := m1.at_
        rw [h1] at hx
        rw [hx] at h4
        cases h4
        exact h3
    · exact .inl h1
    · exact .inr h1
/-- What the search from s finds. -/
noncomputable def fin (nx : α → List α) (s : α) : List (α × Int) := open Classical in if h : ∃ (D : List (α × Int)) (g : Nat), Run nx g [(s, (0 : Int))] [s] D then h.choose else []
theorem fin_run {nx : α → List α} {s : α} (U : List α) (hs : s ∈ U) (hU : ∀ c ∈ U, ∀ n ∈ nx c, n ∈ U) : ∃ g, Run nx g [(s, (0 : Int))] [s] (fin nx s) := by
  have h : ∃ (D : List (α × Int)) (g : Nat), Run nx g [(s, (0 : Int))] [s] D := by
    obtain ⟨g, D, h, _⟩ := run_ends nx U hU _ [(s, (0 : Int))] [s] (Nat.le_refl _) (fun q hq => by rw [List.mem_singleton.1 hq]; simp [lk]) (fun q hq => by rw [List.mem_singleton.1 hq]; exact hs)
    exact ⟨D, g, h⟩
  unfold fin
  rw [dif_pos h]
  exact h.choose_spec
end
end Go.Proofs.Ytcldlljnaijmhaa.Bfs
/-
Own text, by hand: what AloneTicks comes to: the search in breadth.
-/
namespace Go.Proofs.Ytcldlljnaijmhaa.Pr
open Go.RowKit Go.Proofs.YtcldlljnaijmhaaW.PrintWords Go.Proofs.YtcldlljnaijmhaaW.PrintLast
end Go.Proofs.Ytcldlljnaijmhaa.Pr
-- Written by this session's own print (wip/tools/mkmp.py) out of the translation. Lean checks it.
namespace Go.Proofs.Ytcldlljnaijmhaa.Pr
open Go.RowKit Go.Proofs.YtcldlljnaijmhaaW.PrintWords Go.Proofs.YtcldlljnaijmhaaW.PrintLast Go.Proofs.YtcldlljnaijmhaaW.PrintMore
attribute [local go_sem] max2_int min2_int max_two min_two max_three min_three max_four min_four   -- for this text's walks alone
set_option linter.unusedVariables false
set_option linter.unusedSimpArgs false

/-! ### laws_FnExactAloneTicks: function 6 -/
/-! ### spec_JointTicks: function 34 -/
mutual
def spec_JointTicks.j0 : Nat → Int → Bool → Int → List Int → Int → Int → Int → Int → Option (Int)
  | 0, _, _, _, _, _, _, _, _ => none
  | k + 1, x7, x31, x365000, x365001, x366000, x366001, x367000, x367001 => if x31 = true then (some (-1)) else (if 0 ≤ (wrap64 (x7 * x7)) then (if (wrap64 (x7 * x7) : Int).toNat ≤ 35184372088832 then ((some (List.replicate (wrap64 (x7 * x7) : Int).toNat 0 : List Int)).bind fun y371 => (spec_JointTicks.l0 k x7 y371 (y371.length : Int) 0 x365000 x365001 x366000 x366001 x367000 x367001)) else (none)) else (none))
def spec_JointTicks.l0 : Nat → Int → List Int → Int → Int → Int → List Int → Int → Int → Int → Int → Option (Int)
  | 0, _, _, _, _, _, _, _, _, _, _ => none
  | k + 1, x7, x8, x37, x38, x365000, x365001, x366000, x366001, x367000, x367001 => if x38 < x37 then (if 0 ≤ x38 then (if x38 < (x8.length : Int) then (spec_JointTicks.l0 k x7 (x8.set (x38 : Int).toNat (-1)) x37 (wrap64 (x38 + 1)) x365000 x365001 x366000 x366001 x367000 x367001) else (none)) else (none)) else (if 0 ≤ (wrap64 ((wrap64 (x366000 * x7)) + x367000)) then (if (wrap64 ((wrap64 (x366000 * x7)) + x367000)) < (x8.length : Int) then (spec_JointTicks.l1 k x7 (x8.set ((wrap64 ((wrap64 (x366000 * x7)) + x367000)) : Int).toNat 0) (([wrap64 ((wrap64 (x366000 * x7)) + x367000)] : List Int)) 0 x365000 x365001 x366000 x366001 x367000 x367001) else (none)) else (none))
def spec_JointTicks.l1 : Nat → Int → List Int → List Int → Int → Int → List Int → Int → Int → Int → Int → Option (Int)
  | 0, _, _, _, _, _, _, _, _, _, _ => none
  | k + 1, x7, x8, x11, x12, x365000, x365001, x366000, x366001, x367000, x367001 => if x12 < (x11.length : Int) then (if 0 ≤ x12 then (if x7 = 0 then (none) else ((spec_l20Next.f k x365000 x365001 (wrap64 (Int.tdiv (rd x11 x12) x7))).bind fun t382 => (spec_JointTicks.l2 k x7 x8 x11 x12 (wrap64 (Int.tdiv (rd x11 x12) x7)) (Int.tmod (rd x11 x12) x7) t382 (t382.length : Int) 0 x365000 x365001 x366000 x366001 x367000 x367001))) else (none)) else (if 0 ≤ (wrap64 ((wrap64 (x366001 * x7)) + x367001)) then (if (wrap64 ((wrap64 (x366001 * x7)) + x367001)) < (x8.length : Int) then (some (rd x8 (wrap64 ((wrap64 (x366001 * x7)) + x367001)))) else (none)) else (none))
def spec_JointTicks.l2 : Nat → Int → List Int → List Int → Int → Int → Int → List Int → Int → Int → Int → List Int → Int → Int → Int → Int → Option (Int)
  | 0, _, _, _, _, _, _, _, _, _, _, _, _, _, _, _ => none
  | k + 1, x7, x8, x11, x12, x13, x14, x77, x78, x79, x365000, x365001, x366000, x366001, x367000, x367001 => if x79 < x78 then (if 0 ≤ x79 then (if x79 < (x77.length : Int) then ((spec_l20Next.f k x365000 x365001 x14).bind fun t386 => (spec_JointTicks.l3 k x7 x8 x11 x12 x13 x14 (rd x77 x79) x77 x78 x79 t386 (t386.length : Int) 0 x365000 x365001 x366000 x366001 x367000 x367001)) else (none)) else (none)) else (spec_JointTicks.l1 k x7 x8 x11 (wrap64 (x12 + 1)) x365000 x365001 x366000 x366001 x367000 x367001)
def spec_JointTicks.l3 : Nat → Int → List Int → List Int → Int → Int → Int → Int → List Int → Int → Int → List Int → Int → Int → Int → List Int → Int → Int → Int → Int → Option (Int)
  | 0, _, _, _, _, _, _, _, _, _, _, _, _, _, _, _, _, _, _, _ => none
  | k + 1, x7, x8, x11, x12, x13, x14, x16, x77, x78, x79, x85, x86, x87, x365000, x365001, x366000, x366001, x367000, x367001 => if x87 < x86 then (if 0 ≤ x87 then (if x87 < (x85.length : Int) then (if x16 = (rd x85 x87) then (spec_JointTicks.l3 k x7 x8 x11 x12 x13 x14 x16 x77 x78 x79 x85 x86 (wrap64 (x87 + 1)) x365000 x365001 x366000 x366001 x367000 x367001) else (if x16 = x14 then (if (rd x85 x87) = x13 then (spec_JointTicks.l3 k x7 x8 x11 x12 x13 x14 x16 x77 x78 x79 x85 x86 (wrap64 (x87 + 1)) x365000 x365001 x366000 x366001 x367000 x367001) else (if 0 ≤ (wrap64 ((wrap64 (x16 * x7)) + (rd x85 x87))) then (if (wrap64 ((wrap64 (x16 * x7)) + (rd x85 x87))) < (x8.length : Int) then (if (rd x8 (wrap64 ((wrap64 (x16 * x7)) + (rd x85 x87)))) ≥ 0 then (spec_JointTicks.l3 k x7 x8 x11 x12 x13 x14 x16 x77 x78 x79 x85 x86 (wrap64 (x87 + 1)) x365000 x365001 x366000 x366001 x367000 x367001) else (if 0 ≤ x12 then (if x12 < (x11.length : Int) then (if 0 ≤ (rd x11 x12) then (if (rd x11 x12) < (x8.length : Int) then (if x11.length < 17592186044416 then (spec_JointTicks.l3 k x7 (x8.set ((wrap64 ((wrap64 (x16 * x7)) + (rd x85 x87))) : Int).toNat (wrap64 ((rd x8 (rd x11 x12)) + 1))) (x11 ++ [wrap64 ((wrap64 (x16 * x7)) + (rd x85 x87))]) x12 x13 x14 x16 x77 x78 x79 x85 x86 (wrap64 (x87 + 1)) x365000 x365001 x366000 x366001 x367000 x367001) else (none)) else (none)) else (none)) else (none)) else (none))) else (none)) else (none))) else (if 0 ≤ (wrap64 ((wrap64 (x16 * x7)) + (rd x85 x87))) then (if (wrap64 ((wrap64 (x16 * x7)) + (rd x85 x87))) < (x8.length : Int) then (if (rd x8 (wrap64 ((wrap64 (x16 * x7)) + (rd x85 x87)))) ≥ 0 then (spec_JointTicks.l3 k x7 x8 x11 x12 x13 x14 x16 x77 x78 x79 x85 x86 (wrap64 (x87 + 1)) x365000 x365001 x366000 x366001 x367000 x367001) else (if 0 ≤ x12 then (if x12 < (x11.length : Int) then (if 0 ≤ (rd x11 x12) then (if (rd x11 x12) < (x8.length : Int) then (if x11.length < 17592186044416 then (spec_JointTicks.l3 k x7 (x8.set ((wrap64 ((wrap64 (x16 * x7)) + (rd x85 x87))) : Int).toNat (wrap64 ((rd x8 (rd x11 x12)) + 1))) (x11 ++ [wrap64 ((wrap64 (x16 * x7)) + (rd x85 x87))]) x12 x13 x14 x16 x77 x78 x79 x85 x86 (wrap64 (x87 + 1)) x365000 x365001 x366000 x366001 x367000 x367001) else (none)) else (none)) else (none)) else (none)) else (none))) else (none)) else (none)))) else (none)) else (none)) else (spec_JointTicks.l2 k x7 x8 x11 x12 x13 x14 x77 x78 (wrap64 (x79 + 1)) x365000 x365001 x366000 x366001 x367000 x367001)
end
def spec_JointTicks.f (k : Nat) (a0_0 : Int) (l0_1 : List Int) (a1_0 : Int) (a1_1 : Int) (a2_0 : Int) (a2_1 : Int) : Option (Int) := (spec_GoodTrips.f k a0_0 l0_1 (([(⟨a1_0, a1_1⟩ : S49), (⟨a2_0, a2_1⟩ : S49)] : List (S49)))).bind fun t370 => (if t370 = true then (spec_JointTicks.j0 k (l0_1.length : Int) (decide ((l0_1.length : Int) > 36)) a0_0 l0_1 a1_0 a1_1 a2_0 a2_1) else (spec_JointTicks.j0 k (l0_1.length : Int) true a0_0 l0_1 a1_0 a1_1 a2_0 a2_1))
/-! ### impl_meets: function 59 -/
def impl_meets.f (a0 : Int) (a1 : Int) (a2 : Int) (a3 : Int) : Option (Bool) := if a1 = a3 then (some true) else (if a0 = a3 then (some (a1 == a2)) else (some false))

end Go.Proofs.Ytcldlljnaijmhaa.Pr
