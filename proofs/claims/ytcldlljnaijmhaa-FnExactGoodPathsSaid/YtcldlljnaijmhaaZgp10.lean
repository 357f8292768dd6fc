-- Joined and pruned by wip/tools/prune.py out of this session's own texts (PureFnExactGoodPaths)
import Derived.Test.YtcldlljnaijmhaaZgp9
/- MERGED by merge.py: PureBase PureInts PureIntSS PureCells PureGrid PureTrips PureMeet PurePaths PureFnExactGoodPaths -/
/-
Own text: what many of the pure proofs use: 'for all from i on', counters, 'between', the copy and the comparison of slices of bytes.
-/
namespace Go.Proofs.Ytcldlljnaijmhaa.Pure
open Go.RowKit Go.Proofs.YtcldlljnaijmhaaW.PrintWords Go.Proofs.Ytcldlljnaijmhaa.EvKit

def From (n i : Nat) (C : Nat → Prop) : Prop := ∀ j, i ≤ j → j < n → C j
theorem From.end_ {n i : Nat} {C : Nat → Prop} (h : n ≤ i) : From n i C := fun j h1 h2 => by omega
theorem From.step {n i : Nat} {C : Nat → Prop} (h : i < n) : From n i C ↔ C i ∧ From n (i + 1) C := by
  constructor
  · exact fun a => ⟨a i (Nat.le_refl i) h, fun j h1 h2 => a j (by omega) h2⟩
  · rintro ⟨a, b⟩ j h1 h2
    by_cases e : j = i
    · exact e ▸ a
    · exact b j (by omega) h2
/-- One of those from i on, below n. -/
def Some_ (n i : Nat) (C : Nat → Prop) : Prop := ∃ j, i ≤ j ∧ j < n ∧ C j
theorem Some_.end_ {n i : Nat} {C : Nat → Prop} (h : n ≤ i) : ¬ Some_ n i C := by
  rintro ⟨j, h1, h2, _⟩
  omega
theorem Some_.step {n i : Nat} {C : Nat → Prop} (h : i < n) : Some_ n i C ↔ C i ∨ Some_ n (i + 1) C := by
  constructor
  · rintro ⟨j, h1, h2, h3⟩
    by_cases e : j = i
    · exact Or.inl (e ▸ h3)
    · exact Or.inr ⟨j, by omega, h2, h3⟩
  · rintro (a | ⟨j, h1, h2, h3⟩)
    · exact ⟨i, Nat.le_refl i, h, a⟩
    · exact ⟨j, by omega, h2, h3⟩
theorem succ_w {i : Nat} (h : i < 35184372088833) : wrap64 ((i : Int) + 1) = ((i + 1 : Nat) : Int) := by rw [wrap64_id (by omega) (by omega)]; omega
end Go.Proofs.Ytcldlljnaijmhaa.Pure

/-
Own text: what the laws' own helpers on []int come to: a copy, a comparison.
-/
namespace Go.Proofs.Ytcldlljnaijmhaa.Pure
open Go.RowKit Go.Proofs.YtcldlljnaijmhaaW.PrintWords Go.Proofs.YtcldlljnaijmhaaW.PrintLast Go.Proofs.Ytcldlljnaijmhaa.Pr Go.Proofs.Ytcldlljnaijmhaa.EvKit

theorem toIntS_l0 (l : List Int) (hl : l.length ≤ 35184372088832) (d : Nat) : ∀ i : Nat, i + d = l.length →
    Ev (fun k => laws_toIntS.l0 k l ((l.take i).map id ++ List.replicate (l.length - i) 0) i) (l.map id) := by
  induction d with
  | zero =>
    intro i hi
    apply Ev.succ
    simp only [laws_toIntS.l0, show ¬ ((i : Int) < (l.length : Int)) by omega, if_false]
    have : i = l.length := by omega
    subst this
    exact Ev.some (copy_done _ _ _)
  | succ d ih =>
    intro i hi
    apply Ev.succ
    have hlen : ((l.take i).map id ++ List.replicate (l.length - i) (0 : Int)).length = l.length := by simp; omega
    simp only [laws_toIntS.l0, hlen, show ((i : Int) < (l.length : Int)) by omega, show (0 : Int) ≤ (i : Int) by omega, if_true, Int.toNat_natCast]
    rw [show wrap64 ((i : Int) + 1) = ((i + 1 : Nat) : Int) by rw [wrap64_id (by omega) (by omega)]; omega]
    have := copy_step id (0 : Int) 0 l i (by omega)
    have e : rd l (i : Int) = id (l.getD i 0) := rfl
    rw [e, this]
    exact ih (i + 1) (by omega)
theorem toIntS_ev (l : List Int) (hl : l.length ≤ 35184372088832) : Ev (fun k => laws_toIntS.f k l) l := by
  simp only [laws_toIntS.f, Int.toNat_natCast, show (0 : Int) ≤ (l.length : Int) by omega, hl, if_true]
  have := toIntS_l0 l hl l.length 0 (by omega)
  simpa using this

theorem eqIntS_l0 (l : List Int) (hl : l.length ≤ 35184372088832) (d : Nat) : ∀ i : Nat, i + d = l.length → Ev (fun k => laws_eqIntS.l0 k l l i) true := by
  induction d with
  | zero =>
    intro i hi
    apply Ev.succ
    simp only [laws_eqIntS.l0, show ¬ ((i : Int) < (l.length : Int)) by omega, if_false]
    exact Ev.some rfl
  | succ d ih =>
    intro i hi
    apply Ev.succ
    simp only [laws_eqIntS.l0, show ((i : Int) < (l.length : Int)) by omega, show (0 : Int) ≤ (i : Int) by omega, if_true]
    rw [show wrap64 ((i : Int) + 1) = ((i + 1 : Nat) : Int) by rw [wrap64_id (by omega) (by omega)]; omega]
    exact ih (i + 1) (by omega)
theorem eqIntS_ev (l : List Int) (hl : l.length ≤ 35184372088832) : Ev (fun k => laws_eqIntS.f k l l) true := by
  simp only [laws_eqIntS.f, if_true]
  exact eqIntS_l0 l hl l.length 0 (by omega)

end Go.Proofs.Ytcldlljnaijmhaa.Pure

/-
Own text: what the laws' own helpers on [][]int come to: their size, a copy, a comparison.
-/
namespace Go.Proofs.Ytcldlljnaijmhaa.Pure
open Go.RowKit Go.Proofs.YtcldlljnaijmhaaW.PrintWords Go.Proofs.YtcldlljnaijmhaaW.PrintLast Go.Proofs.Ytcldlljnaijmhaa.Pr Go.Proofs.Ytcldlljnaijmhaa.EvKit

theorem toIntSS_l0 (l : List (List Int)) (hl : l.length ≤ 1048576) (hr : ∀ x ∈ l, x.length ≤ 1048576) (d : Nat) : ∀ i : Nat, i + d = l.length →
    Ev (fun k => laws_toIntSS.l0 k l ((l.take i).map id ++ List.replicate (l.length - i) []) i) (l.map id) := by
  induction d with
  | zero =>
    intro i hi
    apply Ev.succ
    simp only [laws_toIntSS.l0, show ¬ ((i : Int) < (l.length : Int)) by omega, if_false]
    have : i = l.length := by omega
    subst this
    exact Ev.some (copy_done _ _ _)
  | succ d ih =>
    intro i hi
    apply Ev.succ
    have hlen : ((l.take i).map id ++ List.replicate (l.length - i) ([] : List Int)).length = l.length := by simp; omega
    simp only [laws_toIntSS.l0, hlen, show ((i : Int) < (l.length : Int)) by omega, show (0 : Int) ≤ (i : Int) by omega, if_true, Int.toNat_natCast, succ_w (show i < 35184372088833 by omega)]
    have hm := getD_mem l i [] (by omega)
    have := copy_step id ([] : List Int) [] l i (by omega)
    refine Ev.bnd (toIntS_ev (rd_L1 l (i : Int)) (Nat.le_trans (hr _ hm) (by omega))) ?_
    have e : rd_L1 l (i : Int) = id (l.getD i []) := rfl
    simp only [e, this]
    exact ih (i + 1) (by omega)
theorem toIntSS_ev (l : List (List Int)) (hl : l.length ≤ 1048576) (hr : ∀ x ∈ l, x.length ≤ 1048576) : Ev (fun k => laws_toIntSS.f k l) l := by
  simp only [laws_toIntSS.f, Int.toNat_natCast, show (0 : Int) ≤ (l.length : Int) by omega, show l.length ≤ 11728124029610 by omega, if_true]
  have := toIntSS_l0 l hl hr l.length 0 (by omega)
  simpa using this

theorem eqIntSS_l0 (l : List (List Int)) (hl : l.length ≤ 1048576) (hr : ∀ x ∈ l, x.length ≤ 1048576) (d : Nat) : ∀ i : Nat, i + d = l.length → Ev (fun k => laws_eqIntSS.l0 k l l i) true := by
  induction d with
  | zero =>
    intro i hi
    apply Ev.succ
    simp only [laws_eqIntSS.l0, show ¬ ((i : Int) < (l.length : Int)) by omega, if_false]
    exact Ev.some rfl
  | succ d ih =>
    intro i hi
    apply Ev.succ
    simp only [laws_eqIntSS.l0, show ((i : Int) < (l.length : Int)) by omega, show (0 : Int) ≤ (i : Int) by omega, if_true, succ_w (show i < 35184372088833 by omega)]
    have hm := getD_mem l i [] (by omega)
    exact Ev.bnd (eqIntS_ev (rd_L1 l (i : Int)) (Nat.le_trans (hr _ hm) (by omega))) (Ev.pos rfl (ih (i + 1) (by omega)))
theorem eqIntSS_ev (l : List (List Int)) (hl : l.length ≤ 1048576) (hr : ∀ x ∈ l, x.length ≤ 1048576) : Ev (fun k => laws_eqIntSS.f k l l) true := by
  simp only [laws_eqIntSS.f, if_true]
  exact eqIntSS_l0 l hl hr l.length 0 (by omega)

theorem szIntS_eq (l : List Int) (a : Int) (hl : l.length ≤ 9223372036854775807) (h0 : 0 ≤ a) (h1 : a ≤ 1048576) :
    ∃ r, laws_szIntS.f l a = some r ∧ (¬ r < 0 → (l.length : Int) ≤ a ∧ r ≤ a) := by
  simp only [laws_szIntS.f]
  rw [wrap64_id (x := a - (l.length : Int)) (by omega) (by omega)]
  by_cases h : a - (l.length : Int) < 0
  · exact ⟨-1, by simp [h], by omega⟩
  · exact ⟨_, by rw [if_neg h], by omega⟩
theorem szIntSS_l0 (l : List (List Int)) (hl : l.length ≤ 1048576) (hr : ∀ x ∈ l, x.length ≤ 9223372036854775807) (d : Nat) : ∀ (i : Nat) (a : Int), i + d = l.length → 0 ≤ a → a ≤ 1048576 →
    ∃ r, Ev (fun k => laws_szIntSS.l0 k l a i) r ∧ (¬ r < 0 → r ≤ a ∧ ∀ j, i ≤ j → j < l.length → ((l.getD j []).length : Int) ≤ 1048576) := by
  induction d with
  | zero =>
    intro i a hi h0 h1
    refine ⟨a, Ev.succ ?_, fun _ => ⟨Int.le_refl a, fun j a b => by omega⟩⟩
    simp only [laws_szIntSS.l0, show ¬ ((i : Int) < (l.length : Int)) by omega, if_false]
    exact Ev.some rfl
  | succ d ih =>
    intro i a hi h0 h1
    have hm := getD_mem l i [] (by omega)
    obtain ⟨s, hs, hs2⟩ := szIntS_eq (l.getD i []) a (hr _ hm) h0 h1
    by_cases hneg : s < 0
    · refine ⟨-1, Ev.succ ?_, by omega⟩
      simp only [laws_szIntSS.l0, show ((i : Int) < (l.length : Int)) by omega, show (0 : Int) ≤ (i : Int) by omega, if_true]
      exact Ev.bnd0 hs (Ev.pos hneg (Ev.some rfl))
    · obtain ⟨h2, h3⟩ := hs2 hneg
      obtain ⟨r, hr1, hr2⟩ := ih (i + 1) s (by omega) (by omega) (by omega)
      refine ⟨r, Ev.succ ?_, fun h => ⟨by have := (hr2 h).1; omega, fun j a1 b1 => ?_⟩⟩
      · simp only [laws_szIntSS.l0, show ((i : Int) < (l.length : Int)) by omega, show (0 : Int) ≤ (i : Int) by omega, if_true, succ_w (show i < 35184372088833 by omega)]
        exact Ev.bnd0 hs (Ev.neg hneg hr1)
      · by_cases e : j = i
        · subst e; omega
        · exact (hr2 h).2 j (by omega) b1
theorem szIntSS_ev (l : List (List Int)) (a : Int) (h0 : 0 ≤ a) (h1 : a ≤ 1048576) (hl : l.length ≤ 9223372036854775807) (hr : ∀ x ∈ l, x.length ≤ 9223372036854775807) :
    ∃ r, Ev (fun k => laws_szIntSS.f k l a) r ∧ (¬ r < 0 → r ≤ a ∧ l.length ≤ 1048576 ∧ ∀ x ∈ l, x.length ≤ 1048576) := by
  simp only [laws_szIntSS.f]
  rw [wrap64_id (x := a - (l.length : Int)) (by omega) (by omega)]
  by_cases h : a - (l.length : Int) < 0
  · exact ⟨-1, Ev.pos h (Ev.some rfl), by omega⟩
  · obtain ⟨r, e1, e2⟩ := szIntSS_l0 l (by omega) hr l.length 0 (a - l.length) (by omega) (by omega) (by omega)
    refine ⟨r, Ev.neg h e1, fun hn => ⟨by have := (e2 hn).1; omega, by omega, fun x hx => ?_⟩⟩
    obtain ⟨j, hj⟩ := List.getElem?_of_mem hx
    have hj2 := (List.getElem?_eq_some_iff.1 hj).1
    have := (e2 hn).2 j (by omega) hj2
    rw [List.getD_eq_getElem?_getD, hj] at this
    simp at this
    omega
end Go.Proofs.Ytcldlljnaijmhaa.Pure

/-
Own text: cells: the two checks agree; what good cells are; what is free; the laws' helpers on cells.
-/
namespace Go.Proofs.Ytcldlljnaijmhaa.Pure
open Go.RowKit Go.Proofs.YtcldlljnaijmhaaW.PrintWords Go.Proofs.YtcldlljnaijmhaaW.PrintLast Go.Proofs.Ytcldlljnaijmhaa.Pr Go.Proofs.Ytcldlljnaijmhaa.EvKit
open Classical

def Sq (w : Int) (n : Nat) : Prop := 1 ≤ w ∧ w ≤ 16 ∧ (n : Int) % w = 0 ∧ w ≤ n ∧ (n : Int) / w ≤ 16
/-- Good cells. -/
def Cl (w : Int) (c : List Int) : Prop := Sq w c.length ∧ From c.length 0 fun j => 0 ≤ c.getD j 0 ∧ c.getD j 0 ≤ 2

theorem sq_impl (w : Int) (n : Nat) (hn : n ≤ 35184372088832) : impl_squared.f w n = some (decide (Sq w n)) := by
  unfold impl_squared.f Sq
  by_cases h1 : w ≥ 1
  · by_cases h2 : w ≤ 16
    · have hm : (n : Int).tmod w = (n : Int) % w := Int.tmod_eq_emod_of_nonneg (by omega)
      have hd : (n : Int).tdiv w = (n : Int) / w := Int.tdiv_eq_ediv_of_nonneg (by omega)
      rw [if_pos h1, if_pos h2, if_neg (by omega), hm, hd]
      by_cases h3 : (n : Int) % w = 0
      · have hle : (n : Int) / w ≤ n := Int.ediv_le_self _ (by omega)
        have h0 : 0 ≤ (n : Int) / w := Int.ediv_nonneg (by omega) (by omega)
        have key : (n : Int) / w ≥ 1 ↔ w ≤ n := (Int.le_ediv_iff_mul_le (by omega)).trans (by rw [Int.one_mul])
        rw [if_pos h3, wrap64_id (by omega) (by omega)]
        by_cases h4 : (n : Int) / w ≥ 1
        · have h5 : w ≤ n := key.1 h4
          rw [if_pos h4]
          simp [h1, h2, h3, h5]
        · have h5 : ¬ w ≤ n := fun h => h4 (key.2 h)
          rw [if_neg h4]
          simp [h5]
      · rw [if_neg h3]
        simp [h3]
    · rw [if_pos h1, if_neg h2]
      simp [h2]
  · rw [if_neg h1]
    simp [show ¬ 1 ≤ w from h1]
theorem sq_spec (w : Int) (n : Nat) (hn : n ≤ 35184372088832) : spec_l12Sized.f w n = some (decide (Sq w n)) := by
  unfold spec_l12Sized.f Sq
  by_cases h1 : w ≥ 1
  · by_cases h2 : w ≤ 16
    · have hm : (n : Int).tmod w = (n : Int) % w := Int.tmod_eq_emod_of_nonneg (by omega)
      have hd : (n : Int).tdiv w = (n : Int) / w := Int.tdiv_eq_ediv_of_nonneg (by omega)
      have hle : (n : Int) / w ≤ n := Int.ediv_le_self _ (by omega)
      have h0 : 0 ≤ (n : Int) / w := Int.ediv_nonneg (by omega) (by omega)
      rw [if_pos h1, if_pos h2, hm, hd, if_neg (show ¬ w = 0 by omega), wrap64_id (by omega) (by omega)]
      by_cases h4 : (n : Int) ≥ w
      · rw [if_pos h4]
        by_cases h3 : (n : Int) % w = 0
        · rw [if_pos h3]
          simp [h1, h2, h3, show w ≤ (n : Int) from h4]
        · rw [if_neg h3]
          simp [h3]
      · rw [if_neg h4]
        simp [show ¬ w ≤ (n : Int) from h4]
    · rw [if_pos h1, if_neg h2]
      simp [h2]
  · rw [if_neg h1]
    simp [show ¬ 1 ≤ w from h1]

theorem cells_l0 (c : List Int) (hn : c.length ≤ 35184372088832) (d : Nat) : ∀ i : Nat, i + d = c.length →
    Ev (fun k => impl_GoodCells.l0 k c (c.length : Int) i) (decide (From c.length i fun j => 0 ≤ c.getD j 0 ∧ c.getD j 0 ≤ 2)) ∧ Ev (fun k => spec_GoodCells.l0 k c (c.length : Int) i) (decide (From c.length i fun j => 0 ≤ c.getD j 0 ∧ c.getD j 0 ≤ 2)) := by
  induction d with
  | zero =>
    intro i hi
    have e : decide (From c.length i fun j => 0 ≤ c.getD j 0 ∧ c.getD j 0 ≤ 2) = true := by
      rw [decide_eq_true_eq]
      exact From.end_ (by omega)
    rw [e]
    refine ⟨Ev.succ ?_, Ev.succ ?_⟩
    · simp only [impl_GoodCells.l0]
      exact Ev.neg (by omega) (Ev.some rfl)
    · simp only [spec_GoodCells.l0]
      exact Ev.neg (by omega) (Ev.some rfl)
  | succ d ih =>
    intro i hi
    obtain ⟨a, b⟩ := ih (i + 1) (by omega)
    have step := From.step (n := c.length) (i := i) (C := fun j => 0 ≤ c.getD j 0 ∧ c.getD j 0 ≤ 2) (by omega)
    have e : rd c (i : Int) = c.getD i 0 := rfl
    by_cases h : 0 ≤ c.getD i 0 ∧ c.getD i 0 ≤ 2
    · have e2 : decide (From c.length i fun j => 0 ≤ c.getD j 0 ∧ c.getD j 0 ≤ 2) = decide (From c.length (i + 1) fun j => 0 ≤ c.getD j 0 ∧ c.getD j 0 ≤ 2) := by
        rw [decide_eq_decide]
        exact ⟨fun x => (step.1 x).2, fun x => step.2 ⟨h, x⟩⟩
      rw [e2]
      refine ⟨Ev.succ ?_, Ev.succ ?_⟩
      · simp only [impl_GoodCells.l0, e, succ_w (show i < 35184372088833 by omega)]
        exact Ev.pos (by omega) (Ev.pos (by omega) (Ev.pos (by omega) (Ev.neg (by omega) (Ev.neg (by omega) a))))
      · simp only [spec_GoodCells.l0, e, succ_w (show i < 35184372088833 by omega)]
        exact Ev.pos (by omega) (Ev.pos (by omega) (Ev.pos (by omega) (Ev.neg (by omega) (Ev.neg (by omega) b))))
    · have e2 : decide (From c.length i fun j => 0 ≤ c.getD j 0 ∧ c.getD j 0 ≤ 2) = false := by
        rw [decide_eq_false_iff_not]
        exact fun x => h (step.1 x).1
      rw [e2]
      refine ⟨Ev.succ ?_, Ev.succ ?_⟩
      · simp only [impl_GoodCells.l0, e]
        exact Ev.pos (by omega) (Ev.pos (by omega) (Ev.pos (by omega) (Ev.ite (fun _ => Ev.some rfl) (fun _ => Ev.pos (by omega) (Ev.some rfl)))))
      · simp only [spec_GoodCells.l0, e]
        exact Ev.pos (by omega) (Ev.pos (by omega) (Ev.pos (by omega) (Ev.ite (fun _ => Ev.some rfl) (fun _ => Ev.pos (by omega) (Ev.some rfl)))))
theorem goodCells_impl (w : Int) (c : List Int) (hn : c.length ≤ 35184372088832) : Ev (fun k => impl_GoodCells.f k w c) (decide (Cl w c)) := by
  simp only [impl_GoodCells.f]
  refine Ev.bnd0 (sq_impl w c.length hn) (Ev.ite (fun h => Ev.eq (cells_l0 c hn c.length 0 (by omega)).1 ?_) (fun h => Ev.some ?_))
  · rw [decide_eq_decide]
    exact ⟨fun x => ⟨by simpa using h, x⟩, fun x => x.2⟩
  · symm
    rw [decide_eq_false_iff_not]
    exact fun x => h (by simpa using x.1)
theorem goodCells_spec (w : Int) (c : List Int) (hn : c.length ≤ 35184372088832) : Ev (fun k => spec_GoodCells.f k w c) (decide (Cl w c)) := by
  simp only [spec_GoodCells.f]
  refine Ev.bnd0 (sq_spec w c.length hn) (Ev.ite (fun h => Ev.eq (cells_l0 c hn c.length 0 (by omega)).2 ?_) (fun h => Ev.some ?_))
  · rw [decide_eq_decide]
    exact ⟨fun x => ⟨by simpa using h, x⟩, fun x => x.2⟩
  · symm
    rw [decide_eq_false_iff_not]
    exact fun x => h (by simpa using x.1)

/-- The number of a free cell. -/
def Fr (c : List Int) (a : Int) : Prop := 0 ≤ a ∧ a < c.length ∧ c.getD a.toNat 0 = 0
theorem free_impl (w : Int) (c : List Int) (a : Int) : impl_Cells_free.f w c a = some (decide (Fr c a)) := by
  unfold impl_Cells_free.f
  have e : rd c a = c.getD a.toNat 0 := rfl
  by_cases h1 : a ≥ 0
  · by_cases h2 : a < (c.length : Int)
    · rw [if_pos h1, if_pos h2, if_pos h1, e]
      congr 1
      by_cases h3 : c.getD a.toNat 0 = 0
      · rw [decide_eq_true (p := Fr c a) (And.intro h1 (And.intro h2 h3)), h3]
        rfl
      · rw [decide_eq_false (p := Fr c a) (fun x => h3 x.2.2)]
        simpa using h3
    · rw [if_pos h1, if_neg h2, decide_eq_false (p := Fr c a) (fun x => h2 x.2.1)]
  · rw [if_neg h1, decide_eq_false (p := Fr c a) (fun x => h1 x.1)]
theorem free_spec (w : Int) (c : List Int) (a : Int) : spec_l12Free.f w c a = some (decide (Fr c a)) := free_impl w c a

/-! ### the laws' helpers -/
theorem toCells_ev (w : Int) (c : List Int) (hl : c.length ≤ 1048576) : Ev (fun k => laws_toCells.f k w c) (w, c) := by
  simp only [laws_toCells.f]
  exact Ev.bnd (toIntS_ev c (by omega)) (Ev.some rfl)
theorem eqCells_ev (w : Int) (c : List Int) (hl : c.length ≤ 1048576) : Ev (fun k => laws_eqCells.f k w c w c) true := by
  simp only [laws_eqCells.f]
  exact Ev.pos trivial (Ev.bnd (eqIntS_ev c (by omega)) (Ev.pos rfl (Ev.some rfl)))
theorem szCells_eq (w : Int) (c : List Int) (a : Int) (hl : c.length ≤ 9223372036854775807) (h0 : 0 ≤ a) (h1 : a ≤ 1048576) :
    ∃ r, laws_szCells.f w c a = some r ∧ (¬ r < 0 → (c.length : Int) ≤ a ∧ r ≤ a) := by
  simp only [laws_szCells.f, laws_szIntS.f]
  rw [wrap64_id (x := a - (c.length : Int)) (by omega) (by omega)]
  by_cases h : a - (c.length : Int) < 0
  · exact ⟨-1, by simp [h], by omega⟩
  · exact ⟨a - (c.length : Int), by simp only [h, if_false, Option.bind_some], by omega⟩
end Go.Proofs.Ytcldlljnaijmhaa.Pure

/-
Own text: where a cell lies: its column and its row; the cell beside it.
-/
namespace Go.Proofs.Ytcldlljnaijmhaa.Pure
open Go.RowKit Go.Proofs.YtcldlljnaijmhaaW.PrintWords Go.Proofs.YtcldlljnaijmhaaW.PrintLast Go.Proofs.Ytcldlljnaijmhaa.Pr Go.Proofs.Ytcldlljnaijmhaa.EvKit
open Classical

def X_ (w a : Int) : Int := a % w
def Y_ (w a : Int) : Int := a / w
/-- How many rows. -/
def H_ (w : Int) (c : List Int) : Int := (c.length : Int) / w

section
variable {w : Int} {c : List Int}
theorem Cl.w1 (h : Cl w c) : 1 ≤ w := h.1.1
theorem Cl.w16 (h : Cl w c) : w ≤ 16 := h.1.2.1
theorem Cl.h16 (h : Cl w c) : H_ w c ≤ 16 := h.1.2.2.2.2
theorem Cl.wh (h : Cl w c) : H_ w c * w = c.length := by
  have h1 := Int.mul_ediv_add_emod (c.length : Int) w
  rw [h.1.2.2.1, Int.add_zero, Int.mul_comm] at h1
  exact h1
theorem Cl.h1 (h : Cl w c) : 1 ≤ H_ w c := (Int.le_ediv_iff_mul_le (by have := h.w1; omega)).2 (by rw [Int.one_mul]; exact h.1.2.2.2.1)
theorem mul_le16 {x y : Int} (hx : 0 ≤ x) (hx2 : x ≤ 16) (hy : 0 ≤ y) (hy2 : y ≤ 16) : x * y ≤ 256 ∧ 0 ≤ x * y := by
  have h1 := Int.mul_le_mul hx2 hy2 hy (by omega : (0 : Int) ≤ 16)
  exact ⟨by omega, Int.mul_nonneg hx hy⟩
theorem X_range (h : Cl w c) (a : Int) : 0 ≤ X_ w a ∧ X_ w a < w := ⟨Int.emod_nonneg _ (by have := h.w1; omega), Int.emod_lt_of_pos _ (by have := h.w1; omega)⟩
theorem Y_range (h : Cl w c) {a : Int} (h0 : 0 ≤ a) (h1 : a < c.length) : 0 ≤ Y_ w a ∧ Y_ w a < H_ w c := by
  refine ⟨Int.ediv_nonneg h0 (by have := h.w1; omega), Int.ediv_lt_of_lt_mul (by have := h.w1; omega) ?_⟩
  rw [h.wh]
  exact h1
theorem cell_in (h : Cl w c) {x y : Int} (hx : 0 ≤ x) (hx2 : x < w) (hy : 0 ≤ y) (hy2 : y < H_ w c) : 0 ≤ y * w + x ∧ y * w + x < c.length := by
  have h1 := Int.mul_nonneg hy (show 0 ≤ w by omega)
  have h2 := Int.mul_le_mul_of_nonneg_right (show y ≤ H_ w c - 1 by omega) (show 0 ≤ w by omega)
  have h3 := h.wh
  rw [Int.sub_mul, Int.one_mul] at h2
  omega
theorem tmod_X {a : Int} (h : 0 ≤ a) : a.tmod w = X_ w a := Int.tmod_eq_emod_of_nonneg h
theorem tdiv_Y {a : Int} (h : 0 ≤ a) : a.tdiv w = Y_ w a := Int.tdiv_eq_ediv_of_nonneg h

/-- The cell beside one, -1 beyond the edge. -/
noncomputable def Nx (w : Int) (c : List Int) (a dx dy : Int) : Int :=
  if 0 ≤ X_ w a + dx ∧ X_ w a + dx < w ∧ 0 ≤ Y_ w a + dy ∧ Y_ w a + dy < H_ w c then (Y_ w a + dy) * w + (X_ w a + dx) else -1
theorem next_eq (h : Cl w c) {a dx dy : Int} (h0 : 0 ≤ a) (h1 : a < c.length) (hx : -100 ≤ dx ∧ dx ≤ 100) (hy : -100 ≤ dy ∧ dy ≤ 100) : impl_Cells_next.f w c a dx dy = some (Nx w c a dx dy) := by
  have hX := X_range h a
  have hY := Y_range h h0 h1
  have hw := h.w1
  have hw2 := h.w16
  have hH := h.h16
  unfold impl_Cells_next.f
  rw [if_neg (by omega), tmod_X h0, tdiv_Y h0, show (c.length : Int) / w = H_ w c from rfl]
  rw [wrap64_id (x := Y_ w a) (by omega) (by omega), wrap64_id (x := H_ w c) (by omega) (by omega), wrap64_id (x := X_ w a + dx) (by omega) (by omega), wrap64_id (x := Y_ w a + dy) (by omega) (by omega)]
  by_cases c1 : X_ w a + dx < 0
  · rw [if_pos c1]
    unfold Nx
    rw [if_neg (by omega)]
  · rw [if_neg c1]
    by_cases c2 : X_ w a + dx ≥ w
    · rw [if_pos c2]
      unfold Nx
      rw [if_neg (by omega)]
    · rw [if_neg c2]
      by_cases c3 : Y_ w a + dy < 0
      · rw [if_pos c3]
        unfold Nx
        rw [if_neg (by omega)]
      · rw [if_neg c3]
        by_cases c4 : Y_ w a + dy ≥ H_ w c
        · rw [if_pos c4]
          unfold Nx
          rw [if_neg (by omega)]
        · rw [if_neg c4]
          have hm := mul_le16 (x := Y_ w a + dy) (y := w) (by omega) (by omega) (by omega) hw2
          rw [wrap64_id (x := (Y_ w a + dy) * w) (by omega) (by omega), wrap64_id (by omega) (by omega)]
          unfold Nx
          rw [if_pos (by omega)]
end
end Go.Proofs.Ytcldlljnaijmhaa.Pure

/-
Own text: good trips: the program and the reference come to the same; the laws' helpers on trips.
-/
namespace Go.Proofs.Ytcldlljnaijmhaa.Pure
open Go.RowKit Go.Proofs.YtcldlljnaijmhaaW.PrintWords Go.Proofs.YtcldlljnaijmhaaW.PrintLast Go.Proofs.Ytcldlljnaijmhaa.Pr Go.Proofs.Ytcldlljnaijmhaa.EvKit
open Classical

def TR (l : List S49) (i : Nat) : S49 := l.getD i z49
/-- Trip i is fine: both ends free, no end shared with an earlier one. -/
def Tr1 (c : List Int) (l : List S49) (i : Nat) : Prop := (Fr c (TR l i).f0 ∧ Fr c (TR l i).f1) ∧ From i 0 fun j => ¬ (TR l j).f0 = (TR l i).f0 ∧ ¬ (TR l j).f1 = (TR l i).f1
/-- Good trips. -/
def Gt (w : Int) (c : List Int) (l : List S49) : Prop := Cl w c ∧ l.length ≤ 5 ∧ From l.length 0 (Tr1 c l)

theorem trips_l1 (w : Int) (c : List Int) (l : List S49) (hn : l.length ≤ 5) (i : Nat) (hi : i < l.length) (r : Bool)
    (h1 : (From i 0 fun j => ¬ (TR l j).f0 = (TR l i).f0 ∧ ¬ (TR l j).f1 = (TR l i).f1) → Ev (fun k => impl_GoodTrips.l0 k l l (l.length : Int) ((i + 1 : Nat) : Int) w c) r ∧ Ev (fun k => spec_GoodTrips.l0 k l l (l.length : Int) ((i + 1 : Nat) : Int) w c) r)
    (h2 : ¬ (From i 0 fun j => ¬ (TR l j).f0 = (TR l i).f0 ∧ ¬ (TR l j).f1 = (TR l i).f1) → r = false) (d : Nat) : ∀ j : Nat, j + d = i → (From j 0 fun j => ¬ (TR l j).f0 = (TR l i).f0 ∧ ¬ (TR l j).f1 = (TR l i).f1) →
    Ev (fun k => impl_GoodTrips.l1 k l l (l.length : Int) i (l.take i) (((l.take i).length : Nat) : Int) j w c (TR l i).f0 (TR l i).f1) r ∧ Ev (fun k => spec_GoodTrips.l1 k l i j l (l.length : Int) i w c (TR l i).f0 (TR l i).f1) r := by
  have htl : (l.take i).length = i := by simp; omega
  induction d with
  | zero =>
    intro j hj hu
    obtain ⟨a, b⟩ := h1 (by have e : j = i := by omega
                            subst e
                            exact hu)
    refine ⟨Ev.succ ?_, Ev.succ ?_⟩
    · simp only [impl_GoodTrips.l1, htl, succ_w (show i < 35184372088833 by omega)]
      exact Ev.neg (by omega) a
    · simp only [spec_GoodTrips.l1, succ_w (show i < 35184372088833 by omega)]
      exact Ev.neg (by omega) b
  | succ d ih =>
    intro j hj hu
    have e0 : rd_T49 (l.take i) (j : Int) = TR l j := by
      unfold rd_T49 TR
      simp [List.getD_eq_getElem?_getD, show j < i by omega]
    have e1 : rd_T49 l (j : Int) = TR l j := rfl
    have bad : ¬ (¬ (TR l j).f0 = (TR l i).f0 ∧ ¬ (TR l j).f1 = (TR l i).f1) → r = false := fun h => h2 (fun a => h (a j (by omega) (by omega)))
    by_cases h0 : ¬ (TR l j).f0 = (TR l i).f0 ∧ ¬ (TR l j).f1 = (TR l i).f1
    · obtain ⟨a, b⟩ := ih (j + 1) (by omega) (fun q _ hq2 => by
        by_cases e : q = j
        · exact e ▸ h0
        · exact hu q (by omega) (by omega))
      rw [htl] at a
      refine ⟨Ev.succ ?_, Ev.succ ?_⟩
      · simp only [impl_GoodTrips.l1, htl, e0, succ_w (show j < 35184372088833 by omega)]
        exact Ev.pos (by omega) (Ev.pos (by omega) (Ev.pos (by omega) (Ev.neg h0.1 (Ev.neg h0.2 a))))
      · simp only [spec_GoodTrips.l1, e1, succ_w (show j < 35184372088833 by omega)]
        exact Ev.pos (by omega) (Ev.pos (by omega) (Ev.pos (by omega) (Ev.neg h0.1 (Ev.neg h0.2 b))))
    · have e := bad h0
      refine ⟨Ev.succ ?_, Ev.succ ?_⟩
      · simp only [impl_GoodTrips.l1, htl, e0]
        exact Ev.pos (by omega) (Ev.pos (by omega) (Ev.pos (by omega) (Ev.ite (fun _ => Ev.some e.symm) (fun h => Ev.pos (Classical.byContradiction fun h' => h0 ⟨h, h'⟩) (Ev.some e.symm)))))
      · simp only [spec_GoodTrips.l1, e1]
        exact Ev.pos (by omega) (Ev.pos (by omega) (Ev.pos (by omega) (Ev.ite (fun _ => Ev.some e.symm) (fun h => Ev.pos (Classical.byContradiction fun h' => h0 ⟨h, h'⟩) (Ev.some e.symm)))))

theorem trips_l0 (w : Int) (c : List Int) (l : List S49) (hn : l.length ≤ 5) (d : Nat) : ∀ i : Nat, i + d = l.length →
    Ev (fun k => impl_GoodTrips.l0 k l l (l.length : Int) i w c) (decide (From l.length i (Tr1 c l))) ∧ Ev (fun k => spec_GoodTrips.l0 k l l (l.length : Int) i w c) (decide (From l.length i (Tr1 c l))) := by
  induction d with
  | zero =>
    intro i hi
    have e : decide (From l.length i (Tr1 c l)) = true := by
      rw [decide_eq_true_eq]
      exact From.end_ (by omega)
    rw [e]
    refine ⟨Ev.succ ?_, Ev.succ ?_⟩
    · simp only [impl_GoodTrips.l0]
      exact Ev.neg (by omega) (Ev.some rfl)
    · simp only [spec_GoodTrips.l0]
      exact Ev.neg (by omega) (Ev.some rfl)
  | succ d ih =>
    intro i hi
    have step := From.step (n := l.length) (i := i) (C := Tr1 c l) (by omega)
    have e1 : rd_T49 l (i : Int) = TR l i := rfl
    have nx := ih (i + 1) (by omega)
    have htl : (l.take i).length = i := by simp; omega
    generalize hR : decide (From l.length i (Tr1 c l)) = R
    have bad : ¬ Tr1 c l i → R = false := fun h => by rw [← hR, decide_eq_false_iff_not]; exact fun x => h (step.1 x).1
    have good : Tr1 c l i → R = decide (From l.length (i + 1) (Tr1 c l)) := fun h => by rw [← hR, decide_eq_decide]; exact ⟨fun x => (step.1 x).2, fun x => step.2 ⟨h, x⟩⟩
    have jno : (¬ (Fr c (TR l i).f0 ∧ Fr c (TR l i).f1)) → Ev (fun k => impl_GoodTrips.j2 k l i l (l.length : Int) i true w c (TR l i).f0 (TR l i).f1) R ∧ Ev (fun k => spec_GoodTrips.j2 k l i l (l.length : Int) i true w c (TR l i).f0 (TR l i).f1) R := by
      intro h
      have e := bad (fun x => h x.1)
      refine ⟨Ev.succ ?_, Ev.succ ?_⟩
      · simp only [impl_GoodTrips.j2, if_true]
        exact Ev.some e.symm
      · simp only [spec_GoodTrips.j2, if_true]
        exact Ev.some e.symm
    have jyes : Fr c (TR l i).f0 ∧ Fr c (TR l i).f1 → Ev (fun k => impl_GoodTrips.j2 k l i l (l.length : Int) i false w c (TR l i).f0 (TR l i).f1) R ∧ Ev (fun k => spec_GoodTrips.j2 k l i l (l.length : Int) i false w c (TR l i).f0 (TR l i).f1) R := by
      intro h
      obtain ⟨a, b⟩ := trips_l1 w c l hn i (by omega) R (fun x => by rw [good ⟨h, x⟩]; exact nx) (fun x => bad (fun y => x y.2)) i 0 (by omega) (fun q hq hq2 => by omega)
      refine ⟨Ev.succ ?_, Ev.succ ?_⟩
      · simp only [impl_GoodTrips.j2, Bool.false_eq_true, if_false, Option.bind_some, Int.toNat_natCast]
        exact Ev.pos (by omega) (Ev.pos (by omega) a)
      · simp only [spec_GoodTrips.j2, Bool.false_eq_true, if_false]
        exact b
    by_cases ha : Fr c (TR l i).f0
    · by_cases hb : Fr c (TR l i).f1
      · obtain ⟨a, b⟩ := jyes ⟨ha, hb⟩
        refine ⟨Ev.succ ?_, Ev.succ ?_⟩
        · simp only [impl_GoodTrips.l0, e1]
          refine Ev.pos (by omega) (Ev.pos (by omega) (Ev.pos (by omega) (Ev.bnd0 (free_impl w c _) (Ev.pos (by simpa using ha) (Ev.bnd0 (free_impl w c _) ?_)))))
          rw [decide_eq_true hb]
          exact a
        · simp only [spec_GoodTrips.l0, e1]
          refine Ev.pos (by omega) (Ev.pos (by omega) (Ev.pos (by omega) (Ev.bnd0 (free_spec w c _) (Ev.pos (by simpa using ha) (Ev.bnd0 (free_spec w c _) ?_)))))
          rw [decide_eq_true hb]
          exact b
      · obtain ⟨a, b⟩ := jno (fun x => hb x.2)
        refine ⟨Ev.succ ?_, Ev.succ ?_⟩
        · simp only [impl_GoodTrips.l0, e1]
          refine Ev.pos (by omega) (Ev.pos (by omega) (Ev.pos (by omega) (Ev.bnd0 (free_impl w c _) (Ev.pos (by simpa using ha) (Ev.bnd0 (free_impl w c _) ?_)))))
          rw [decide_eq_false hb]
          exact a
        · simp only [spec_GoodTrips.l0, e1]
          refine Ev.pos (by omega) (Ev.pos (by omega) (Ev.pos (by omega) (Ev.bnd0 (free_spec w c _) (Ev.pos (by simpa using ha) (Ev.bnd0 (free_spec w c _) ?_)))))
          rw [decide_eq_false hb]
          exact b
    · obtain ⟨a, b⟩ := jno (fun x => ha x.1)
      refine ⟨Ev.succ ?_, Ev.succ ?_⟩
      · simp only [impl_GoodTrips.l0, e1]
        exact Ev.pos (by omega) (Ev.pos (by omega) (Ev.pos (by omega) (Ev.bnd0 (free_impl w c _) (Ev.neg (by simpa using ha) a))))
      · simp only [spec_GoodTrips.l0, e1]
        exact Ev.pos (by omega) (Ev.pos (by omega) (Ev.pos (by omega) (Ev.bnd0 (free_spec w c _) (Ev.neg (by simpa using ha) b))))

theorem goodTrips_both (w : Int) (c : List Int) (l : List S49) (hn : c.length ≤ 35184372088832) : Ev (fun k => impl_GoodTrips.f k w c l) (decide (Gt w c l)) ∧ Ev (fun k => spec_GoodTrips.f k w c l) (decide (Gt w c l)) := by
  have no : ¬ Gt w c l → Ev (fun k => impl_GoodTrips.j0 k l true w c) (decide (Gt w c l)) ∧ Ev (fun k => spec_GoodTrips.j0 k l true w c) (decide (Gt w c l)) := by
    intro h
    rw [decide_eq_false h]
    refine ⟨Ev.succ ?_, Ev.succ ?_⟩
    · simp only [impl_GoodTrips.j0, if_true]; exact Ev.some rfl
    · simp only [spec_GoodTrips.j0, if_true]; exact Ev.some rfl
  simp only [impl_GoodTrips.f, spec_GoodTrips.f]
  by_cases hc : Cl w c
  · by_cases h5 : (l.length : Int) > 5
    · obtain ⟨a, b⟩ := no (fun x => by have := x.2.1; omega)
      rw [decide_eq_true h5]
      exact ⟨Ev.bnd (goodCells_impl w c hn) (Ev.pos (by simpa using hc) a), Ev.bnd (goodCells_spec w c hn) (Ev.pos (by simpa using hc) b)⟩
    · obtain ⟨a, b⟩ := trips_l0 w c l (by omega) l.length 0 (by omega)
      have e : decide (Gt w c l) = decide (From l.length 0 (Tr1 c l)) := by
        rw [decide_eq_decide]
        exact ⟨fun x => x.2.2, fun x => ⟨hc, by omega, x⟩⟩
      rw [e, decide_eq_false h5]
      refine ⟨Ev.bnd (goodCells_impl w c hn) (Ev.pos (by simpa using hc) (Ev.succ ?_)), Ev.bnd (goodCells_spec w c hn) (Ev.pos (by simpa using hc) (Ev.succ ?_))⟩
      · simp only [impl_GoodTrips.j0, Bool.false_eq_true, if_false]; exact a
      · simp only [spec_GoodTrips.j0, Bool.false_eq_true, if_false]; exact b
  · obtain ⟨a, b⟩ := no (fun x => hc x.1)
    exact ⟨Ev.bnd (goodCells_impl w c hn) (Ev.neg (by simpa using hc) a), Ev.bnd (goodCells_spec w c hn) (Ev.neg (by simpa using hc) b)⟩

/-! ### the laws' helpers -/
def cpT (x : S47) : S49 := ⟨x.f0, x.f1⟩
theorem toTripS_l0 (l : List S47) (hl : l.length ≤ 1048576) (d : Nat) : ∀ i : Nat, i + d = l.length →
    Ev (fun k => laws_toTripS.l0 k l ((l.take i).map cpT ++ List.replicate (l.length - i) z49) i) (l.map cpT) := by
  induction d with
  | zero =>
    intro i hi
    apply Ev.succ
    simp only [laws_toTripS.l0, show ¬ ((i : Int) < (l.length : Int)) by omega, if_false]
    have : i = l.length := by omega
    subst this
    exact Ev.some (copy_done _ _ _)
  | succ d ih =>
    intro i hi
    apply Ev.succ
    have hlen : ((l.take i).map cpT ++ List.replicate (l.length - i) z49).length = l.length := by simp; omega
    simp only [laws_toTripS.l0, laws_toTrip.f, Option.bind_some, hlen, show ((i : Int) < (l.length : Int)) by omega, show (0 : Int) ≤ (i : Int) by omega, if_true, Int.toNat_natCast, succ_w (show i < 35184372088833 by omega)]
    have := copy_step cpT z49 z47 l i (by omega)
    have e : (⟨(rd_T47 l (i : Int)).f0, (rd_T47 l (i : Int)).f1⟩ : S49) = cpT (l.getD i z47) := rfl
    rw [e, this]
    exact ih (i + 1) (by omega)
theorem toTripS_ev (l : List S47) (hl : l.length ≤ 1048576) : Ev (fun k => laws_toTripS.f k l) (l.map cpT) := by
  simp only [laws_toTripS.f, Int.toNat_natCast, show (0 : Int) ≤ (l.length : Int) by omega, show l.length ≤ 17592186044416 by omega, if_true]
  have := toTripS_l0 l hl l.length 0 (by omega)
  simpa using this
theorem eqTripS_l0 (l : List S49) (hl : l.length ≤ 1048576) (d : Nat) : ∀ i : Nat, i + d = l.length → Ev (fun k => laws_eqTripS.l0 k l l i) true := by
  induction d with
  | zero =>
    intro i hi
    apply Ev.succ
    simp only [laws_eqTripS.l0, show ¬ ((i : Int) < (l.length : Int)) by omega, if_false]
    exact Ev.some rfl
  | succ d ih =>
    intro i hi
    apply Ev.succ
    simp only [laws_eqTripS.l0, laws_eqTrip.f, Option.bind_some, show ((i : Int) < (l.length : Int)) by omega, show (0 : Int) ≤ (i : Int) by omega, if_true, succ_w (show i < 35184372088833 by omega)]
    exact ih (i + 1) (by omega)
theorem eqTripS_ev (l : List S49) (hl : l.length ≤ 1048576) : Ev (fun k => laws_eqTripS.f k l l) true := by
  simp only [laws_eqTripS.f, if_true]
  exact eqTripS_l0 l hl l.length 0 (by omega)
theorem szTripS_eq (l : List S47) (a : Int) (hl : l.length ≤ 9223372036854775807) (h0 : 0 ≤ a) (h1 : a ≤ 1048576) :
    ∃ r, laws_szTripS.f l a = some r ∧ (¬ r < 0 → (l.length : Int) ≤ a ∧ r ≤ a) := by
  simp only [laws_szTripS.f]
  rw [wrap64_id (x := a - (l.length : Int)) (by omega) (by omega)]
  by_cases h : a - (l.length : Int) < 0
  · exact ⟨-1, by simp [h], by omega⟩
  · exact ⟨a - (l.length : Int), by rw [if_neg h], by omega⟩
end Go.Proofs.Ytcldlljnaijmhaa.Pure

/-
Own text: the first tick at which two paths meet: the program and the reference come to the same.
-/
namespace Go.Proofs.Ytcldlljnaijmhaa.Pure
open Go.RowKit Go.Proofs.YtcldlljnaijmhaaW.PrintWords Go.Proofs.YtcldlljnaijmhaaW.PrintLast Go.Proofs.Ytcldlljnaijmhaa.Pr Go.Proofs.Ytcldlljnaijmhaa.EvKit
open Classical

def P_ (l : List (List Int)) (i k : Nat) : Int := (l.getD i []).getD k 0
/-- At the tick k path i meets path j. -/
def Hit (l : List (List Int)) (k i j : Nat) : Prop := P_ l i k = P_ l j k ∨ (0 < k ∧ P_ l i k = P_ l j (k - 1) ∧ P_ l j k = P_ l i (k - 1))
/-- All as long as m. -/
def Long (l : List (List Int)) (m i : Nat) : Prop := From l.length i fun j => (l.getD j []).length = m

theorem hits_eq (l : List (List Int)) (m : Nat) (hm : Long l m 0) (k i j : Nat) (hk : k < m) (hj : j < l.length) (hm2 : m ≤ 1048576) :
    spec_l20Hits.f (rd_L1 l (j : Int)) k (if k > 0 then P_ l i (k - 1) else P_ l i k) (P_ l i k) = some (decide (Hit l k i j)) := by
  have hl : (l.getD j []).length = m := hm j (by omega) hj
  have e : rd_L1 l (j : Int) = l.getD j [] := rfl
  have e2 : rd (l.getD j []) (k : Int) = P_ l j k := rfl
  simp only [spec_l20Hits.f, e, e2, hl, show (0 : Int) ≤ (k : Int) by omega, show (k : Int) < (m : Int) by omega, if_true]
  unfold Hit
  by_cases h1 : P_ l j k = P_ l i k
  · rw [if_pos h1]
    simp [h1]
  · rw [if_neg h1]
    by_cases h2 : k > 0
    · have e3 : rd (l.getD j []) ((k : Int) - 1) = P_ l j (k - 1) := by
        unfold rd P_
        rw [show ((k : Int) - 1).toNat = k - 1 by omega]
      rw [if_pos (show (k : Int) > 0 by omega), wrap64_id (x := (k : Int) - 1) (by omega) (by omega), if_pos (by omega), if_pos (by omega), e3, if_pos h2]
      by_cases h3 : P_ l j (k - 1) = P_ l i k
      · rw [if_pos h3]
        congr 1
        have h1' : ¬ P_ l i k = P_ l j k := fun h => h1 h.symm
        simp [h1', h2, h3]
        rfl
      · rw [if_neg h3]
        have h1' : ¬ P_ l i k = P_ l j k := fun h => h1 h.symm
        have h3' : ¬ P_ l i k = P_ l j (k - 1) := fun h => h3 h.symm
        simp [h1', h3']
    · rw [if_neg (show ¬ (k : Int) > 0 by omega)]
      have h1' : ¬ P_ l i k = P_ l j k := fun h => h1 h.symm
      have h2' : ¬ 0 < k := h2
      simp [h1', h2']

theorem spec_m3 (l : List (List Int)) (m : Nat) (hm : Long l m 0) (hn : l.length ≤ 5) (hm2 : m ≤ 1048576) (k i : Nat) (hk : k < m) (hi : i < l.length) (r : Int) (d : Nat) : ∀ j : Nat, j + d = i →
    (Some_ i j (Hit l k i) → r = k) → (¬ Some_ i j (Hit l k i) → Ev (fun q => spec_FirstMeet.l2 q l k m k l (l.length : Int) ((i + 1 : Nat) : Int)) r) →
    Ev (fun q => spec_FirstMeet.l3 q l k i (l.getD i []) j m k l (l.length : Int) i) r := by
  induction d with
  | zero =>
    intro j hj h1 h2
    apply Ev.succ
    simp only [spec_FirstMeet.l3, show ¬ ((j : Int) < (i : Int)) by omega, if_false, succ_w (show i < 35184372088833 by omega)]
    exact h2 (Some_.end_ (by omega))
  | succ d ih =>
    intro j hj h1 h2
    have step := Some_.step (n := i) (i := j) (C := Hit l k i) (by omega)
    have hli : (l.getD i []).length = m := hm i (by omega) hi
    have next := ih (j + 1) (by omega) (fun h => h1 (step.2 (Or.inr h)))
    have he := hits_eq l m hm k i j hk (by omega) hm2
    have e1 : rd (l.getD i []) (k : Int) = P_ l i k := rfl
    apply Ev.succ
    simp only [spec_FirstMeet.l3, hli, show (j : Int) < (i : Int) by omega, show (0 : Int) ≤ (k : Int) by omega, show (k : Int) < (m : Int) by omega, show (0 : Int) ≤ (j : Int) by omega, show (j : Int) < (l.length : Int) by omega, if_true, succ_w (show j < 35184372088833 by omega), e1]
    have fin : ∀ b, b = decide (Hit l k i j) → Ev (fun q => if b = true then some (k : Int) else spec_FirstMeet.l3 q l k i (l.getD i []) ((j + 1 : Nat) : Int) m k l (l.length : Int) i) r := by
      intro b hb
      subst hb
      refine Ev.ite (fun h => Ev.some (h1 (step.2 (Or.inl (by simpa using h)))).symm) (fun h => next (fun h' => h2 (fun a => (step.1 a).elim (fun b => h (by simpa using b)) h')))
    by_cases hk0 : k > 0
    · have e3 : rd (l.getD i []) ((k : Int) - 1) = P_ l i (k - 1) := by
        unfold rd P_
        rw [show ((k : Int) - 1).toNat = k - 1 by omega]
      rw [if_pos hk0] at he
      simp only [wrap64_id (x := (k : Int) - 1) (by omega) (by omega), e3]
      exact Ev.pos (by omega) (Ev.pos (by omega) (Ev.pos (by omega) (Ev.bnd0 he (fin _ rfl))))
    · rw [if_neg hk0] at he
      exact Ev.neg (by omega) (Ev.bnd0 he (fin _ rfl))

theorem impl_m3 (l : List (List Int)) (m : Nat) (hm : Long l m 0) (hn : l.length ≤ 5) (hm2 : m ≤ 1048576) (k i : Nat) (hk : k < m) (hi : i < l.length) (r : Int) (d : Nat) : ∀ j : Nat, j + d = i →
    (Some_ i j (Hit l k i) → r = k) → (¬ Some_ i j (Hit l k i) → Ev (fun q => impl_FirstMeet.l2 q l k m k l (l.length : Int) ((i + 1 : Nat) : Int)) r) →
    Ev (fun q => impl_FirstMeet.l3 q l k (l.getD i []) m k l (l.length : Int) i (l.take i) (((l.take i).length : Nat) : Int) j) r := by
  have htl : (l.take i).length = i := by simp; omega
  induction d with
  | zero =>
    intro j hj h1 h2
    apply Ev.succ
    simp only [impl_FirstMeet.l3, htl, show ¬ ((j : Int) < (i : Int)) by omega, if_false, succ_w (show i < 35184372088833 by omega)]
    exact h2 (Some_.end_ (by omega))
  | succ d ih =>
    intro j hj h1 h2
    have step := Some_.step (n := i) (i := j) (C := Hit l k i) (by omega)
    have hli : (l.getD i []).length = m := hm i (by omega) hi
    have hlj : (l.getD j []).length = m := hm j (by omega) (by omega)
    have next := ih (j + 1) (by omega) (fun h => h1 (step.2 (Or.inr h)))
    have e1 : rd (l.getD i []) (k : Int) = P_ l i k := rfl
    have e2 : rd (l.getD j []) (k : Int) = P_ l j k := rfl
    have e0 : rd_L1 (l.take i) (j : Int) = l.getD j [] := by
      unfold rd_L1
      simp [List.getD_eq_getElem?_getD, show j < i by omega]
    apply Ev.succ
    rw [htl] at next
    simp only [impl_FirstMeet.l3, htl, e0, hli, hlj, show (j : Int) < (i : Int) by omega, show (0 : Int) ≤ (k : Int) by omega, show (k : Int) < (m : Int) by omega, show (0 : Int) ≤ (j : Int) by omega, if_true, succ_w (show j < 35184372088833 by omega), e1, e2]
    have no : (¬ Hit l k i j) → Ev (fun q => impl_FirstMeet.l3 q l k (l.getD i []) m k l (l.length : Int) i (l.take i) (i : Int) ((j + 1 : Nat) : Int)) r := fun h => next (fun h' => h2 (fun a => (step.1 a).elim h h'))
    have yes : Hit l k i j → Ev (fun _ => some (k : Int)) r := fun h => Ev.some (h1 (step.2 (Or.inl h))).symm
    unfold Hit at no yes
    refine Ev.ite (fun h => yes (Or.inl h)) (fun h => Ev.ite (fun hk0 => ?_) (fun hk0 => no (fun a => a.elim h (fun b => hk0 (by omega)))))
    have e3 : rd (l.getD i []) ((k : Int) - 1) = P_ l i (k - 1) := by
      unfold rd P_
      rw [show ((k : Int) - 1).toNat = k - 1 by omega]
    have e4 : rd (l.getD j []) ((k : Int) - 1) = P_ l j (k - 1) := by
      unfold rd P_
      rw [show ((k : Int) - 1).toNat = k - 1 by omega]
    simp only [wrap64_id (x := (k : Int) - 1) (by omega) (by omega), e3, e4]
    refine Ev.pos (by omega) (Ev.pos (by omega) (Ev.ite (fun h3 => Ev.pos (by omega) (Ev.ite (fun h4 => yes (Or.inr ⟨by omega, h3, h4⟩)) (fun h4 => no (fun a => a.elim h (fun b => h4 b.2.2))))) (fun h3 => no (fun a => a.elim h (fun b => h3 b.2.1)))))

/-- At the tick k two meet, the later one from i on. -/
def Two (l : List (List Int)) (k i : Nat) : Prop := Some_ l.length i fun p => Some_ p 0 (Hit l k p)

theorem both_m2 (l : List (List Int)) (m : Nat) (hm : Long l m 0) (hn : l.length ≤ 5) (hm2 : m ≤ 1048576) (k : Nat) (hk : k < m) (r : Int) (d : Nat) : ∀ i : Nat, i + d = l.length → (Two l k i → r = k) →
    (¬ Two l k i → Ev (fun q => spec_FirstMeet.l1 q l m ((k + 1 : Nat) : Int)) r ∧ Ev (fun q => impl_FirstMeet.l1 q l m ((k + 1 : Nat) : Int)) r) →
    Ev (fun q => spec_FirstMeet.l2 q l k m k l (l.length : Int) i) r ∧ Ev (fun q => impl_FirstMeet.l2 q l k m k l (l.length : Int) i) r := by
  induction d with
  | zero =>
    intro i hi h1 h2
    obtain ⟨a, b⟩ := h2 (Some_.end_ (by omega))
    refine ⟨Ev.succ ?_, Ev.succ ?_⟩
    · simp only [spec_FirstMeet.l2, show ¬ ((i : Int) < (l.length : Int)) by omega, if_false, succ_w (show k < 35184372088833 by omega)]
      exact a
    · simp only [impl_FirstMeet.l2, show ¬ ((i : Int) < (l.length : Int)) by omega, if_false, succ_w (show k < 35184372088833 by omega)]
      exact b
  | succ d ih =>
    intro i hi h1 h2
    have step := Some_.step (n := l.length) (i := i) (C := fun p => Some_ p 0 (Hit l k p)) (by omega)
    have next := fun h => ih (i + 1) (by omega) (fun a => h1 (step.2 (Or.inr a))) (fun a => h2 (fun b => (step.1 b).elim h a))
    refine ⟨Ev.succ ?_, Ev.succ ?_⟩
    · simp only [spec_FirstMeet.l2]
      exact Ev.pos (by omega) (Ev.pos (by omega) (Ev.pos (by omega) (spec_m3 l m hm hn hm2 k i hk (by omega) r i 0 (by omega) (fun a => h1 (step.2 (Or.inl a))) (fun a => (next a).1))))
    · simp only [impl_FirstMeet.l2, Option.bind_some, Int.toNat_natCast]
      exact Ev.pos (by omega) (Ev.pos (by omega) (Ev.pos (by omega) (Ev.pos (by omega) (impl_m3 l m hm hn hm2 k i hk (by omega) r i 0 (by omega) (fun a => h1 (step.2 (Or.inl a))) (fun a => (next a).2)))))

theorem both_m1 (l : List (List Int)) (m : Nat) (hm : Long l m 0) (hn : l.length ≤ 5) (hm2 : m ≤ 1048576) (d : Nat) : ∀ k : Nat, k + d = m →
    ∃ r : Int, (r = -1 ∨ (k ≤ r ∧ r < m)) ∧ (∀ q : Nat, k ≤ q → q < m → Two l q 0 → r ≠ -1 ∧ r ≤ q) ∧ (∀ q : Nat, r = q → Two l q 0) ∧
      Ev (fun q => spec_FirstMeet.l1 q l m k) r ∧ Ev (fun q => impl_FirstMeet.l1 q l m k) r := by
  induction d with
  | zero =>
    intro k hk
    refine ⟨-1, Or.inl rfl, fun q h1 h2 _ => by omega, fun q h => by omega, Ev.succ ?_, Ev.succ ?_⟩
    · simp only [spec_FirstMeet.l1, show ¬ ((k : Int) < (m : Int)) by omega, if_false]
      exact Ev.some rfl
    · simp only [impl_FirstMeet.l1, show ¬ ((k : Int) < (m : Int)) by omega, if_false]
      exact Ev.some rfl
  | succ d ih =>
    intro k hk
    obtain ⟨r, p1, p2, p3, p4, p5⟩ := ih (k + 1) (by omega)
    by_cases ht : Two l k 0
    · obtain ⟨a, b⟩ := both_m2 l m hm hn hm2 k (by omega) k l.length 0 (by omega) (fun _ => rfl) (fun h => absurd ht h)
      refine ⟨k, Or.inr ⟨by omega, by omega⟩, fun q h1 h2 _ => ⟨by omega, by omega⟩, fun q h => by rw [show q = k by omega]; exact ht, Ev.succ ?_, Ev.succ ?_⟩
      · simp only [spec_FirstMeet.l1]
        exact Ev.pos (by omega) a
      · simp only [impl_FirstMeet.l1]
        exact Ev.pos (by omega) b
    · obtain ⟨a, b⟩ := both_m2 l m hm hn hm2 k (by omega) r l.length 0 (by omega) (fun h => absurd h ht) (fun _ => ⟨p4, p5⟩)
      refine ⟨r, p1.imp id (fun h => ⟨by omega, h.2⟩), fun q h1 h2 h3 => ?_, p3, Ev.succ ?_, Ev.succ ?_⟩
      · by_cases e : q = k
        · subst e; exact absurd h3 ht
        · exact p2 q (by omega) h2 h3
      · simp only [spec_FirstMeet.l1]
        exact Ev.pos (by omega) a
      · simp only [impl_FirstMeet.l1]
        exact Ev.pos (by omega) b

theorem both_m0 (l : List (List Int)) (hn : l.length ≤ 5) (m : Nat) (hm : m = (l.getD 0 []).length) (r : Int) (d : Nat) : ∀ i : Nat, i + d = l.length →
    (Long l m i → (l.length = 0 → r = -1) ∧ (l.length ≠ 0 → Ev (fun q => spec_FirstMeet.l1 q l m 0) r ∧ Ev (fun q => impl_FirstMeet.l1 q l m 0) r)) → (¬ Long l m i → r = -1) →
    Ev (fun q => spec_FirstMeet.l0 q l l (l.length : Int) i) r ∧ Ev (fun q => impl_FirstMeet.l0 q l l (l.length : Int) i) r := by
  have e0 : ∀ i : Nat, rd_L1 l (i : Int) = l.getD i [] := fun i => rfl
  have e00 : rd_L1 l 0 = l.getD 0 [] := rfl
  induction d with
  | zero =>
    intro i hi h1 h2
    obtain ⟨h3, h4⟩ := h1 (From.end_ (by omega))
    by_cases hz : l.length = 0
    · have e : r = -1 := h3 hz
      refine ⟨Ev.succ ?_, Ev.succ ?_⟩
      · simp only [spec_FirstMeet.l0]
        exact Ev.neg (by omega) (Ev.pos (by omega) (Ev.some e.symm))
      · simp only [impl_FirstMeet.l0]
        exact Ev.neg (by omega) (Ev.pos (by omega) (Ev.some e.symm))
    · obtain ⟨a, b⟩ := h4 hz
      refine ⟨Ev.succ ?_, Ev.succ ?_⟩
      · simp only [spec_FirstMeet.l0, e00, ← hm]
        exact Ev.neg (by omega) (Ev.neg (by omega) (Ev.pos (by omega) a))
      · simp only [impl_FirstMeet.l0, e00, ← hm]
        exact Ev.neg (by omega) (Ev.neg (by omega) (Ev.pos (by omega) b))
  | succ d ih =>
    intro i hi h1 h2
    have step := From.step (n := l.length) (i := i) (C := fun j => (l.getD j []).length = m) (by omega)
    by_cases he : (l.getD i []).length = m
    · obtain ⟨a, b⟩ := ih (i + 1) (by omega) (fun h => h1 (step.2 ⟨he, h⟩)) (fun h => h2 (fun a => h (step.1 a).2))
      refine ⟨Ev.succ ?_, Ev.succ ?_⟩
      · simp only [spec_FirstMeet.l0, e0, e00, ← hm, succ_w (show i < 35184372088833 by omega)]
        exact Ev.pos (by omega) (Ev.pos (by omega) (Ev.pos (by omega) (Ev.pos (by omega) (Ev.pos (by omega) a))))
      · simp only [impl_FirstMeet.l0, e0, e00, ← hm, succ_w (show i < 35184372088833 by omega)]
        exact Ev.pos (by omega) (Ev.pos (by omega) (Ev.pos (by omega) (Ev.pos (by omega) (Ev.pos (by omega) b))))
    · have e : r = -1 := h2 (fun a => he (step.1 a).1)
      refine ⟨Ev.succ ?_, Ev.succ ?_⟩
      · simp only [spec_FirstMeet.l0, e0, e00, ← hm]
        exact Ev.pos (by omega) (Ev.pos (by omega) (Ev.pos (by omega) (Ev.pos (by omega) (Ev.neg (by omega) (Ev.some e.symm)))))
      · simp only [impl_FirstMeet.l0, e0, e00, ← hm]
        exact Ev.pos (by omega) (Ev.pos (by omega) (Ev.pos (by omega) (Ev.pos (by omega) (Ev.neg (by omega) (Ev.some e.symm)))))

/-- FirstMeet, both: -1, or the first tick at which two meet. -/
theorem meet_both (l : List (List Int)) (hr : ∀ x ∈ l, x.length ≤ 1048576) : ∃ r : Int,
    (l.length ≤ 5 → l.length ≠ 0 → Long l (l.getD 0 []).length 0 → (∀ q : Nat, q < (l.getD 0 []).length → Two l q 0 → r ≠ -1)) ∧ (∀ q : Nat, r = q → Two l q 0) ∧ (r = -1 ∨ 0 ≤ r) ∧
    Ev (fun q => impl_FirstMeet.f q l) r ∧ Ev (fun q => spec_FirstMeet.f q l) r := by
  simp only [impl_FirstMeet.f, spec_FirstMeet.f]
  by_cases h5 : (l.length : Int) > 5
  · exact ⟨-1, by omega, by omega, Or.inl rfl, Ev.pos h5 (Ev.some rfl), Ev.pos h5 (Ev.some rfl)⟩
  · by_cases hz : l.length = 0
    · obtain ⟨a, b⟩ := both_m0 l (by omega) _ rfl (-1) l.length 0 (by omega) (fun _ => ⟨fun _ => rfl, fun h => absurd hz h⟩) (fun _ => rfl)
      exact ⟨-1, by omega, by omega, Or.inl rfl, Ev.neg h5 b, Ev.neg h5 a⟩
    · by_cases hm : Long l (l.getD 0 []).length 0
      · have hb := hr _ (getD_mem l 0 [] (by omega))
        obtain ⟨r, p1, p2, p3, p4, p5⟩ := both_m1 l _ hm (by omega) hb _ 0 (Nat.zero_add _)
        obtain ⟨a, b⟩ := both_m0 l (by omega) _ rfl r l.length 0 (by omega) (fun _ => ⟨fun h => absurd h hz, fun _ => ⟨p4, p5⟩⟩) (fun h => absurd hm h)
        exact ⟨r, fun _ _ _ q hq ht => (p2 q (by omega) hq ht).1, p3, p1.imp id (fun h => by omega), Ev.neg h5 b, Ev.neg h5 a⟩
      · obtain ⟨a, b⟩ := both_m0 l (by omega) _ rfl (-1) l.length 0 (by omega) (fun h => absurd h hm) (fun _ => rfl)
        exact ⟨-1, fun _ _ h => absurd h hm, by omega, Or.inl rfl, Ev.neg h5 b, Ev.neg h5 a⟩
end Go.Proofs.Ytcldlljnaijmhaa.Pure

/-
Own text: good paths: the places to go next, the two checks.
-/
namespace Go.Proofs.Ytcldlljnaijmhaa.Pure
open Go.RowKit Go.Proofs.YtcldlljnaijmhaaW.PrintWords Go.Proofs.YtcldlljnaijmhaaW.PrintLast Go.Proofs.Ytcldlljnaijmhaa.Pr Go.Proofs.Ytcldlljnaijmhaa.EvKit
open Classical

/-- n if n is the number of a free cell, else -1. -/
noncomputable def Fo (c : List Int) (n : Int) : Int := if Fr c n then n else -1

theorem l12_go {w : Int} {c : List Int} (h : Cl w c) {x y : Int} (_ : -9 ≤ x ∧ x ≤ 99) (hy : -9 ≤ y ∧ y ≤ 99) :
    ((spec_l12Has.f w (c.length : Int) x y).bind fun t => (if t = true then (if 0 ≤ (wrap64 ((wrap64 (y * w)) + x)) then (if (wrap64 ((wrap64 (y * w)) + x)) < (c.length : Int) then (if (rd c (wrap64 ((wrap64 (y * w)) + x))) = 0 then (some (wrap64 ((wrap64 (y * w)) + x))) else (some (-1))) else (none)) else (none)) else (some (-1)))) = some (Fo c (if 0 ≤ x ∧ x < w ∧ 0 ≤ y ∧ y < H_ w c then y * w + x else -1)) := by
  have hw := h.w1
  have hw2 := h.w16
  have hH := h.h16
  have hH1 := h.h1
  have hn : ¬ Fr c (-1) := fun a => by have := a.1; omega
  have hd : wrap64 ((c.length : Int).tdiv w) = H_ w c := by
    rw [Int.tdiv_eq_ediv_of_nonneg (by omega), show (c.length : Int) / w = H_ w c from rfl, wrap64_id (by omega) (by omega)]
  have has : spec_l12Has.f w (c.length : Int) x y = some (decide (0 ≤ x ∧ x < w ∧ 0 ≤ y ∧ y < H_ w c)) := by
    unfold spec_l12Has.f
    rw [hd]
    by_cases a1 : x ≥ 0
    · rw [if_pos a1]
      by_cases a2 : x < w
      · rw [if_pos a2]
        by_cases a3 : y ≥ 0
        · rw [if_pos a3, if_neg (by omega)]
          simp [show 0 ≤ x from a1, a2, show 0 ≤ y from a3]
        · rw [if_neg a3]
          simp [show ¬ 0 ≤ y from a3]
      · rw [if_neg a2]
        simp [a2]
    · rw [if_neg a1]
      simp [show ¬ 0 ≤ x from a1]
  rw [has, Option.bind_some]
  by_cases hin : 0 ≤ x ∧ x < w ∧ 0 ≤ y ∧ y < H_ w c
  · have hm := mul_le16 (x := y) (y := w) (by omega) (by omega) (by omega) hw2
    have hc := cell_in h hin.1 hin.2.1 hin.2.2.1 hin.2.2.2
    rw [if_pos (by simpa using hin), if_pos hin, wrap64_id (x := y * w) (by omega) (by omega), wrap64_id (x := y * w + x) (by omega) (by omega), if_pos hc.1, if_pos hc.2]
    have e : rd c (y * w + x) = c.getD (y * w + x).toNat 0 := rfl
    rw [e]
    unfold Fo
    by_cases hz : c.getD (y * w + x).toNat 0 = 0
    · rw [if_pos hz, if_pos (show Fr c _ from And.intro hc.1 (And.intro hc.2 hz))]
    · rw [if_neg hz, if_neg (show ¬ Fr c _ from fun a => hz a.2.2)]
  · rw [if_neg (by simpa using hin), if_neg hin]
    unfold Fo
    rw [if_neg hn]

/-- The way's step, as both name it. -/
def dX (k : Int) : Int := if k = 0 then 1 else if k = 1 then 0 else if k = 2 then -1 else 0
def dY (k : Int) : Int := if k = 0 then 0 else if k = 1 then 1 else if k = 2 then 0 else -1

theorem along_eq {w : Int} {c : List Int} (h : Cl w c) {a : Int} (h0 : 0 ≤ a) (h1 : a < c.length) (k : Int) (hk : 0 ≤ k) (hk2 : k ≤ 3) : impl_Cells_along.f w c a k = some (Nx w c a (dX k) (dY k)) := by
  unfold impl_Cells_along.f
  have : k = 0 ∨ k = 1 ∨ k = 2 ∨ k = 3 := by omega
  rcases this with rfl | rfl | rfl | rfl <;> simp only [Int.reduceEq, if_true, if_false] <;> exact next_eq h h0 h1 (by decide) (by decide)

theorem l12_eq {w : Int} {c : List Int} (h : Cl w c) {a : Int} (h0 : 0 ≤ a) (h1 : a < c.length) (k : Int) (hk : 0 ≤ k) (hk2 : k ≤ 3) : spec_l12Next.f w c a k = some (Fo c (Nx w c a (dX k) (dY k))) := by
  have hX := X_range h a
  have hY := Y_range h h0 h1
  have hw := h.w1
  have hw2 := h.w16
  have hH := h.h16
  unfold spec_l12Next.f
  rw [if_neg (by omega), tmod_X h0, tdiv_Y h0, wrap64_id (x := Y_ w a) (by omega) (by omega), wrap64_id (x := X_ w a + 1) (by omega) (by omega), wrap64_id (x := Y_ w a + 1) (by omega) (by omega), wrap64_id (x := X_ w a - 1) (by omega) (by omega), wrap64_id (x := Y_ w a - 1) (by omega) (by omega)]
  have : k = 0 ∨ k = 1 ∨ k = 2 ∨ k = 3 := by omega
  rcases this with rfl | rfl | rfl | rfl <;> simp only [Int.reduceEq, if_true, if_false] <;> rw [l12_go h (by omega) (by omega)] <;> unfold Nx dX dY <;> simp only [Int.reduceEq, if_true, if_false, Int.add_zero] <;> rfl

theorem next_l0 (ys : List Int) (hn : ys.length ≤ 100) (d : Nat) : ∀ (i : Nat) (acc : List Int), i + d = ys.length → acc.length ≤ i → Ev (fun k => spec_l20Next.l0 k acc ys (ys.length : Int) i) (acc ++ (ys.drop i).filter fun v => decide (v ≥ 0)) := by
  induction d with
  | zero =>
    intro i acc hi ha
    apply Ev.succ
    simp only [spec_l20Next.l0]
    rw [List.drop_eq_nil_of_le (by omega)]
    exact Ev.neg (by omega) (Ev.some (by simp))
  | succ d ih =>
    intro i acc hi ha
    apply Ev.succ
    have e : rd ys (i : Int) = ys[i]'(by omega) := by
      unfold rd
      rw [List.getD_eq_getElem?_getD, Int.toNat_natCast, List.getElem?_eq_getElem (by omega)]
      rfl
    rw [List.drop_eq_getElem_cons (show i < ys.length by omega), List.filter_cons]
    simp only [spec_l20Next.l0, e, succ_w (show i < 35184372088833 by omega)]
    refine Ev.pos (by omega) (Ev.pos (by omega) (Ev.pos (by omega) (Ev.ite (fun hp => Ev.pos (by omega) ?_) (fun hp => ?_))))
    · rw [if_pos (by simpa using hp)]
      exact Ev.eq (ih (i + 1) (acc ++ [ys[i]'(by omega)]) (by omega) (by simp; omega)) (by simp)
    · rw [if_neg (by simpa using hp)]
      exact ih (i + 1) acc (by omega) (by omega)
theorem goes_l0 (w : Int) (c : List Int) (ys : List Int) (hn : ys.length ≤ 100) (d : Nat) : ∀ (i : Nat) (acc : List Int), i + d = ys.length → acc.length ≤ i → Ev (fun k => impl_Cells_goes.l0 k acc ys (ys.length : Int) i w c) (acc ++ (ys.drop i).filter fun v => decide (Fr c v)) := by
  induction d with
  | zero =>
    intro i acc hi ha
    apply Ev.succ
    simp only [impl_Cells_goes.l0]
    rw [List.drop_eq_nil_of_le (by omega)]
    exact Ev.neg (by omega) (Ev.some (by simp))
  | succ d ih =>
    intro i acc hi ha
    apply Ev.succ
    have e : rd ys (i : Int) = ys[i]'(by omega) := by
      unfold rd
      rw [List.getD_eq_getElem?_getD, Int.toNat_natCast, List.getElem?_eq_getElem (by omega)]
      rfl
    rw [List.drop_eq_getElem_cons (show i < ys.length by omega), List.filter_cons]
    simp only [impl_Cells_goes.l0, e, succ_w (show i < 35184372088833 by omega)]
    refine Ev.pos (by omega) (Ev.pos (by omega) (Ev.pos (by omega) (Ev.bnd0 (free_impl w c _) (Ev.ite (fun hp => Ev.pos (by omega) ?_) (fun hp => ?_)))))
    · rw [if_pos hp]
      exact Ev.eq (ih (i + 1) (acc ++ [ys[i]'(by omega)]) (by omega) (by simp; omega)) (by simp)
    · rw [if_neg hp]
      exact ih (i + 1) acc (by omega) (by omega)

/-- Where one may be a tick later. -/
noncomputable def Gos (w : Int) (c : List Int) (a : Int) : List Int := ([Nx w c a 0 (-1), Nx w c a (-1) 0, a, Nx w c a 1 0, Nx w c a 0 1]).filter fun v => decide (Fr c v)
theorem Gos_free {w : Int} {c : List Int} {a v : Int} (h : v ∈ Gos w c a) : Fr c v := by
  have := (List.mem_filter.1 h).2
  simpa using this
theorem fo_cons (c : List Int) (n : Int) (l m : List Int) (h : l = m) : (if decide (Fo c n ≥ 0) = true then Fo c n :: l else l) = if decide (Fr c n) = true then n :: m else m := by
  subst h
  unfold Fo
  by_cases hf : Fr c n
  · rw [if_pos hf, if_pos (by simpa using hf.1), if_pos (by simpa using hf)]
  · rw [if_neg hf, if_neg (by simp), if_neg (by simpa using hf)]
theorem goes_ev {w : Int} {c : List Int} (h : Cl w c) {a : Int} (hf : Fr c a) : Ev (fun k => impl_Cells_goes.f k w c a) (Gos w c a) ∧ Ev (fun k => spec_l20Next.f k w c a) (Gos w c a) := by
  have h0 := hf.1
  have h1 := hf.2.1
  constructor
  · simp only [impl_Cells_goes.f, along_eq h h0 h1 3 (by omega) (by omega), along_eq h h0 h1 2 (by omega) (by omega), along_eq h h0 h1 0 (by omega) (by omega), along_eq h h0 h1 1 (by omega) (by omega), Option.bind_some]
    have := goes_l0 w c [Nx w c a (dX 3) (dY 3), Nx w c a (dX 2) (dY 2), a, Nx w c a (dX 0) (dY 0), Nx w c a (dX 1) (dY 1)] (by simp) 5 0 [] rfl (Nat.le_refl _)
    exact this
  · simp only [spec_l20Next.f, l12_eq h h0 h1 3 (by omega) (by omega), l12_eq h h0 h1 2 (by omega) (by omega), l12_eq h h0 h1 0 (by omega) (by omega), l12_eq h h0 h1 1 (by omega) (by omega), Option.bind_some]
    have := next_l0 [Fo c (Nx w c a (dX 3) (dY 3)), Fo c (Nx w c a (dX 2) (dY 2)), a, Fo c (Nx w c a (dX 0) (dY 0)), Fo c (Nx w c a (dX 1) (dY 1))] (by simp) 5 0 [] rfl (Nat.le_refl _)
    refine Ev.eq this ?_
    have ea : a = Fo c a := by unfold Fo; rw [if_pos hf]
    unfold Gos
    rw [List.nil_append, List.drop_zero]
    conv => lhs; arg 2; arg 2; arg 2; arg 1; rw [ea]
    simp only [List.filter_cons, List.filter_nil]
    exact fo_cons c _ _ _ (fo_cons c _ _ _ (fo_cons c _ _ _ (fo_cons c _ _ _ (fo_cons c _ _ _ rfl))))

theorem gp_l2 (w : Int) (c : List Int) (x1 : List S49) (x2 : List (List Int)) (p : List Int) (j i : Nat) (hj : j < p.length) (t : List Int) (ht : t.length ≤ 100) (d : Nat) : ∀ (m : Nat) (b : Bool), m + d = t.length →
    ((b = true ∨ ∃ q : Nat, m ≤ q ∧ q < t.length ∧ t.getD q 0 = p.getD j 0) → ∃ r, Ev (fun k => impl_GoodPaths.l1 k x1 x2 p (p.length : Int) (wrap64 ((j : Int) + 1)) x2 (x2.length : Int) i w c) r ∧ Ev (fun k => spec_GoodPaths.l1 k x1 x2 p (wrap64 ((j : Int) + 1)) x2 (x2.length : Int) i w c) r) →
    ∃ r, Ev (fun k => impl_GoodPaths.l2 k x1 x2 p (p.length : Int) j b x2 (x2.length : Int) i t (t.length : Int) m w c) r ∧ Ev (fun k => spec_GoodPaths.l2 k x1 x2 p j b x2 (x2.length : Int) i t (t.length : Int) m w c) r := by
  induction d with
  | zero =>
    intro m b hm hN
    cases b with
    | true =>
      obtain ⟨r, e1, e2⟩ := hN (Or.inl rfl)
      refine ⟨r, Ev.succ ?_, Ev.succ ?_⟩
      · simp only [impl_GoodPaths.l2]
        exact Ev.neg (by omega) (Ev.pos trivial e1)
      · simp only [spec_GoodPaths.l2]
        exact Ev.neg (by omega) (Ev.pos trivial e2)
    | false =>
      refine ⟨false, Ev.succ ?_, Ev.succ ?_⟩
      · simp only [impl_GoodPaths.l2]
        exact Ev.neg (by omega) (Ev.neg (by simp) (Ev.some rfl))
      · simp only [spec_GoodPaths.l2]
        exact Ev.neg (by omega) (Ev.neg (by simp) (Ev.some rfl))
  | succ d ih =>
    intro m b hm hN
    have e1 : rd t (m : Int) = t.getD m 0 := rfl
    have e2 : rd p (j : Int) = p.getD j 0 := rfl
    cases b with
    | true =>
      obtain ⟨r, a1, a2⟩ := ih (m + 1) true (by omega) (fun _ => hN (Or.inl rfl))
      refine ⟨r, Ev.succ ?_, Ev.succ ?_⟩
      · simp only [impl_GoodPaths.l2, succ_w (show m < 35184372088833 by omega)]
        exact Ev.pos (by omega) (Ev.pos (by omega) (Ev.pos (by omega) (Ev.pos trivial a1)))
      · simp only [spec_GoodPaths.l2, succ_w (show m < 35184372088833 by omega)]
        exact Ev.pos (by omega) (Ev.pos (by omega) (Ev.pos (by omega) (Ev.pos trivial a2)))
    | false =>
      obtain ⟨r, a1, a2⟩ := ih (m + 1) (t.getD m 0 == p.getD j 0) (by omega) (fun h => hN (Or.inr (h.elim (fun h => ⟨m, Nat.le_refl _, by omega, by simpa using h⟩) (fun ⟨q, h1, h2⟩ => ⟨q, by omega, h2⟩))))
      refine ⟨r, Ev.succ ?_, Ev.succ ?_⟩
      · simp only [impl_GoodPaths.l2, e1, e2, succ_w (show m < 35184372088833 by omega)]
        exact Ev.pos (by omega) (Ev.pos (by omega) (Ev.pos (by omega) (Ev.neg (by simp) (Ev.pos (by omega) (Ev.pos (by omega) a1)))))
      · simp only [spec_GoodPaths.l2, e1, e2, succ_w (show m < 35184372088833 by omega)]
        exact Ev.pos (by omega) (Ev.pos (by omega) (Ev.pos (by omega) (Ev.neg (by simp) (Ev.pos (by omega) (Ev.pos (by omega) a2)))))

theorem gp_l1 (w : Int) (c : List Int) (hc : Cl w c) (x1 : List S49) (x2 : List (List Int)) (p : List Int) (hp : p.length ≤ 1048576) (i : Nat) (hi : i < 35184372088833)
    (hN : ∃ r, Ev (fun k => impl_GoodPaths.l0 k x1 x2 x2 (x2.length : Int) ((i + 1 : Nat) : Int) w c) r ∧ Ev (fun k => spec_GoodPaths.l0 k x1 x2 x2 (x2.length : Int) ((i + 1 : Nat) : Int) w c) r) (d : Nat) : ∀ j : Nat, 1 ≤ j → j + d = p.length → Fr c (p.getD (j - 1) 0) →
    ∃ r, Ev (fun k => impl_GoodPaths.l1 k x1 x2 p (p.length : Int) j x2 (x2.length : Int) i w c) r ∧ Ev (fun k => spec_GoodPaths.l1 k x1 x2 p j x2 (x2.length : Int) i w c) r := by
  induction d with
  | zero =>
    intro j hj1 hj hf
    obtain ⟨r, a1, a2⟩ := hN
    refine ⟨r, Ev.succ ?_, Ev.succ ?_⟩
    · simp only [impl_GoodPaths.l1, succ_w hi]
      exact Ev.neg (by omega) a1
    · simp only [spec_GoodPaths.l1, succ_w hi]
      exact Ev.neg (by omega) a2
  | succ d ih =>
    intro j hj1 hj hf
    obtain ⟨g1, g2⟩ := goes_ev hc hf
    have e : rd p ((j : Int) - 1) = p.getD (j - 1) 0 := by
      unfold rd
      rw [show ((j : Int) - 1).toNat = j - 1 by omega]
    have hlen : (Gos w c (p.getD (j - 1) 0)).length ≤ 100 := Nat.le_trans (List.length_filter_le _ _) (by simp)
    obtain ⟨r, a1, a2⟩ := gp_l2 w c x1 x2 p j i (by omega) (Gos w c (p.getD (j - 1) 0)) hlen _ 0 false (Nat.zero_add _) (fun h => by
      rw [succ_w (show j < 35184372088833 by omega)]
      refine ih (j + 1) (by omega) (by omega) ?_
      obtain h | ⟨q, _, h2, h3⟩ := h
      · cases h
      · rw [Nat.add_sub_cancel, ← h3]
        exact Gos_free (getD_mem _ _ _ h2))
    refine ⟨r, Ev.succ ?_, Ev.succ ?_⟩
    · simp only [impl_GoodPaths.l1, wrap64_id (x := (j : Int) - 1) (by omega) (by omega), e]
      exact Ev.pos (by omega) (Ev.pos (by omega) (Ev.pos (by omega) (Ev.bnd0 (free_impl w c _) (Ev.pos (by simpa using hf) (Ev.bnd g1 a1)))))
    · simp only [spec_GoodPaths.l1, wrap64_id (x := (j : Int) - 1) (by omega) (by omega), e]
      exact Ev.pos (by omega) (Ev.pos (by omega) (Ev.pos (by omega) (Ev.bnd g2 a2)))

theorem gp_l0 (w : Int) (c : List Int) (x1 : List S49) (x2 : List (List Int)) (hg : Gt w c x1) (hl : x2.length = x1.length) (hr : ∀ x ∈ x2, x.length ≤ 1048576) (d : Nat) : ∀ i : Nat, i + d = x2.length →
    ∃ r, Ev (fun k => impl_GoodPaths.l0 k x1 x2 x2 (x2.length : Int) i w c) r ∧ Ev (fun k => spec_GoodPaths.l0 k x1 x2 x2 (x2.length : Int) i w c) r := by
  have h5 := hg.2.1
  induction d with
  | zero =>
    intro i hi
    obtain ⟨r, _, _, _, m1, m2⟩ := meet_both x2 hr
    refine ⟨decide (r < 0), Ev.succ ?_, Ev.succ ?_⟩
    · simp only [impl_GoodPaths.l0]
      exact Ev.neg (by omega) (Ev.bnd m1 (Ev.some rfl))
    · simp only [spec_GoodPaths.l0]
      exact Ev.neg (by omega) (Ev.bnd m2 (Ev.some rfl))
  | succ d ih =>
    intro i hi
    have nx := ih (i + 1) (by omega)
    have e1 : rd_L1 x2 (i : Int) = x2.getD i [] := rfl
    have e2 : rd_T49 x1 (i : Int) = TR x1 i := rfl
    generalize hpp : x2.getD i [] = p at e1
    have hp : p.length ≤ 1048576 := hpp ▸ hr _ (getD_mem x2 i [] (by omega))
    have e3 : rd p 0 = p.getD 0 0 := rfl
    have jno : Ev (fun k => impl_GoodPaths.j2 k x1 x2 p (p.length : Int) x2 (x2.length : Int) i true w c) false ∧ Ev (fun k => spec_GoodPaths.j2 k x1 x2 p x2 (x2.length : Int) i true w c) false := by
      refine ⟨Ev.succ ?_, Ev.succ ?_⟩
      · simp only [impl_GoodPaths.j2]
        exact Ev.pos trivial (Ev.some rfl)
      · simp only [spec_GoodPaths.j2]
        exact Ev.pos trivial (Ev.some rfl)
    by_cases h1 : (p.length : Int) < 1
    · refine ⟨false, Ev.succ ?_, Ev.succ ?_⟩
      · simp only [impl_GoodPaths.l0, e1]
        exact Ev.pos (by omega) (Ev.pos (by omega) (Ev.pos (by omega) (Ev.pos h1 jno.1)))
      · simp only [spec_GoodPaths.l0, e1]
        exact Ev.pos (by omega) (Ev.pos (by omega) (Ev.pos (by omega) (Ev.pos h1 jno.2)))
    · by_cases h2 : (p.length : Int) = ((rd_L1 x2 0).length : Int)
      · by_cases h3 : p.getD 0 0 = (TR x1 i).f0
        · have hjj : ∃ r, Ev (fun k => impl_GoodPaths.j2 k x1 x2 p (p.length : Int) x2 (x2.length : Int) i (rd p ((p.length : Int) - 1) != (TR x1 i).f1) w c) r ∧ Ev (fun k => spec_GoodPaths.j2 k x1 x2 p x2 (x2.length : Int) i (rd p ((p.length : Int) - 1) != (TR x1 i).f1) w c) r := by
            cases hb : (rd p ((p.length : Int) - 1) != (TR x1 i).f1) with
            | true => exact ⟨false, jno.1, jno.2⟩
            | false =>
              have hf : Fr c (p.getD (1 - 1) 0) := by
                rw [Nat.sub_self, h3]
                exact (hg.2.2 i (by omega) (by omega)).1.1
              obtain ⟨r, a1, a2⟩ := gp_l1 w c hg.1 x1 x2 p hp i (by omega) nx (p.length - 1) 1 (Nat.le_refl _) (by omega) hf
              refine ⟨r, Ev.succ ?_, Ev.succ ?_⟩
              · simp only [impl_GoodPaths.j2]
                exact Ev.neg (by simp) a1
              · simp only [spec_GoodPaths.j2]
                exact Ev.neg (by simp) a2
          obtain ⟨r, a1, a2⟩ := hjj
          refine ⟨r, Ev.succ ?_, Ev.succ ?_⟩
          · simp only [impl_GoodPaths.l0, e1, e2, e3, wrap64_id (x := (p.length : Int) - 1) (by omega) (by omega)]
            exact Ev.pos (by omega) (Ev.pos (by omega) (Ev.pos (by omega) (Ev.neg h1 (Ev.pos (by omega) (Ev.pos h2 (Ev.pos (by omega) (Ev.pos (by omega) (Ev.pos h3 (Ev.pos (by omega) (Ev.pos (by omega) a1))))))))))
          · simp only [spec_GoodPaths.l0, e1, e2, e3, wrap64_id (x := (p.length : Int) - 1) (by omega) (by omega)]
            exact Ev.pos (by omega) (Ev.pos (by omega) (Ev.pos (by omega) (Ev.neg h1 (Ev.pos (by omega) (Ev.pos h2 (Ev.pos (by omega) (Ev.pos (by omega) (Ev.pos h3 (Ev.pos (by omega) (Ev.pos (by omega) a2))))))))))
        · refine ⟨false, Ev.succ ?_, Ev.succ ?_⟩
          · simp only [impl_GoodPaths.l0, e1, e2, e3]
            exact Ev.pos (by omega) (Ev.pos (by omega) (Ev.pos (by omega) (Ev.neg h1 (Ev.pos (by omega) (Ev.pos h2 (Ev.pos (by omega) (Ev.pos (by omega) (Ev.neg h3 jno.1))))))))
          · simp only [spec_GoodPaths.l0, e1, e2, e3]
            exact Ev.pos (by omega) (Ev.pos (by omega) (Ev.pos (by omega) (Ev.neg h1 (Ev.pos (by omega) (Ev.pos h2 (Ev.pos (by omega) (Ev.pos (by omega) (Ev.neg h3 jno.2))))))))
      · refine ⟨false, Ev.succ ?_, Ev.succ ?_⟩
        · simp only [impl_GoodPaths.l0, e1]
          exact Ev.pos (by omega) (Ev.pos (by omega) (Ev.pos (by omega) (Ev.neg h1 (Ev.pos (by omega) (Ev.neg h2 jno.1)))))
        · simp only [spec_GoodPaths.l0, e1]
          exact Ev.pos (by omega) (Ev.pos (by omega) (Ev.pos (by omega) (Ev.neg h1 (Ev.pos (by omega) (Ev.neg h2 jno.2)))))

theorem goodPaths_both (w : Int) (c : List Int) (l : List S49) (p : List (List Int)) (hn : c.length ≤ 35184372088832) (hr : ∀ x ∈ p, x.length ≤ 1048576) : ∃ r, Ev (fun k => impl_GoodPaths.f k w c l p) r ∧ Ev (fun k => spec_GoodPaths.f k w c l p) r := by
  obtain ⟨t1, t2⟩ := goodTrips_both w c l hn
  simp only [impl_GoodPaths.f, spec_GoodPaths.f]
  have no : Ev (fun k => impl_GoodPaths.j0 k l p true w c) false ∧ Ev (fun k => spec_GoodPaths.j0 k l p true w c) false := by
    refine ⟨Ev.succ ?_, Ev.succ ?_⟩
    · simp only [impl_GoodPaths.j0, if_true]; exact Ev.some rfl
    · simp only [spec_GoodPaths.j0, if_true]; exact Ev.some rfl
  by_cases hg : Gt w c l
  · by_cases hl : p.length = l.length
    · obtain ⟨r, a, b⟩ := gp_l0 w c l p hg hl hr p.length 0 (by omega)
      have e : ((p.length : Int) != (l.length : Int)) = false := by simp [hl]
      rw [e]
      refine ⟨r, Ev.bnd t1 (Ev.pos (by simpa using hg) (Ev.succ ?_)), Ev.bnd t2 (Ev.pos (by simpa using hg) (Ev.succ ?_))⟩
      · simp only [impl_GoodPaths.j0, Bool.false_eq_true, if_false]; exact a
      · simp only [spec_GoodPaths.j0, Bool.false_eq_true, if_false]; exact b
    · have e : ((p.length : Int) != (l.length : Int)) = true := by simp; omega
      rw [e]
      exact ⟨false, Ev.bnd t1 (Ev.pos (by simpa using hg) no.1), Ev.bnd t2 (Ev.pos (by simpa using hg) no.2)⟩
  · exact ⟨false, Ev.bnd t1 (Ev.neg (by simpa using hg) no.1), Ev.bnd t2 (Ev.neg (by simpa using hg) no.2)⟩
end Go.Proofs.Ytcldlljnaijmhaa.Pure

/- THE LAW FnExactGoodPaths, as a statement over numbers and lists: proved here. -/
namespace Go.Proofs.Ytcldlljnaijmhaa.Pure
open Go.RowKit Go.Proofs.YtcldlljnaijmhaaW.PrintWords Go.Proofs.YtcldlljnaijmhaaW.PrintLast Go.Proofs.Ytcldlljnaijmhaa.Pr Go.Proofs.Ytcldlljnaijmhaa.EvKit

theorem FnExactGoodPaths : ∀ (a0_0 : Int) (l0_1 : List Int) (l1 : List (S47)) (l2 : List (List Int)), ((Lit.int .i64 a0_0).wf = true ∧ (l0_1.length ≤ maxLen ∧ l0_1.length * 8 ≤ 140737488351232 ∧ ∀ y0 ∈ l0_1, (Lit.int .i64 y0).wf = true)) → (l1.length ≤ maxLen ∧ l1.length * 16 ≤ 140737488351232 ∧ ∀ y0 ∈ l1, ((Lit.int .i64 y0.f0).wf = true ∧ (Lit.int .i64 y0.f1).wf = true)) → (l2.length ≤ maxLen ∧ l2.length * 24 ≤ 140737488351232 ∧ ∀ y0 ∈ l2, (y0.length ≤ maxLen ∧ y0.length * 8 ≤ 140737488351232 ∧ ∀ y1 ∈ y0, (Lit.int .i64 y1).wf = true)) → ∃ k, laws_FnExactGoodPaths.f k a0_0 l0_1 l1 l2 = some true := by
  intro w c l p hc hl hp
  have h1 : c.length ≤ 9223372036854775807 := by have := hc.2.1; unfold maxLen at this; omega
  have h2 : l.length ≤ 9223372036854775807 := by have := hl.1; unfold maxLen at this; omega
  have h2' : p.length ≤ 9223372036854775807 := by have := hp.1; unfold maxLen at this; omega
  have h2r : ∀ x ∈ p, x.length ≤ 9223372036854775807 := fun x hx => by have := (hp.2.2 x hx).1; unfold maxLen at this; omega
  apply Ev.rounds
  simp only [laws_FnExactGoodPaths.f]
  obtain ⟨s, e1, e2⟩ := szCells_eq w c 1048576 h1 (by omega) (by omega)
  refine Ev.bnd0 e1 (Ev.ite (fun _ => Ev.some rfl) (fun h0 => ?_))
  obtain ⟨h3, h4⟩ := e2 h0
  obtain ⟨s2, e3, e4⟩ := szTripS_eq l s h2 (by omega) (by omega)
  refine Ev.bnd0 e3 (Ev.ite (fun _ => Ev.some rfl) (fun h0' => ?_))
  obtain ⟨h5, h6⟩ := e4 h0'
  obtain ⟨s3, e5, e6⟩ := szIntSS_ev p s2 (by omega) (by omega) h2' h2r
  refine Ev.bnd e5 (Ev.ite (fun _ => Ev.some rfl) (fun h0'' => ?_))
  obtain ⟨_, h7, h8⟩ := e6 h0''
  have tc := toCells_ev w c (by omega)
  have tt := toTripS_ev l (by omega)
  have tp := toIntSS_ev p h7 h8
  obtain ⟨r, a, b⟩ := goodPaths_both w c (l.map cpT) p (by omega) h8
  exact Ev.bnd tc (Ev.bnd tt (Ev.bnd tp (Ev.bnd b (Ev.bnd tc (Ev.bnd tt (Ev.bnd tp (Ev.bnd a (Ev.neg (by simp) (Ev.bnd tc (Ev.bnd (eqCells_ev w c (by omega)) (Ev.pos rfl (Ev.bnd tt (Ev.bnd (eqTripS_ev _ (by rw [List.length_map]; omega)) (Ev.pos rfl (Ev.bnd tp (Ev.bnd (eqIntSS_ev p h7 h8) (Ev.pos rfl (Ev.some rfl))))))))))))))))))

end Go.Proofs.Ytcldlljnaijmhaa.Pure
