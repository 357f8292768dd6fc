/-
Own text: cells: the two checks agree; what good cells are; what is free; the laws' helpers on cells.
-/
import Derived.Test.YtjcmlggdaajicaaPureBase
import Derived.Test.YtjcmlggdaajicaaPureInts
namespace Go.Proofs.Ytjcmlggdaajicaa.Pure
open Go.RowKit Go.Proofs.YtjcmlggdaajicaaW.PrintWords Go.Proofs.YtjcmlggdaajicaaW.PrintLast Go.Proofs.Ytjcmlggdaajicaa.Pr Go.Proofs.Ytjcmlggdaajicaa.EvKit
open Classical

def Sq (w : Int) (n : Nat) : Prop := 1 ≤ w ∧ w ≤ 16 ∧ (n : Int) % w = 0 ∧ w ≤ n ∧ (n : Int) / w ≤ 16
/-- Good cells. -/
def Cl (w : Int) (c : List Int) : Prop := Sq w c.length ∧ From c.length 0 fun j => 0 ≤ c.getD j 0 ∧ c.getD j 0 ≤ 2

theorem sq_impl (w : Int) (n : Nat) (hn : n ≤ 35184372088832) : impl_squared.f w n = some (decide (Sq w n)) := by
  unfold impl_squared.f Sq
  by_cases h1 : w ≥ 1
  · by_cases h2 : w ≤ 16
    · have hm : (n : Int).tmod w = (n : Int) % w := Int.tmod_eq_emod_of_nonneg (by omega)
      have hd : (n : Int).tdiv w = (n : Int) / w := Int.tdiv_eq_ediv_of_nonneg (by omega)
      rw [if_pos h1, if_pos h2, if_neg (by omega), hm, hd]
      by_cases h3 : (n : Int) % w = 0
      · have hle : (n : Int) / w ≤ n := Int.ediv_le_self _ (by omega)
        have h0 : 0 ≤ (n : Int) / w := Int.ediv_nonneg (by omega) (by omega)
        have key : (n : Int) / w ≥ 1 ↔ w ≤ n := (Int.le_ediv_iff_mul_le (by omega)).trans (by rw [Int.one_mul])
        rw [if_pos h3, wrap64_id (by omega) (by omega)]
        by_cases h4 : (n : Int) / w ≥ 1
        · have h5 : w ≤ n := key.1 h4
          rw [if_pos h4]
          simp [h1, h2, h3, h5]
        · have h5 : ¬ w ≤ n := fun h => h4 (key.2 h)
          rw [if_neg h4]
          simp [h5]
      · rw [if_neg h3]
        simp [h3]
    · rw [if_pos h1, if_neg h2]
      simp [h2]
  · rw [if_neg h1]
    simp [show ¬ 1 ≤ w from h1]
theorem sq_spec (w : Int) (n : Nat) (hn : n ≤ 35184372088832) : spec_l12Sized.f w n = some (decide (Sq w n)) := by
  unfold spec_l12Sized.f Sq
  by_cases h1 : w ≥ 1
  · by_cases h2 : w ≤ 16
    · have hm : (n : Int).tmod w = (n : Int) % w := Int.tmod_eq_emod_of_nonneg (by omega)
      have hd : (n : Int).tdiv w = (n : Int) / w := Int.tdiv_eq_ediv_of_nonneg (by omega)
      have hle : (n : Int) / w ≤ n := Int.ediv_le_self _ (by omega)
      have h0 : 0 ≤ (n : Int) / w := Int.ediv_nonneg (by omega) (by omega)
      rw [if_pos h1, if_pos h2, hm, hd, if_neg (show ¬ w = 0 by omega), wrap64_id (by omega) (by omega)]
      by_cases h4 : (n : Int) ≥ w
      · rw [if_pos h4]
        by_cases h3 : (n : Int) % w = 0
        · rw [if_pos h3]
          simp [h1, h2, h3, show w ≤ (n : Int) from h4]
        · rw [if_neg h3]
          simp [h3]
      · rw [if_neg h4]
        simp [show ¬ w ≤ (n : Int) from h4]
    · rw [if_pos h1, if_neg h2]
      simp [h2]
  · rw [if_neg h1]
    simp [show ¬ 1 ≤ w from h1]

theorem cells_l0 (c : List Int) (hn : c.length ≤ 35184372088832) (d : Nat) : ∀ i : Nat, i + d = c.length →
    Ev (fun k => impl_GoodCells.l0 k c (c.length : Int) i) (decide (From c.length i fun j => 0 ≤ c.getD j 0 ∧ c.getD j 0 ≤ 2)) ∧ Ev (fun k => spec_GoodCells.l0 k c (c.length : Int) i) (decide (From c.length i fun j => 0 ≤ c.getD j 0 ∧ c.getD j 0 ≤ 2)) := by
  induction d with
  | zero =>
    intro i hi
    have e : decide (From c.length i fun j => 0 ≤ c.getD j 0 ∧ c.getD j 0 ≤ 2) = true := by
      rw [decide_eq_true_eq]
      exact From.end_ (by omega)
    rw [e]
    refine ⟨Ev.succ ?_, Ev.succ ?_⟩
    · simp only [impl_GoodCells.l0]
      exact Ev.neg (by omega) (Ev.some rfl)
    · simp only [spec_GoodCells.l0]
      exact Ev.neg (by omega) (Ev.some rfl)
  | succ d ih =>
    intro i hi
    obtain ⟨a, b⟩ := ih (i + 1) (by omega)
    have step := From.step (n := c.length) (i := i) (C := fun j => 0 ≤ c.getD j 0 ∧ c.getD j 0 ≤ 2) (by omega)
    have e : rd c (i : Int) = c.getD i 0 := rfl
    by_cases h : 0 ≤ c.getD i 0 ∧ c.getD i 0 ≤ 2
    · have e2 : decide (From c.length i fun j => 0 ≤ c.getD j 0 ∧ c.getD j 0 ≤ 2) = decide (From c.length (i + 1) fun j => 0 ≤ c.getD j 0 ∧ c.getD j 0 ≤ 2) := by
        rw [decide_eq_decide]
        exact ⟨fun x => (step.1 x).2, fun x => step.2 ⟨h, x⟩⟩
      rw [e2]
      refine ⟨Ev.succ ?_, Ev.succ ?_⟩
      · simp only [impl_GoodCells.l0, e, succ_w (show i < 35184372088833 by omega)]
        exact Ev.pos (by omega) (Ev.pos (by omega) (Ev.pos (by omega) (Ev.neg (by omega) (Ev.neg (by omega) a))))
      · simp only [spec_GoodCells.l0, e, succ_w (show i < 35184372088833 by omega)]
        exact Ev.pos (by omega) (Ev.pos (by omega) (Ev.pos (by omega) (Ev.neg (by omega) (Ev.neg (by omega) b))))
    · have e2 : decide (From c.length i fun j => 0 ≤ c.getD j 0 ∧ c.getD j 0 ≤ 2) = false := by
        rw [decide_eq_false_iff_not]
        exact fun x => h (step.1 x).1
      rw [e2]
      refine ⟨Ev.succ ?_, Ev.succ ?_⟩
      · simp only [impl_GoodCells.l0, e]
        exact Ev.pos (by omega) (Ev.pos (by omega) (Ev.pos (by omega) (Ev.ite (fun _ => Ev.some rfl) (fun _ => Ev.pos (by omega) (Ev.some rfl)))))
      · simp only [spec_GoodCells.l0, e]
        exact Ev.pos (by omega) (Ev.pos (by omega) (Ev.pos (by omega) (Ev.ite (fun _ => Ev.some rfl) (fun _ => Ev.pos (by omega) (Ev.some rfl)))))
theorem goodCells_impl (w : Int) (c : List Int) (hn : c.length ≤ 35184372088832) : Ev (fun k => impl_GoodCells.f k w c) (decide (Cl w c)) := by
  simp only [impl_GoodCells.f]
  refine Ev.bnd0 (sq_impl w c.length hn) (Ev.ite (fun h => Ev.eq (cells_l0 c hn c.length 0 (by omega)).1 ?_) (fun h => Ev.some ?_))
  · rw [decide_eq_decide]
    exact ⟨fun x => ⟨by simpa using h, x⟩, fun x => x.2⟩
  · symm
    rw [decide_eq_false_iff_not]
    exact fun x => h (by simpa using x.1)
theorem goodCells_spec (w : Int) (c : List Int) (hn : c.length ≤ 35184372088832) : Ev (fun k => spec_GoodCells.f k w c) (decide (Cl w c)) := by
  simp only [spec_GoodCells.f]
  refine Ev.bnd0 (sq_spec w c.length hn) (Ev.ite (fun h => Ev.eq (cells_l0 c hn c.length 0 (by omega)).2 ?_) (fun h => Ev.some ?_))
  · rw [decide_eq_decide]
    exact ⟨fun x => ⟨by simpa using h, x⟩, fun x => x.2⟩
  · symm
    rw [decide_eq_false_iff_not]
    exact fun x => h (by simpa using x.1)

/-- The number of a free cell. -/
def Fr (c : List Int) (a : Int) : Prop := 0 ≤ a ∧ a < c.length ∧ c.getD a.toNat 0 = 0
theorem free_impl (w : Int) (c : List Int) (a : Int) : impl_Cells_free.f w c a = some (decide (Fr c a)) := by
  unfold impl_Cells_free.f
  have e : rd c a = c.getD a.toNat 0 := rfl
  by_cases h1 : a ≥ 0
  · by_cases h2 : a < (c.length : Int)
    · rw [if_pos h1, if_pos h2, if_pos h1, e]
      congr 1
      by_cases h3 : c.getD a.toNat 0 = 0
      · rw [decide_eq_true (p := Fr c a) (And.intro h1 (And.intro h2 h3)), h3]
        rfl
      · rw [decide_eq_false (p := Fr c a) (fun x => h3 x.2.2)]
        simpa using h3
    · rw [if_pos h1, if_neg h2, decide_eq_false (p := Fr c a) (fun x => h2 x.2.1)]
  · rw [if_neg h1, decide_eq_false (p := Fr c a) (fun x => h1 x.1)]
theorem free_spec (w : Int) (c : List Int) (a : Int) : spec_l12Free.f w c a = some (decide (Fr c a)) := free_impl w c a

/-! ### the laws' helpers -/
theorem toCells_ev (w : Int) (c : List Int) (hl : c.length ≤ 1048576) : Ev (fun k => laws_toCells.f k w c) (w, c) := by
  simp only [laws_toCells.f]
  exact Ev.bnd (toIntS_ev c (by omega)) (Ev.some rfl)
theorem eqCells_ev (w : Int) (c : List Int) (hl : c.length ≤ 1048576) : Ev (fun k => laws_eqCells.f k w c w c) true := by
  simp only [laws_eqCells.f]
  exact Ev.pos trivial (Ev.bnd (eqIntS_ev c (by omega)) (Ev.pos rfl (Ev.some rfl)))
theorem szCells_eq (w : Int) (c : List Int) (a : Int) (hl : c.length ≤ 9223372036854775807) (h0 : 0 ≤ a) (h1 : a ≤ 1048576) :
    ∃ r, laws_szCells.f w c a = some r ∧ (¬ r < 0 → (c.length : Int) ≤ a ∧ r ≤ a) := by
  simp only [laws_szCells.f, laws_szIntS.f]
  rw [wrap64_id (x := a - (c.length : Int)) (by omega) (by omega)]
  by_cases h : a - (c.length : Int) < 0
  · exact ⟨-1, by simp [h], by omega⟩
  · exact ⟨a - (c.length : Int), by simp only [h, if_false, Option.bind_some], by omega⟩
end Go.Proofs.Ytjcmlggdaajicaa.Pure
