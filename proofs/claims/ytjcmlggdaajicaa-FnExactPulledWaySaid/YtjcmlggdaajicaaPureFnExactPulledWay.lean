/- MERGED by merge.py: PureBase PureInts PureMarks PureCells PureGrid PureClear PurePulled PureFnExactPulledWay -/
import Derived.Test.YtjcmlggdaajicaaEvKit
import Derived.Test.YtjcmlggdaajicaaPrd1
import Derived.Test.YtjcmlggdaajicaaPrd2
import Derived.Test.YtjcmlggdaajicaaHdClear
/-
Own text: what many of the pure proofs use: 'for all from i on', counters, 'between', the copy and the comparison of slices of bytes.
-/
namespace Go.Proofs.Ytjcmlggdaajicaa.Pure
open Go.RowKit Go.Proofs.YtjcmlggdaajicaaW.PrintWords Go.Proofs.Ytjcmlggdaajicaa.EvKit

def From (n i : Nat) (C : Nat → Prop) : Prop := ∀ j, i ≤ j → j < n → C j
theorem From.end_ {n i : Nat} {C : Nat → Prop} (h : n ≤ i) : From n i C := fun j h1 h2 => by omega
theorem From.step {n i : Nat} {C : Nat → Prop} (h : i < n) : From n i C ↔ C i ∧ From n (i + 1) C := by
  constructor
  · exact fun a => ⟨a i (Nat.le_refl i) h, fun j h1 h2 => a j (by omega) h2⟩
  · rintro ⟨a, b⟩ j h1 h2
    by_cases e : j = i
    · exact e ▸ a
    · exact b j (by omega) h2
/-- One of those from i on, below n. -/
def Some_ (n i : Nat) (C : Nat → Prop) : Prop := ∃ j, i ≤ j ∧ j < n ∧ C j
theorem Some_.end_ {n i : Nat} {C : Nat → Prop} (h : n ≤ i) : ¬ Some_ n i C := by
  rintro ⟨j, h1, h2, _⟩
  omega
theorem Some_.step {n i : Nat} {C : Nat → Prop} (h : i < n) : Some_ n i C ↔ C i ∨ Some_ n (i + 1) C := by
  constructor
  · rintro ⟨j, h1, h2, h3⟩
    by_cases e : j = i
    · exact Or.inl (e ▸ h3)
    · exact Or.inr ⟨j, by omega, h2, h3⟩
  · rintro (a | ⟨j, h1, h2, h3⟩)
    · exact ⟨i, Nat.le_refl i, h, a⟩
    · exact ⟨j, by omega, h2, h3⟩
theorem succ_w {i : Nat} (h : i < 35184372088833) : wrap64 ((i : Int) + 1) = ((i + 1 : Nat) : Int) := by rw [wrap64_id (by omega) (by omega)]; omega
end Go.Proofs.Ytjcmlggdaajicaa.Pure

/-
Own text: what the laws' own helpers on []int come to: a copy, a comparison.
-/
namespace Go.Proofs.Ytjcmlggdaajicaa.Pure
open Go.RowKit Go.Proofs.YtjcmlggdaajicaaW.PrintWords Go.Proofs.YtjcmlggdaajicaaW.PrintLast Go.Proofs.Ytjcmlggdaajicaa.Pr Go.Proofs.Ytjcmlggdaajicaa.EvKit

theorem toIntS_l0 (l : List Int) (hl : l.length ≤ 35184372088832) (d : Nat) : ∀ i : Nat, i + d = l.length →
    Ev (fun k => laws_toIntS.l0 k l ((l.take i).map id ++ List.replicate (l.length - i) 0) i) (l.map id) := by
  induction d with
  | zero =>
    intro i hi
    apply Ev.succ
    simp only [laws_toIntS.l0, show ¬ ((i : Int) < (l.length : Int)) by omega, if_false]
    have : i = l.length := by omega
    subst this
    exact Ev.some (copy_done _ _ _)
  | succ d ih =>
    intro i hi
    apply Ev.succ
    have hlen : ((l.take i).map id ++ List.replicate (l.length - i) (0 : Int)).length = l.length := by simp; omega
    simp only [laws_toIntS.l0, hlen, show ((i : Int) < (l.length : Int)) by omega, show (0 : Int) ≤ (i : Int) by omega, if_true, Int.toNat_natCast]
    rw [show wrap64 ((i : Int) + 1) = ((i + 1 : Nat) : Int) by rw [wrap64_id (by omega) (by omega)]; omega]
    have := copy_step id (0 : Int) 0 l i (by omega)
    have e : rd l (i : Int) = id (l.getD i 0) := rfl
    rw [e, this]
    exact ih (i + 1) (by omega)
theorem toIntS_ev (l : List Int) (hl : l.length ≤ 35184372088832) : Ev (fun k => laws_toIntS.f k l) l := by
  simp only [laws_toIntS.f, Int.toNat_natCast, show (0 : Int) ≤ (l.length : Int) by omega, hl, if_true]
  have := toIntS_l0 l hl l.length 0 (by omega)
  simpa using this

theorem eqIntS_l0 (l : List Int) (hl : l.length ≤ 35184372088832) (d : Nat) : ∀ i : Nat, i + d = l.length → Ev (fun k => laws_eqIntS.l0 k l l i) true := by
  induction d with
  | zero =>
    intro i hi
    apply Ev.succ
    simp only [laws_eqIntS.l0, show ¬ ((i : Int) < (l.length : Int)) by omega, if_false]
    exact Ev.some rfl
  | succ d ih =>
    intro i hi
    apply Ev.succ
    simp only [laws_eqIntS.l0, show ((i : Int) < (l.length : Int)) by omega, show (0 : Int) ≤ (i : Int) by omega, if_true]
    rw [show wrap64 ((i : Int) + 1) = ((i + 1 : Nat) : Int) by rw [wrap64_id (by omega) (by omega)]; omega]
    exact ih (i + 1) (by omega)
theorem eqIntS_ev (l : List Int) (hl : l.length ≤ 35184372088832) : Ev (fun k => laws_eqIntS.f k l l) true := by
  simp only [laws_eqIntS.f, if_true]
  exact eqIntS_l0 l hl l.length 0 (by omega)

end Go.Proofs.Ytjcmlggdaajicaa.Pure

/-
Own text: marks are 1, 2, ..; what is held is what was marked.
-/
namespace Go.Proofs.Ytjcmlggdaajicaa.Pure
open Go.RowKit Go.Proofs.YtjcmlggdaajicaaW.PrintWords Go.Proofs.YtjcmlggdaajicaaW.PrintLast Go.Proofs.Ytjcmlggdaajicaa.Pr Go.Proofs.Ytjcmlggdaajicaa.EvKit

/-- a, a + 1, .., n of them. -/
def seqI (a : Int) (n : Nat) : List Int := (List.range n).map fun j : Nat => a + (j : Int)
theorem seqI_length (a : Int) (n : Nat) : (seqI a n).length = n := by simp [seqI]
theorem rd_seqI (a : Int) (n i : Nat) (h : i < n) : rd (seqI a n) (i : Int) = a + i := by
  simp [rd, seqI, List.getD_eq_getElem?_getD, h]

theorem markIntS_l0 (n : Nat) (a : Int) (ha : 0 ≤ a) (han : a + n ≤ 9223372036854775806) (d : Nat) : ∀ (i : Nat) (l : List Int), i + d = n → l.length = n → (l.take i = seqI a i) →
    Ev (fun k => laws_markIntS.l0 k l (a + i) i) (a + n, seqI a n) := by
  induction d with
  | zero =>
    intro i l hi hl ht
    apply Ev.succ
    simp only [laws_markIntS.l0, show ¬ ((i : Int) < (l.length : Int)) by omega, if_false]
    have : i = n := by omega
    subst this
    refine Ev.some ?_
    rw [← ht, List.take_of_length_le (by omega)]
  | succ d ih =>
    intro i l hi hl ht
    apply Ev.succ
    simp only [laws_markIntS.l0, show ((i : Int) < (l.length : Int)) by omega, show (0 : Int) ≤ (i : Int) by omega, if_true, Int.toNat_natCast]
    rw [show wrap64 ((i : Int) + 1) = ((i + 1 : Nat) : Int) by rw [wrap64_id (by omega) (by omega)]; omega, show wrap64 (a + (i : Int) + 1) = a + ((i + 1 : Nat) : Int) by rw [wrap64_id (by omega) (by omega)]; omega]
    refine ih (i + 1) _ (by omega) (by simpa using hl) ?_
    rw [List.take_succ_eq_append_getElem (by simp; omega), List.take_set_of_le (by omega), ht]
    simp [seqI, List.range_succ]
theorem markIntS_ev (l : List Int) (a : Int) (ha : 0 ≤ a) (han : a + l.length ≤ 9223372036854775806) : Ev (fun k => laws_markIntS.f k l a) (a + l.length, seqI a l.length) := by
  simp only [laws_markIntS.f]
  have := markIntS_l0 l.length a ha han l.length 0 l (by omega) rfl (by simp [seqI])
  simpa using this

theorem heldIntS_l0 (n : Nat) (a : Int) (ha : 0 ≤ a) (han : a + n ≤ 9223372036854775806) (d : Nat) : ∀ i : Nat, i + d = n → Ev (fun k => laws_heldIntS.l0 k (seqI a n) (a + i) i) (a + n) := by
  induction d with
  | zero =>
    intro i hi
    apply Ev.succ
    simp only [laws_heldIntS.l0, seqI_length, show ¬ ((i : Int) < (n : Int)) by omega, if_false]
    exact Ev.some (by omega)
  | succ d ih =>
    intro i hi
    apply Ev.succ
    simp only [laws_heldIntS.l0, seqI_length, rd_seqI a n i (by omega), show ((i : Int) < (n : Int)) by omega, show (0 : Int) ≤ (i : Int) by omega, if_true]
    rw [show wrap64 ((i : Int) + 1) = ((i + 1 : Nat) : Int) by rw [wrap64_id (by omega) (by omega)]; omega, show wrap64 (a + (i : Int) + 1) = a + ((i + 1 : Nat) : Int) by rw [wrap64_id (by omega) (by omega)]; omega]
    exact ih (i + 1) (by omega)
theorem heldIntS_ev (n : Nat) (a : Int) (ha : 0 ≤ a) (han : a + n ≤ 9223372036854775806) : Ev (fun k => laws_heldIntS.f k (seqI a n) a) (a + n) := by
  simp only [laws_heldIntS.f]
  have := heldIntS_l0 n a ha han n 0 (by omega)
  simpa using this
end Go.Proofs.Ytjcmlggdaajicaa.Pure

/-
Own text: cells: the two checks agree; what good cells are; what is free; the laws' helpers on cells.
-/
namespace Go.Proofs.Ytjcmlggdaajicaa.Pure
open Go.RowKit Go.Proofs.YtjcmlggdaajicaaW.PrintWords Go.Proofs.YtjcmlggdaajicaaW.PrintLast Go.Proofs.Ytjcmlggdaajicaa.Pr Go.Proofs.Ytjcmlggdaajicaa.EvKit
open Classical

def Sq (w : Int) (n : Nat) : Prop := 1 ≤ w ∧ w ≤ 16 ∧ (n : Int) % w = 0 ∧ w ≤ n ∧ (n : Int) / w ≤ 16
/-- Good cells. -/
def Cl (w : Int) (c : List Int) : Prop := Sq w c.length ∧ From c.length 0 fun j => 0 ≤ c.getD j 0 ∧ c.getD j 0 ≤ 2

theorem sq_impl (w : Int) (n : Nat) (hn : n ≤ 35184372088832) : impl_squared.f w n = some (decide (Sq w n)) := by
  unfold impl_squared.f Sq
  by_cases h1 : w ≥ 1
  · by_cases h2 : w ≤ 16
    · have hm : (n : Int).tmod w = (n : Int) % w := Int.tmod_eq_emod_of_nonneg (by omega)
      have hd : (n : Int).tdiv w = (n : Int) / w := Int.tdiv_eq_ediv_of_nonneg (by omega)
      rw [if_pos h1, if_pos h2, if_neg (by omega), hm, hd]
      by_cases h3 : (n : Int) % w = 0
      · have hle : (n : Int) / w ≤ n := Int.ediv_le_self _ (by omega)
        have h0 : 0 ≤ (n : Int) / w := Int.ediv_nonneg (by omega) (by omega)
        have key : (n : Int) / w ≥ 1 ↔ w ≤ n := (Int.le_ediv_iff_mul_le (by omega)).trans (by rw [Int.one_mul])
        rw [if_pos h3, wrap64_id (by omega) (by omega)]
        by_cases h4 : (n : Int) / w ≥ 1
        · have h5 : w ≤ n := key.1 h4
          rw [if_pos h4]
          simp [h1, h2, h3, h5]
        · have h5 : ¬ w ≤ n := fun h => h4 (key.2 h)
          rw [if_neg h4]
          simp [h5]
      · rw [if_neg h3]
        simp [h3]
    · rw [if_pos h1, if_neg h2]
      simp [h2]
  · rw [if_neg h1]
    simp [show ¬ 1 ≤ w from h1]
theorem sq_spec (w : Int) (n : Nat) (hn : n ≤ 35184372088832) : spec_l12Sized.f w n = some (decide (Sq w n)) := by
  unfold spec_l12Sized.f Sq
  by_cases h1 : w ≥ 1
  · by_cases h2 : w ≤ 16
    · have hm : (n : Int).tmod w = (n : Int) % w := Int.tmod_eq_emod_of_nonneg (by omega)
      have hd : (n : Int).tdiv w = (n : Int) / w := Int.tdiv_eq_ediv_of_nonneg (by omega)
      have hle : (n : Int) / w ≤ n := Int.ediv_le_self _ (by omega)
      have h0 : 0 ≤ (n : Int) / w := Int.ediv_nonneg (by omega) (by omega)
      rw [if_pos h1, if_pos h2, hm, hd, if_neg (show ¬ w = 0 by omega), wrap64_id (by omega) (by omega)]
      by_cases h4 : (n : Int) ≥ w
      · rw [if_pos h4]
        by_cases h3 : (n : Int) % w = 0
        · rw [if_pos h3]
          simp [h1, h2, h3, show w ≤ (n : Int) from h4]
        · rw [if_neg h3]
          simp [h3]
      · rw [if_neg h4]
        simp [show ¬ w ≤ (n : Int) from h4]
    · rw [if_pos h1, if_neg h2]
      simp [h2]
  · rw [if_neg h1]
    simp [show ¬ 1 ≤ w from h1]

theorem cells_l0 (c : List Int) (hn : c.length ≤ 35184372088832) (d : Nat) : ∀ i : Nat, i + d = c.length →
    Ev (fun k => impl_GoodCells.l0 k c (c.length : Int) i) (decide (From c.length i fun j => 0 ≤ c.getD j 0 ∧ c.getD j 0 ≤ 2)) ∧ Ev (fun k => spec_GoodCells.l0 k c (c.length : Int) i) (decide (From c.length i fun j => 0 ≤ c.getD j 0 ∧ c.getD j 0 ≤ 2)) := by
  induction d with
  | zero =>
    intro i hi
    have e : decide (From c.length i fun j => 0 ≤ c.getD j 0 ∧ c.getD j 0 ≤ 2) = true := by
      rw [decide_eq_true_eq]
      exact From.end_ (by omega)
    rw [e]
    refine ⟨Ev.succ ?_, Ev.succ ?_⟩
    · simp only [impl_GoodCells.l0]
      exact Ev.neg (by omega) (Ev.some rfl)
    · simp only [spec_GoodCells.l0]
      exact Ev.neg (by omega) (Ev.some rfl)
  | succ d ih =>
    intro i hi
    obtain ⟨a, b⟩ := ih (i + 1) (by omega)
    have step := From.step (n := c.length) (i := i) (C := fun j => 0 ≤ c.getD j 0 ∧ c.getD j 0 ≤ 2) (by omega)
    have e : rd c (i : Int) = c.getD i 0 := rfl
    by_cases h : 0 ≤ c.getD i 0 ∧ c.getD i 0 ≤ 2
    · have e2 : decide (From c.length i fun j => 0 ≤ c.getD j 0 ∧ c.getD j 0 ≤ 2) = decide (From c.length (i + 1) fun j => 0 ≤ c.getD j 0 ∧ c.getD j 0 ≤ 2) := by
        rw [decide_eq_decide]
        exact ⟨fun x => (step.1 x).2, fun x => step.2 ⟨h, x⟩⟩
      rw [e2]
      refine ⟨Ev.succ ?_, Ev.succ ?_⟩
      · simp only [impl_GoodCells.l0, e, succ_w (show i < 35184372088833 by omega)]
        exact Ev.pos (by omega) (Ev.pos (by omega) (Ev.pos (by omega) (Ev.neg (by omega) (Ev.neg (by omega) a))))
      · simp only [spec_GoodCells.l0, e, succ_w (show i < 35184372088833 by omega)]
        exact Ev.pos (by omega) (Ev.pos (by omega) (Ev.pos (by omega) (Ev.neg (by omega) (Ev.neg (by omega) b))))
    · have e2 : decide (From c.length i fun j => 0 ≤ c.getD j 0 ∧ c.getD j 0 ≤ 2) = false := by
        rw [decide_eq_false_iff_not]
        exact fun x => h (step.1 x).1
      rw [e2]
      refine ⟨Ev.succ ?_, Ev.succ ?_⟩
      · simp only [impl_GoodCells.l0, e]
        exact Ev.pos (by omega) (Ev.pos (by omega) (Ev.pos (by omega) (Ev.ite (fun _ => Ev.some rfl) (fun _ => Ev.pos (by omega) (Ev.some rfl)))))
      · simp only [spec_GoodCells.l0, e]
        exact Ev.pos (by omega) (Ev.pos (by omega) (Ev.pos (by omega) (Ev.ite (fun _ => Ev.some rfl) (fun _ => Ev.pos (by omega) (Ev.some rfl)))))
theorem goodCells_impl (w : Int) (c : List Int) (hn : c.length ≤ 35184372088832) : Ev (fun k => impl_GoodCells.f k w c) (decide (Cl w c)) := by
  simp only [impl_GoodCells.f]
  refine Ev.bnd0 (sq_impl w c.length hn) (Ev.ite (fun h => Ev.eq (cells_l0 c hn c.length 0 (by omega)).1 ?_) (fun h => Ev.some ?_))
  · rw [decide_eq_decide]
    exact ⟨fun x => ⟨by simpa using h, x⟩, fun x => x.2⟩
  · symm
    rw [decide_eq_false_iff_not]
    exact fun x => h (by simpa using x.1)
theorem goodCells_spec (w : Int) (c : List Int) (hn : c.length ≤ 35184372088832) : Ev (fun k => spec_GoodCells.f k w c) (decide (Cl w c)) := by
  simp only [spec_GoodCells.f]
  refine Ev.bnd0 (sq_spec w c.length hn) (Ev.ite (fun h => Ev.eq (cells_l0 c hn c.length 0 (by omega)).2 ?_) (fun h => Ev.some ?_))
  · rw [decide_eq_decide]
    exact ⟨fun x => ⟨by simpa using h, x⟩, fun x => x.2⟩
  · symm
    rw [decide_eq_false_iff_not]
    exact fun x => h (by simpa using x.1)

/-- The number of a free cell. -/
def Fr (c : List Int) (a : Int) : Prop := 0 ≤ a ∧ a < c.length ∧ c.getD a.toNat 0 = 0
theorem free_impl (w : Int) (c : List Int) (a : Int) : impl_Cells_free.f w c a = some (decide (Fr c a)) := by
  unfold impl_Cells_free.f
  have e : rd c a = c.getD a.toNat 0 := rfl
  by_cases h1 : a ≥ 0
  · by_cases h2 : a < (c.length : Int)
    · rw [if_pos h1, if_pos h2, if_pos h1, e]
      congr 1
      by_cases h3 : c.getD a.toNat 0 = 0
      · rw [decide_eq_true (p := Fr c a) (And.intro h1 (And.intro h2 h3)), h3]
        rfl
      · rw [decide_eq_false (p := Fr c a) (fun x => h3 x.2.2)]
        simpa using h3
    · rw [if_pos h1, if_neg h2, decide_eq_false (p := Fr c a) (fun x => h2 x.2.1)]
  · rw [if_neg h1, decide_eq_false (p := Fr c a) (fun x => h1 x.1)]
theorem free_spec (w : Int) (c : List Int) (a : Int) : spec_l12Free.f w c a = some (decide (Fr c a)) := free_impl w c a

/-! ### the laws' helpers -/
theorem toCells_ev (w : Int) (c : List Int) (hl : c.length ≤ 1048576) : Ev (fun k => laws_toCells.f k w c) (w, c) := by
  simp only [laws_toCells.f]
  exact Ev.bnd (toIntS_ev c (by omega)) (Ev.some rfl)
theorem eqCells_ev (w : Int) (c : List Int) (hl : c.length ≤ 1048576) : Ev (fun k => laws_eqCells.f k w c w c) true := by
  simp only [laws_eqCells.f]
  exact Ev.pos trivial (Ev.bnd (eqIntS_ev c (by omega)) (Ev.pos rfl (Ev.some rfl)))
theorem szCells_eq (w : Int) (c : List Int) (a : Int) (hl : c.length ≤ 9223372036854775807) (h0 : 0 ≤ a) (h1 : a ≤ 1048576) :
    ∃ r, laws_szCells.f w c a = some r ∧ (¬ r < 0 → (c.length : Int) ≤ a ∧ r ≤ a) := by
  simp only [laws_szCells.f, laws_szIntS.f]
  rw [wrap64_id (x := a - (c.length : Int)) (by omega) (by omega)]
  by_cases h : a - (c.length : Int) < 0
  · exact ⟨-1, by simp [h], by omega⟩
  · exact ⟨a - (c.length : Int), by simp only [h, if_false, Option.bind_some], by omega⟩
end Go.Proofs.Ytjcmlggdaajicaa.Pure

/-
Own text: where a cell lies: its column and its row; the cell beside it.
-/
namespace Go.Proofs.Ytjcmlggdaajicaa.Pure
open Go.RowKit Go.Proofs.YtjcmlggdaajicaaW.PrintWords Go.Proofs.YtjcmlggdaajicaaW.PrintLast Go.Proofs.Ytjcmlggdaajicaa.Pr Go.Proofs.Ytjcmlggdaajicaa.EvKit
open Classical

def X_ (w a : Int) : Int := a % w
def Y_ (w a : Int) : Int := a / w
/-- How many rows. -/
def H_ (w : Int) (c : List Int) : Int := (c.length : Int) / w

section
variable {w : Int} {c : List Int}
theorem Cl.w1 (h : Cl w c) : 1 ≤ w := h.1.1
theorem Cl.w16 (h : Cl w c) : w ≤ 16 := h.1.2.1
theorem Cl.h16 (h : Cl w c) : H_ w c ≤ 16 := h.1.2.2.2.2
theorem Cl.wh (h : Cl w c) : H_ w c * w = c.length := by
  have h1 := Int.mul_ediv_add_emod (c.length : Int) w
  rw [h.1.2.2.1, Int.add_zero, Int.mul_comm] at h1
  exact h1
theorem Cl.h1 (h : Cl w c) : 1 ≤ H_ w c := (Int.le_ediv_iff_mul_le (by have := h.w1; omega)).2 (by rw [Int.one_mul]; exact h.1.2.2.2.1)
theorem mul_le16 {x y : Int} (hx : 0 ≤ x) (hx2 : x ≤ 16) (hy : 0 ≤ y) (hy2 : y ≤ 16) : x * y ≤ 256 ∧ 0 ≤ x * y := by
  have h1 := Int.mul_le_mul hx2 hy2 hy (by omega : (0 : Int) ≤ 16)
  exact ⟨by omega, Int.mul_nonneg hx hy⟩
theorem Cl.n256 (h : Cl w c) : c.length ≤ 256 := by
  have h1 := h.wh
  have h2 := mul_le16 (by have := h.h1; omega) h.h16 (by have := h.w1; omega) h.w16
  omega
theorem XY (w a : Int) : Y_ w a * w + X_ w a = a := by
  have := Int.mul_ediv_add_emod a w
  rw [Int.mul_comm] at this
  exact this
theorem X_range (h : Cl w c) (a : Int) : 0 ≤ X_ w a ∧ X_ w a < w := ⟨Int.emod_nonneg _ (by have := h.w1; omega), Int.emod_lt_of_pos _ (by have := h.w1; omega)⟩
theorem Y_range (h : Cl w c) {a : Int} (h0 : 0 ≤ a) (h1 : a < c.length) : 0 ≤ Y_ w a ∧ Y_ w a < H_ w c := by
  refine ⟨Int.ediv_nonneg h0 (by have := h.w1; omega), Int.ediv_lt_of_lt_mul (by have := h.w1; omega) ?_⟩
  rw [h.wh]
  exact h1
theorem cell_in (h : Cl w c) {x y : Int} (hx : 0 ≤ x) (hx2 : x < w) (hy : 0 ≤ y) (hy2 : y < H_ w c) : 0 ≤ y * w + x ∧ y * w + x < c.length := by
  have h1 := Int.mul_nonneg hy (show 0 ≤ w by omega)
  have h2 := Int.mul_le_mul_of_nonneg_right (show y ≤ H_ w c - 1 by omega) (show 0 ≤ w by omega)
  have h3 := h.wh
  rw [Int.sub_mul, Int.one_mul] at h2
  omega
theorem X_cell {x : Int} (hx : 0 ≤ x) (hx2 : x < w) (y : Int) : X_ w (y * w + x) = x := by
  unfold X_
  rw [Int.add_comm, Int.add_mul_emod_self_right]
  exact Int.emod_eq_of_lt hx hx2
theorem Y_cell {x : Int} (hx : 0 ≤ x) (hx2 : x < w) (y : Int) : Y_ w (y * w + x) = y := by
  have h1 := XY w (y * w + x)
  rw [X_cell hx hx2] at h1
  have h2 : Y_ w (y * w + x) * w = y * w := by omega
  exact Int.eq_of_mul_eq_mul_right (by omega) h2
/-- A cell is told by its column and its row. -/
theorem cell_eq {a b : Int} (hx : X_ w a = X_ w b) (hy : Y_ w a = Y_ w b) : a = b := by rw [← XY w a, ← XY w b, hx, hy]

theorem tmod_X {a : Int} (h : 0 ≤ a) : a.tmod w = X_ w a := Int.tmod_eq_emod_of_nonneg h
theorem tdiv_Y {a : Int} (h : 0 ≤ a) : a.tdiv w = Y_ w a := Int.tdiv_eq_ediv_of_nonneg h

/-- The cell beside one, -1 beyond the edge. -/
noncomputable def Nx (w : Int) (c : List Int) (a dx dy : Int) : Int :=
  if 0 ≤ X_ w a + dx ∧ X_ w a + dx < w ∧ 0 ≤ Y_ w a + dy ∧ Y_ w a + dy < H_ w c then (Y_ w a + dy) * w + (X_ w a + dx) else -1
theorem next_eq (h : Cl w c) {a dx dy : Int} (h0 : 0 ≤ a) (h1 : a < c.length) (hx : -100 ≤ dx ∧ dx ≤ 100) (hy : -100 ≤ dy ∧ dy ≤ 100) : impl_Cells_next.f w c a dx dy = some (Nx w c a dx dy) := by
  have hX := X_range h a
  have hY := Y_range h h0 h1
  have hw := h.w1
  have hw2 := h.w16
  have hH := h.h16
  unfold impl_Cells_next.f
  rw [if_neg (by omega), tmod_X h0, tdiv_Y h0, show (c.length : Int) / w = H_ w c from rfl]
  rw [wrap64_id (x := Y_ w a) (by omega) (by omega), wrap64_id (x := H_ w c) (by omega) (by omega), wrap64_id (x := X_ w a + dx) (by omega) (by omega), wrap64_id (x := Y_ w a + dy) (by omega) (by omega)]
  by_cases c1 : X_ w a + dx < 0
  · rw [if_pos c1]
    unfold Nx
    rw [if_neg (by omega)]
  · rw [if_neg c1]
    by_cases c2 : X_ w a + dx ≥ w
    · rw [if_pos c2]
      unfold Nx
      rw [if_neg (by omega)]
    · rw [if_neg c2]
      by_cases c3 : Y_ w a + dy < 0
      · rw [if_pos c3]
        unfold Nx
        rw [if_neg (by omega)]
      · rw [if_neg c3]
        by_cases c4 : Y_ w a + dy ≥ H_ w c
        · rw [if_pos c4]
          unfold Nx
          rw [if_neg (by omega)]
        · rw [if_neg c4]
          have hm := mul_le16 (x := Y_ w a + dy) (y := w) (by omega) (by omega) (by omega) hw2
          rw [wrap64_id (x := (Y_ w a + dy) * w) (by omega) (by omega), wrap64_id (by omega) (by omega)]
          unfold Nx
          rw [if_pos (by omega)]
end
end Go.Proofs.Ytjcmlggdaajicaa.Pure

/-
Own text: whether a straight line is clear: the program and the reference come to the same.
-/
namespace Go.Proofs.Ytjcmlggdaajicaa.Pure
open Go.RowKit Go.Proofs.YtjcmlggdaajicaaW.PrintWords Go.Proofs.YtjcmlggdaajicaaW.PrintLast Go.Proofs.Ytjcmlggdaajicaa.Pr Go.Proofs.Ytjcmlggdaajicaa.EvKit
open Classical

section
variable {x1 y1 x2 y2 x y : Int} (bx1 : 0 ≤ x1 ∧ x1 ≤ 30) (by1 : 0 ≤ y1 ∧ y1 ≤ 510) (bx2 : 0 ≤ x2 ∧ x2 ≤ 30) (by2 : 0 ≤ y2 ∧ y2 ≤ 510) (bx : 0 ≤ x ∧ x ≤ 30) (by_ : 0 ≤ y ∧ y ≤ 510)
include bx1 by1 bx2 by2 bx by_

def up (s : Int) : Int := if s > 0 then 1 else 0
def dn (s : Int) : Int := if s < 0 then 1 else 0
omit bx1 by1 bx2 by2 bx by_ in
theorem up_in (s : Int) : 0 ≤ up s ∧ up s ≤ 1 := by unfold up; by_cases h : s > 0 <;> simp [h]
omit bx1 by1 bx2 by2 bx by_ in
theorem dn_in (s : Int) : 0 ≤ dn s ∧ dn s ≤ 1 := by unfold dn; by_cases h : s < 0 <;> simp [h]

theorem meets_step (u v dx dy : Int) (hu : 0 ≤ u ∧ u ≤ 9) (hv : 0 ≤ v ∧ v ≤ 9) (hdx : -1 ≤ dx ∧ dx ≤ 1) (hdy : -1 ≤ dy ∧ dy ≤ 1) (xs ys : List Int) (hys : ys.length = 2) (i j : Int) (hj : j = 0 ∨ j = 1) (hy : rd ys j = y + dy) (r : Bool)
    (h : Ev (fun k => spec_l18Meets.l1 k x1 y1 (y - 1) (y + 1) (x2 - x1) (y2 - y1) (u + up ((x2 - x1) * (y + dy - y1) - (y2 - y1) * (x + dx - x1))) (v + dn ((x2 - x1) * (y + dy - y1) - (y2 - y1) * (x + dx - x1))) (x + dx) xs (xs.length : Int) i ys 2 (j + 1)) r) :
    Ev (fun k => spec_l18Meets.l1 k x1 y1 (y - 1) (y + 1) (x2 - x1) (y2 - y1) u v (x + dx) xs (xs.length : Int) i ys 2 j) r := by
  have es := side_eq (x1 := x1) (y1 := y1) (x2 := x2) (y2 := y2) (x := x) (y := y) (dx := dx) (dy := dy) bx1 by1 bx2 by2 bx by_ hdx hdy
  apply Ev.succ
  simp only [spec_l18Meets.l1, hy, wrap64_id (x := y + dy - y1) (by omega) (by omega), wrap64_id (x := x + dx - x1) (by omega) (by omega), es, wrap64_id (x := u + 1) (by omega) (by omega), wrap64_id (x := v + 1) (by omega) (by omega), wrap64_id (x := j + 1) (by omega) (by omega)]
  generalize (x2 - x1) * (y + dy - y1) - (y2 - y1) * (x + dx - x1) = s at h
  unfold up dn at h
  refine Ev.pos (by omega) (Ev.pos (by omega) (Ev.pos (by omega) (Ev.ite (fun h1 => Ev.ite (fun h2 => by omega) (fun h2 => ?_)) (fun h1 => Ev.ite (fun h2 => ?_) (fun h2 => ?_)))))
  · rw [if_pos h1, if_neg h2, Int.add_zero] at h
    exact h
  · rw [if_neg h1, if_pos h2, Int.add_zero] at h
    exact h
  · rw [if_neg h1, if_neg h2, Int.add_zero, Int.add_zero] at h
    exact h

theorem meets_j0 (b : Bool) : Ev (fun k => spec_l18Meets.j0 k x1 y1 x2 y2 (x - 1) (x + 1) (y - 1) (y + 1) b) (!b && (lessTo x1 y1 x2 y2 x y 4 && moreTo x1 y1 x2 y2 x y 4)) := by
  cases b with
  | true =>
    apply Ev.succ
    simp only [spec_l18Meets.j0]
    exact Ev.pos trivial (Ev.some rfl)
  | false =>
    apply Ev.succ
    simp only [spec_l18Meets.j0, Option.bind_some, wrap64_id (x := x2 - x1) (by omega) (by omega), wrap64_id (x := y2 - y1) (by omega) (by omega)]
    refine Ev.neg (by simp) ?_
    apply Ev.succ
    simp only [spec_l18Meets.l0, Option.bind_some]
    refine Ev.pos (by simp) (Ev.pos (by omega) (Ev.pos (by simp) ?_))
    rw [show rd [x - 1, x + 1] 0 = x + (-1) from rfl]
    have b0 := up_in (sideOf x1 y1 x2 y2 x y 0)
    have b1 := up_in (sideOf x1 y1 x2 y2 x y 1)
    have b2 := up_in (sideOf x1 y1 x2 y2 x y 2)
    have b3 := up_in (sideOf x1 y1 x2 y2 x y 3)
    have d0 := dn_in (sideOf x1 y1 x2 y2 x y 0)
    have d1 := dn_in (sideOf x1 y1 x2 y2 x y 1)
    have d2 := dn_in (sideOf x1 y1 x2 y2 x y 2)
    have d3 := dn_in (sideOf x1 y1 x2 y2 x y 3)
    refine meets_step bx1 by1 bx2 by2 bx by_ 0 0 (-1) (-1) (by omega) (by omega) (by omega) (by omega) _ [y - 1, y + 1] rfl 0 0 (by omega) rfl _ ?_
    rw [show (x2 - x1) * (y + -1 - y1) - (y2 - y1) * (x + -1 - x1) = sideOf x1 y1 x2 y2 x y 0 from rfl]
    refine meets_step bx1 by1 bx2 by2 bx by_ _ _ (-1) 1 (by omega) (by omega) (by omega) (by omega) _ [y - 1, y + 1] rfl 0 (0 + 1) (by omega) rfl _ ?_
    rw [show (x2 - x1) * (y + 1 - y1) - (y2 - y1) * (x + -1 - x1) = sideOf x1 y1 x2 y2 x y 1 from rfl]
    apply Ev.succ
    simp only [spec_l18Meets.l1]
    refine Ev.neg (by omega) ?_
    rw [wrap64_id (x := (0 : Int) + 1) (by omega) (by omega)]
    apply Ev.succ
    simp only [spec_l18Meets.l0, Option.bind_some]
    refine Ev.pos (by simp) (Ev.pos (by omega) (Ev.pos (by simp) ?_))
    rw [show rd [x - 1, x + 1] (0 + 1) = x + 1 from rfl]
    refine meets_step bx1 by1 bx2 by2 bx by_ _ _ 1 (-1) (by omega) (by omega) (by omega) (by omega) _ [y - 1, y + 1] rfl _ 0 (by omega) rfl _ ?_
    rw [show (x2 - x1) * (y + -1 - y1) - (y2 - y1) * (x + 1 - x1) = sideOf x1 y1 x2 y2 x y 2 from rfl]
    refine meets_step bx1 by1 bx2 by2 bx by_ _ _ 1 1 (by omega) (by omega) (by omega) (by omega) _ [y - 1, y + 1] rfl _ (0 + 1) (by omega) rfl _ ?_
    rw [show (x2 - x1) * (y + 1 - y1) - (y2 - y1) * (x + 1 - x1) = sideOf x1 y1 x2 y2 x y 3 from rfl]
    apply Ev.succ
    simp only [spec_l18Meets.l1]
    refine Ev.neg (by omega) ?_
    rw [wrap64_id (x := (0 : Int) + 1 + 1) (by omega) (by omega)]
    apply Ev.succ
    simp only [spec_l18Meets.l0]
    refine Ev.neg (by simp) ?_
    unfold lessTo lessTo lessTo lessTo lessTo moreTo moreTo moreTo moreTo moreTo
    generalize sideOf x1 y1 x2 y2 x y 0 = s0 at *
    generalize sideOf x1 y1 x2 y2 x y 1 = s1 at *
    generalize sideOf x1 y1 x2 y2 x y 2 = s2 at *
    generalize sideOf x1 y1 x2 y2 x y 3 = s3 at *
    have hu : (0 + up s0 + up s1 + up s2 + up s3 < 4) ↔ (s0 ≤ 0 ∨ s1 ≤ 0 ∨ s2 ≤ 0 ∨ s3 ≤ 0) := by
      unfold up
      by_cases h0 : s0 > 0 <;> by_cases h1 : s1 > 0 <;> by_cases h2 : s2 > 0 <;> by_cases h3 : s3 > 0 <;> simp only [h0, h1, h2, h3, if_true, if_false] <;> omega
    have hd : (0 + dn s0 + dn s1 + dn s2 + dn s3 < 4) ↔ (s0 ≥ 0 ∨ s1 ≥ 0 ∨ s2 ≥ 0 ∨ s3 ≥ 0) := by
      unfold dn
      by_cases h0 : s0 < 0 <;> by_cases h1 : s1 < 0 <;> by_cases h2 : s2 < 0 <;> by_cases h3 : s3 < 0 <;> simp only [h0, h1, h2, h3, if_true, if_false] <;> omega
    have e1 : (((false || decide (s0 ≤ 0)) || decide (s1 ≤ 0)) || decide (s2 ≤ 0) || decide (s3 ≤ 0)) = decide (0 + up s0 + up s1 + up s2 + up s3 < 4) := by
      rw [Bool.eq_iff_iff]
      simp only [Bool.or_eq_true, decide_eq_true_iff, hu, Bool.false_eq_true, false_or, or_assoc]
    have e2 : (((false || decide (s0 ≥ 0)) || decide (s1 ≥ 0)) || decide (s2 ≥ 0) || decide (s3 ≥ 0)) = decide (0 + dn s0 + dn s1 + dn s2 + dn s3 < 4) := by
      rw [Bool.eq_iff_iff]
      simp only [Bool.or_eq_true, decide_eq_true_iff, hd, Bool.false_eq_true, false_or, or_assoc]
    rw [e1, e2]
    refine Ev.ite (fun h => Ev.some ?_) (fun h => Ev.some ?_)
    · rw [decide_eq_true h]
      rfl
    · rw [decide_eq_false h]
      rfl
end

theorem meets_ev {x1 y1 x2 y2 cx cy : Int} (bx1 : 0 ≤ x1 ∧ x1 ≤ 30) (by1 : 0 ≤ y1 ∧ y1 ≤ 510) (bx2 : 0 ≤ x2 ∧ x2 ≤ 30) (by2 : 0 ≤ y2 ∧ y2 ≤ 510) (bx : 0 ≤ cx ∧ cx ≤ 15) (by_ : 0 ≤ cy ∧ cy ≤ 255) :
    Ev (fun k => spec_l18Meets.f k x1 y1 x2 y2 cx cy) (!(farOf x1 y1 x2 y2 (2 * cx) (2 * cy)) && (lessTo x1 y1 x2 y2 (2 * cx) (2 * cy) 4 && moreTo x1 y1 x2 y2 (2 * cx) (2 * cy) 4)) := by
  have J := fun b => meets_j0 (x := 2 * cx) (y := 2 * cy) bx1 by1 bx2 by2 (by omega) (by omega) b
  simp only [spec_l18Meets.f, wrap64_id (x := 2 * cx) (by omega) (by omega), wrap64_id (x := 2 * cy) (by omega) (by omega), wrap64_id (x := 2 * cx - 1) (by omega) (by omega), wrap64_id (x := 2 * cx + 1) (by omega) (by omega), wrap64_id (x := 2 * cy - 1) (by omega) (by omega), wrap64_id (x := 2 * cy + 1) (by omega) (by omega)]
  generalize 2 * cx = x at *
  generalize 2 * cy = y at *
  have hF : farOf x1 y1 x2 y2 x y = decide ((x1 < x - 1 ∧ x2 < x - 1) ∨ (x1 > x + 1 ∧ x2 > x + 1) ∨ (y1 < y - 1 ∧ y2 < y - 1) ∨ (y1 > y + 1 ∧ y2 > y + 1)) := by
    have m1 : maxI x1 x2 < x - 1 ↔ (x1 < x - 1 ∧ x2 < x - 1) := by unfold maxI; by_cases h : x1 < x2 <;> simp only [h, if_true, if_false] <;> omega
    have m2 : minI x1 x2 > x + 1 ↔ (x1 > x + 1 ∧ x2 > x + 1) := by unfold minI; by_cases h : x2 < x1 <;> simp only [h, if_true, if_false] <;> omega
    have m3 : maxI y1 y2 < y - 1 ↔ (y1 < y - 1 ∧ y2 < y - 1) := by unfold maxI; by_cases h : y1 < y2 <;> simp only [h, if_true, if_false] <;> omega
    have m4 : minI y1 y2 > y + 1 ↔ (y1 > y + 1 ∧ y2 > y + 1) := by unfold minI; by_cases h : y2 < y1 <;> simp only [h, if_true, if_false] <;> omega
    unfold farOf
    rw [Bool.eq_iff_iff]
    simp only [Bool.or_eq_true, decide_eq_true_iff, m1, m2, m3, m4, or_assoc]
  rw [hF]
  generalize (lessTo x1 y1 x2 y2 x y 4 && moreTo x1 y1 x2 y2 x y 4) = LM at *
  have yes : ((x1 < x - 1 ∧ x2 < x - 1) ∨ (x1 > x + 1 ∧ x2 > x + 1) ∨ (y1 < y - 1 ∧ y2 < y - 1) ∨ (y1 > y + 1 ∧ y2 > y + 1)) → ∀ r, r = (!decide ((x1 < x - 1 ∧ x2 < x - 1) ∨ (x1 > x + 1 ∧ x2 > x + 1) ∨ (y1 < y - 1 ∧ y2 < y - 1) ∨ (y1 > y + 1 ∧ y2 > y + 1)) && LM) → Ev (fun k => spec_l18Meets.j0 k x1 y1 x2 y2 (x - 1) (x + 1) (y - 1) (y + 1) true) r := by
    intro h r hr
    refine Ev.eq (J true) ?_
    rw [hr, decide_eq_true h]
  generalize hR : (!decide ((x1 < x - 1 ∧ x2 < x - 1) ∨ (x1 > x + 1 ∧ x2 > x + 1) ∨ (y1 < y - 1 ∧ y2 < y - 1) ∨ (y1 > y + 1 ∧ y2 > y + 1)) && LM) = R at *
  have t4 : ¬ (x1 < x - 1 ∧ x2 < x - 1) → ¬ (x1 > x + 1 ∧ x2 > x + 1) → ¬ (y1 < y - 1 ∧ y2 < y - 1) → Ev (fun k => if y1 > y + 1 then (spec_l18Meets.j0 k x1 y1 x2 y2 (x - 1) (x + 1) (y - 1) (y + 1) (decide (y2 > y + 1))) else (spec_l18Meets.j0 k x1 y1 x2 y2 (x - 1) (x + 1) (y - 1) (y + 1) false)) R := by
    intro n1 n2 n3
    refine Ev.ite (fun h => Ev.eq (J _) ?_) (fun h => Ev.eq (J _) ?_)
    · rw [← hR]
      congr 2
      rw [decide_eq_decide]
      exact ⟨fun a => Or.inr (Or.inr (Or.inr ⟨h, a⟩)), fun a => by omega⟩
    · rw [← hR, decide_eq_false (by omega)]
  have t3 : ¬ (x1 < x - 1 ∧ x2 < x - 1) → ¬ (x1 > x + 1 ∧ x2 > x + 1) → Ev (fun k => if y1 < y - 1 then (if y2 < y - 1 then (spec_l18Meets.j0 k x1 y1 x2 y2 (x - 1) (x + 1) (y - 1) (y + 1) true) else (if y1 > y + 1 then (spec_l18Meets.j0 k x1 y1 x2 y2 (x - 1) (x + 1) (y - 1) (y + 1) (decide (y2 > y + 1))) else (spec_l18Meets.j0 k x1 y1 x2 y2 (x - 1) (x + 1) (y - 1) (y + 1) false))) else (if y1 > y + 1 then (spec_l18Meets.j0 k x1 y1 x2 y2 (x - 1) (x + 1) (y - 1) (y + 1) (decide (y2 > y + 1))) else (spec_l18Meets.j0 k x1 y1 x2 y2 (x - 1) (x + 1) (y - 1) (y + 1) false))) R :=
    fun n1 n2 => Ev.ite (fun h1 => Ev.ite (fun h2 => yes (by omega) _ rfl) (fun h2 => t4 n1 n2 (by omega))) (fun h1 => t4 n1 n2 (by omega))
  have t2 : ¬ (x1 < x - 1 ∧ x2 < x - 1) → Ev (fun k => if x1 > x + 1 then (if x2 > x + 1 then (spec_l18Meets.j0 k x1 y1 x2 y2 (x - 1) (x + 1) (y - 1) (y + 1) true) else (if y1 < y - 1 then (if y2 < y - 1 then (spec_l18Meets.j0 k x1 y1 x2 y2 (x - 1) (x + 1) (y - 1) (y + 1) true) else (if y1 > y + 1 then (spec_l18Meets.j0 k x1 y1 x2 y2 (x - 1) (x + 1) (y - 1) (y + 1) (decide (y2 > y + 1))) else (spec_l18Meets.j0 k x1 y1 x2 y2 (x - 1) (x + 1) (y - 1) (y + 1) false))) else (if y1 > y + 1 then (spec_l18Meets.j0 k x1 y1 x2 y2 (x - 1) (x + 1) (y - 1) (y + 1) (decide (y2 > y + 1))) else (spec_l18Meets.j0 k x1 y1 x2 y2 (x - 1) (x + 1) (y - 1) (y + 1) false)))) else (if y1 < y - 1 then (if y2 < y - 1 then (spec_l18Meets.j0 k x1 y1 x2 y2 (x - 1) (x + 1) (y - 1) (y + 1) true) else (if y1 > y + 1 then (spec_l18Meets.j0 k x1 y1 x2 y2 (x - 1) (x + 1) (y - 1) (y + 1) (decide (y2 > y + 1))) else (spec_l18Meets.j0 k x1 y1 x2 y2 (x - 1) (x + 1) (y - 1) (y + 1) false))) else (if y1 > y + 1 then (spec_l18Meets.j0 k x1 y1 x2 y2 (x - 1) (x + 1) (y - 1) (y + 1) (decide (y2 > y + 1))) else (spec_l18Meets.j0 k x1 y1 x2 y2 (x - 1) (x + 1) (y - 1) (y + 1) false)))) R :=
    fun n1 => Ev.ite (fun h1 => Ev.ite (fun h2 => yes (by omega) _ rfl) (fun h2 => t3 n1 (by omega))) (fun h1 => t3 n1 (by omega))
  exact Ev.ite (fun h1 => Ev.ite (fun h2 => yes (by omega) _ rfl) (fun h2 => t2 (by omega))) (fun h1 => t2 (by omega))

/-- No cell stands in the way from a to b. -/
def Clr (w : Int) (c : List Int) (a b : Int) : Prop := Fr c a ∧ Fr c b ∧ From c.length 0 fun j => blocks w c a b j = false

theorem clear_spec_l0 {w : Int} {c : List Int} (h : Cl w c) {a b : Int} (ha0 : 0 ≤ a) (ha : a < c.length) (hb0 : 0 ≤ b) (hb : b < c.length) (d : Nat) : ∀ i : Nat, i + d = c.length →
    Ev (fun k => spec_l18Clear.l0 k (X_ w a) (Y_ w a) (X_ w b) (Y_ w b) (c.length : Int) i w c) (decide (From c.length i fun j => blocks w c a b j = false)) := by
  have hw := h.w1
  have hw2 := h.w16
  have hn := h.n256
  have hH := h.h16
  have xa := X_range h a
  have xb := X_range h b
  have ya := Y_range h ha0 ha
  have yb := Y_range h hb0 hb
  induction d with
  | zero =>
    intro i hi
    rw [decide_eq_true (From.end_ (by omega))]
    apply Ev.succ
    simp only [spec_l18Clear.l0]
    exact Ev.neg (by omega) (Ev.some rfl)
  | succ d ih =>
    intro i hi
    have nx := ih (i + 1) (by omega)
    have step := From.step (n := c.length) (i := i) (C := fun j => blocks w c a b j = false) (by omega)
    have xi := X_range h (i : Int)
    have yi := Y_range h (a := (i : Int)) (by omega) (by omega)
    have e : rd c (i : Int) = c.getD i 0 := rfl
    have good : blocks w c a b i = false → decide (From c.length (i + 1) fun j => blocks w c a b j = false) = decide (From c.length i fun j => blocks w c a b j = false) := fun g => by
      rw [decide_eq_decide]
      exact ⟨fun x => step.2 ⟨g, x⟩, fun x => (step.1 x).2⟩
    apply Ev.succ
    simp only [spec_l18Clear.l0, e, tmod_X (show (0 : Int) ≤ (i : Int) by omega), tdiv_Y (show (0 : Int) ≤ (i : Int) by omega), wrap64_id (x := Y_ w (i : Int)) (by omega) (by omega), wrap64_id (x := 2 * X_ w a) (by omega) (by omega), wrap64_id (x := 2 * X_ w b) (by omega) (by omega), wrap64_id (x := 2 * Y_ w a) (by omega) (by omega), wrap64_id (x := 2 * Y_ w b) (by omega) (by omega), succ_w (show i < 35184372088833 by omega)]
    refine Ev.pos (by omega) (Ev.pos (by omega) (Ev.pos (by omega) (Ev.ite (fun hz => ?_) (fun hz => Ev.neg (by omega) ?_))))
    · refine Ev.eq nx (good ?_)
      unfold blocks
      rw [hz]
      rfl
    · have m := meets_ev (x1 := 2 * X_ w a) (y1 := 2 * Y_ w a) (x2 := 2 * X_ w b) (y2 := 2 * Y_ w b) (cx := X_ w (i : Int)) (cy := Y_ w (i : Int)) (by omega) (by omega) (by omega) (by omega) (by omega) (by omega)
      have eb : blocks w c a b i = (!(farOf (2 * X_ w a) (2 * Y_ w a) (2 * X_ w b) (2 * Y_ w b) (2 * X_ w (i : Int)) (2 * Y_ w (i : Int))) && (lessTo (2 * X_ w a) (2 * Y_ w a) (2 * X_ w b) (2 * Y_ w b) (2 * X_ w (i : Int)) (2 * Y_ w (i : Int)) 4 && moreTo (2 * X_ w a) (2 * Y_ w a) (2 * X_ w b) (2 * Y_ w b) (2 * X_ w (i : Int)) (2 * Y_ w (i : Int)) 4)) := by
        unfold blocks X_ Y_
        rw [show (c.getD i 0 == 0) = false by simpa using hz]
        rfl
      rw [← eb] at m
      refine Ev.bnd m (Ev.ite (fun hp => Ev.some ?_) (fun hp => Ev.eq nx (good (by simpa using hp))))
      symm
      rw [decide_eq_false_iff_not]
      intro x
      rw [(step.1 x).1] at hp
      cases hp

theorem clear_spec {w : Int} {c : List Int} (h : Cl w c) (a b : Int) : Ev (fun k => spec_l18Clear.f k w c a b) (decide (Clr w c a b)) := by
  simp only [spec_l18Clear.f]
  have no : ¬ Clr w c a b → Ev (fun k => spec_l18Clear.j0 k a b true w c) (decide (Clr w c a b)) := by
    intro hn
    rw [decide_eq_false hn]
    apply Ev.succ
    simp only [spec_l18Clear.j0]
    exact Ev.pos trivial (Ev.some rfl)
  by_cases ha : Fr c a
  · by_cases hb : Fr c b
    · have ya := Y_range h ha.1 ha.2.1
      have yb := Y_range h hb.1 hb.2.1
      have hH := h.h16
      have hw := h.w1
      have e : decide (Clr w c a b) = decide (From c.length 0 fun j => blocks w c a b j = false) := by
        rw [decide_eq_decide]
        exact ⟨fun x => x.2.2, fun x => ⟨ha, hb, x⟩⟩
      rw [e]
      refine Ev.bnd0 (free_spec w c a) (Ev.pos (by simpa using ha) (Ev.bnd0 (free_spec w c b) ?_))
      rw [decide_eq_true hb]
      apply Ev.succ
      simp only [spec_l18Clear.j0, tmod_X ha.1, tmod_X hb.1, tdiv_Y ha.1, tdiv_Y hb.1, wrap64_id (x := Y_ w a) (by omega) (by omega), wrap64_id (x := Y_ w b) (by omega) (by omega)]
      exact Ev.neg (by simp) (Ev.neg (by omega) (clear_spec_l0 h ha.1 ha.2.1 hb.1 hb.2.1 c.length 0 (by omega)))
    · refine Ev.bnd0 (free_spec w c a) (Ev.pos (by simpa using ha) (Ev.bnd0 (free_spec w c b) ?_))
      rw [decide_eq_false hb]
      exact no (fun x => hb x.2.1)
  · exact Ev.bnd0 (free_spec w c a) (Ev.neg (by simpa using ha) (no (fun x => ha x.1)))

theorem clear_impl {w : Int} {c : List Int} (h : Cl w c) {a b : Int} (ha : Fr c a) (hb : Fr c b) : impl_Cells_clear.f w c a b = some (decide (Clr w c a b)) := by
  have h1 := ha.1
  have h2 := ha.2.1
  have h3 := hb.1
  have h4 := hb.2.1
  have h5 := h.w1
  have h6 := h.w16
  have h7 := h.n256
  unfold impl_Cells_clear.f
  rw [if_pos (by omega)]
  congr 1
  rw [Bool.eq_iff_iff, List.all_eq_true, decide_eq_true_iff]
  constructor
  · intro x
    exact ⟨ha, hb, fun j _ hj => by simpa using x j (List.mem_range.2 hj)⟩
  · intro x j hj
    rw [x.2.2 j (Nat.zero_le _) (List.mem_range.1 hj)]
    rfl
end Go.Proofs.Ytjcmlggdaajicaa.Pure

/-
Own text: the pulled way: the program and the reference come to the same.
-/
namespace Go.Proofs.Ytjcmlggdaajicaa.Pure
open Go.RowKit Go.Proofs.YtjcmlggdaajicaaW.PrintWords Go.Proofs.YtjcmlggdaajicaaW.PrintLast Go.Proofs.Ytjcmlggdaajicaa.Pr Go.Proofs.Ytjcmlggdaajicaa.EvKit
open Classical

section
variable {w : Int} {c : List Int} (h : Cl w c) {p : List Int} (hp : p.length ≤ 256) (hf : ∀ j, j < p.length → Fr c (p.getD j 0)) (hs : ∀ j, 1 ≤ j → j < p.length → Clr w c (p.getD (j - 1) 0) (p.getD j 0))
include h hp hf hs

theorem pull_l2 (i : Nat) (acc : List Int) (hacc : acc.length ≤ i + 1)
    (hN : ∀ (k : Nat), i < k → k < p.length → ∀ acc : List Int, acc.length ≤ k + 1 → ∃ r : List Int × Bool, r.1.length ≤ p.length ∧ Ev (fun q => impl_PulledWay.l1 q p acc k w c) r ∧ Ev (fun q => spec_PulledWay.l1 q p acc k w c) r) (d : Nat) : ∀ k : Nat, k = i + 1 + d → k < p.length →
    ∃ r : List Int × Bool, r.1.length ≤ p.length ∧ Ev (fun q => impl_PulledWay.l2 q p acc i k w c) r ∧ Ev (fun q => spec_PulledWay.l2 q p acc i k w c) r := by
  have yes : ∀ k : Nat, i < k → k < p.length → Clr w c (p.getD i 0) (p.getD k 0) → ∃ r : List Int × Bool, r.1.length ≤ p.length ∧ Ev (fun q => impl_PulledWay.l2 q p acc i k w c) r ∧ Ev (fun q => spec_PulledWay.l2 q p acc i k w c) r := by
    intro k hik hk hc
    obtain ⟨r, h0, e1, e2⟩ := hN k hik hk (acc ++ [p.getD k 0]) (by simp; omega)
    have s := clear_spec h (p.getD i 0) (p.getD k 0)
    have ei : rd p (i : Int) = p.getD i 0 := rfl
    have ek : rd p (k : Int) = p.getD k 0 := rfl
    refine ⟨r, h0, Ev.succ ?_, Ev.succ ?_⟩
    · simp only [impl_PulledWay.l2, ei, ek]
      exact Ev.pos (by omega) (Ev.pos (by omega) (Ev.pos (by omega) (Ev.pos (by omega) (Ev.bnd0 (clear_impl h hc.1 hc.2.1) (Ev.pos (by simpa using hc) (Ev.pos (by omega) e1))))))
    · simp only [spec_PulledWay.l2, ei, ek]
      exact Ev.pos (by omega) (Ev.pos (by omega) (Ev.pos (by omega) (Ev.pos (by omega) (Ev.bnd s (Ev.pos (by simpa using hc) (Ev.pos (by omega) e2))))))
  induction d with
  | zero =>
    intro k hk hkp
    refine yes k (by omega) hkp ?_
    have := hs k (by omega) hkp
    rw [show k - 1 = i by omega] at this
    exact this
  | succ d ih =>
    intro k hk hkp
    by_cases hc : Clr w c (p.getD i 0) (p.getD k 0)
    · exact yes k (by omega) hkp hc
    · obtain ⟨r, h0, e1, e2⟩ := ih (k - 1) (by omega) (by omega)
      have s := clear_spec h (p.getD i 0) (p.getD k 0)
      have ei : rd p (i : Int) = p.getD i 0 := rfl
      have ek : rd p (k : Int) = p.getD k 0 := rfl
      have em : wrap64 ((k : Int) - 1) = ((k - 1 : Nat) : Int) := by rw [wrap64_id (by omega) (by omega)]; omega
      refine ⟨r, h0, Ev.succ ?_, Ev.succ ?_⟩
      · simp only [impl_PulledWay.l2, ei, ek, em]
        exact Ev.pos (by omega) (Ev.pos (by omega) (Ev.pos (by omega) (Ev.pos (by omega) (Ev.bnd0 (clear_impl h (hf i (by omega)) (hf k hkp)) (Ev.neg (by simpa using hc) e1)))))
      · simp only [spec_PulledWay.l2, ei, ek, em]
        exact Ev.pos (by omega) (Ev.pos (by omega) (Ev.pos (by omega) (Ev.pos (by omega) (Ev.bnd s (Ev.neg (by simpa using hc) e2)))))

theorem pull_l1 (hp1 : 1 ≤ p.length) (n : Nat) : ∀ (d : Nat), d < n → ∀ (i : Nat) (acc : List Int), i + d = p.length - 1 → acc.length ≤ i + 1 →
    ∃ r : List Int × Bool, r.1.length ≤ p.length ∧ Ev (fun q => impl_PulledWay.l1 q p acc i w c) r ∧ Ev (fun q => spec_PulledWay.l1 q p acc i w c) r := by
  induction n with
  | zero => intro d hd; omega
  | succ n ih =>
    intro d hd i acc hi hacc
    have em : wrap64 ((p.length : Int) - 1) = ((p.length - 1 : Nat) : Int) := by rw [wrap64_id (by omega) (by omega)]; omega
    by_cases hlt : i < p.length - 1
    · obtain ⟨r, h0, e1, e2⟩ := pull_l2 h hp hf hs i acc hacc (fun k hk hkp acc' ha' => ih (p.length - 1 - k) (by omega) k acc' (by omega) ha') (p.length - 1 - (i + 1)) (p.length - 1) (by omega) (by omega)
      refine ⟨r, h0, Ev.succ ?_, Ev.succ ?_⟩
      · simp only [impl_PulledWay.l1, em]
        exact Ev.pos (by omega) e1
      · simp only [spec_PulledWay.l1, em]
        exact Ev.pos (by omega) e2
    · refine ⟨(acc, true), by simp only; omega, Ev.succ ?_, Ev.succ ?_⟩
      · simp only [impl_PulledWay.l1, em]
        exact Ev.neg (by omega) (Ev.some rfl)
      · simp only [spec_PulledWay.l1, em]
        exact Ev.neg (by omega) (Ev.some rfl)
end

theorem pull_l0 {w : Int} {c : List Int} (h : Cl w c) {p : List Int} (hp : p.length ≤ 256) (d : Nat) : ∀ i : Nat, 1 ≤ i → i + d = p.length → (∀ j, j < i → Fr c (p.getD j 0)) → (∀ j, 1 ≤ j → j < i → Clr w c (p.getD (j - 1) 0) (p.getD j 0)) →
    ∃ r : List Int × Bool, r.1.length ≤ p.length ∧ Ev (fun q => impl_PulledWay.l0 q p p (p.length : Int) i w c) r ∧ Ev (fun q => spec_PulledWay.l0 q p i w c) r := by
  induction d with
  | zero =>
    intro i h1 hi hf hs
    have e : i = p.length := by omega
    subst e
    obtain ⟨r, h0, e1, e2⟩ := pull_l1 h hp hf hs h1 p.length (p.length - 1) (by omega) 0 [p.getD 0 0] (by omega) (by simp)
    have e0 : rd p 0 = p.getD 0 0 := rfl
    refine ⟨r, h0, Ev.succ ?_, Ev.succ ?_⟩
    · simp only [impl_PulledWay.l0, e0]
      exact Ev.neg (by omega) (Ev.pos (by omega) e1)
    · simp only [spec_PulledWay.l0, e0]
      exact Ev.neg (by omega) (Ev.pos (by omega) e2)
  | succ d ih =>
    intro i h1 hi hf hs
    have ei : rd p (i : Int) = p.getD i 0 := rfl
    have em : wrap64 ((i : Int) - 1) = ((i - 1 : Nat) : Int) := by rw [wrap64_id (by omega) (by omega)]; omega
    have ek : rd p ((i - 1 : Nat) : Int) = p.getD (i - 1) 0 := rfl
    have s := clear_spec h (p.getD (i - 1) 0) (p.getD i 0)
    have f1 := hf (i - 1) (by omega)
    by_cases hc : Clr w c (p.getD (i - 1) 0) (p.getD i 0)
    · obtain ⟨r, h0, e1, e2⟩ := ih (i + 1) (by omega) (by omega) (fun j hj => by
        by_cases e : j = i
        · exact e ▸ hc.2.1
        · exact hf j (by omega)) (fun j hj1 hj => by
        by_cases e : j = i
        · exact e ▸ hc
        · exact hs j hj1 (by omega))
      refine ⟨r, h0, Ev.succ ?_, Ev.succ ?_⟩
      · simp only [impl_PulledWay.l0, ei, em, ek, succ_w (show i < 35184372088833 by omega)]
        exact Ev.pos (by omega) (Ev.pos (by omega) (Ev.pos (by omega) (Ev.bnd0 (free_impl w c _) (Ev.pos (by simpa using hc.2.1) (Ev.pos (by omega) (Ev.pos (by omega) (Ev.pos (by omega) (Ev.bnd0 (clear_impl h f1 hc.2.1) (Ev.pos (by simpa using hc) e1)))))))))
      · simp only [spec_PulledWay.l0, ei, em, ek, succ_w (show i < 35184372088833 by omega)]
        exact Ev.pos (by omega) (Ev.pos (by omega) (Ev.pos (by omega) (Ev.pos (by omega) (Ev.bnd s (Ev.pos (by simpa using hc) e2)))))
    · refine ⟨([], false), Nat.zero_le _, Ev.succ ?_, Ev.succ ?_⟩
      · simp only [impl_PulledWay.l0, ei, em, ek, succ_w (show i < 35184372088833 by omega)]
        by_cases hfi : Fr c (p.getD i 0)
        · exact Ev.pos (by omega) (Ev.pos (by omega) (Ev.pos (by omega) (Ev.bnd0 (free_impl w c _) (Ev.pos (by simpa using hfi) (Ev.pos (by omega) (Ev.pos (by omega) (Ev.pos (by omega) (Ev.bnd0 (clear_impl h f1 hfi) (Ev.neg (by simpa using hc) (Ev.some rfl))))))))))
        · exact Ev.pos (by omega) (Ev.pos (by omega) (Ev.pos (by omega) (Ev.bnd0 (free_impl w c _) (Ev.neg (by simpa using hfi) (Ev.some rfl)))))
      · simp only [spec_PulledWay.l0, ei, em, ek, succ_w (show i < 35184372088833 by omega)]
        exact Ev.pos (by omega) (Ev.pos (by omega) (Ev.pos (by omega) (Ev.pos (by omega) (Ev.bnd s (Ev.neg (by simpa using hc) (Ev.some rfl))))))

theorem pulled_both (w : Int) (c p : List Int) (hn : c.length ≤ 35184372088832) (hp : p.length ≤ 1048576) : ∃ r : List Int × Bool, r.1.length ≤ 1048576 ∧ Ev (fun k => impl_PulledWay.f k w c p) r ∧ Ev (fun k => spec_PulledWay.f k w c p) r := by
  simp only [impl_PulledWay.f, spec_PulledWay.f]
  have no : Ev (fun k => impl_PulledWay.j0 k p true w c) ([], false) ∧ Ev (fun k => spec_PulledWay.j0 k p true w c) ([], false) := by
    refine ⟨Ev.succ ?_, Ev.succ ?_⟩
    · simp only [impl_PulledWay.j0]; exact Ev.pos trivial (Ev.some rfl)
    · simp only [spec_PulledWay.j0]; exact Ev.pos trivial (Ev.some rfl)
  by_cases h : Cl w c
  · by_cases h1 : (p.length : Int) < 1
    · exact ⟨([], false), Nat.zero_le _, Ev.bnd (goodCells_impl w c hn) (Ev.pos (by simpa using h) (Ev.pos h1 no.1)), Ev.bnd (goodCells_spec w c hn) (Ev.pos (by simpa using h) (Ev.pos h1 no.2))⟩
    · by_cases h2 : (p.length : Int) > 256
      · refine ⟨([], false), Nat.zero_le _, Ev.bnd (goodCells_impl w c hn) (Ev.pos (by simpa using h) (Ev.neg h1 ?_)), Ev.bnd (goodCells_spec w c hn) (Ev.pos (by simpa using h) (Ev.neg h1 (Ev.pos h2 no.2)))⟩
        rw [decide_eq_true h2]
        exact no.1
      · have e0 : rd p 0 = p.getD 0 0 := rfl
        by_cases hf : Fr c (p.getD 0 0)
        · obtain ⟨r, h0, e1, e2⟩ := pull_l0 h (p := p) (by omega) (p.length - 1) 1 (Nat.le_refl _) (by omega) (fun j hj => by rw [show j = 0 by omega]; exact hf) (fun j hj1 hj => by omega)
          refine ⟨r, Nat.le_trans h0 (by omega), Ev.bnd (goodCells_impl w c hn) (Ev.pos (by simpa using h) (Ev.neg h1 ?_)), Ev.bnd (goodCells_spec w c hn) (Ev.pos (by simpa using h) (Ev.neg h1 (Ev.neg h2 (Ev.pos (by omega) ?_))))⟩
          · rw [decide_eq_false h2]
            apply Ev.succ
            simp only [impl_PulledWay.j0]
            refine Ev.neg (by simp) (Ev.succ ?_)
            simp only [impl_PulledWay.l0, e0, show wrap64 ((0 : Int) + 1) = ((1 : Nat) : Int) from (wrap64_id (by omega) (by omega)).trans rfl]
            exact Ev.pos (by omega) (Ev.pos (by omega) (Ev.pos (by omega) (Ev.bnd0 (free_impl w c _) (Ev.pos (by simpa using hf) (Ev.neg (by omega) e1)))))
          · rw [e0]
            refine Ev.bnd0 (free_spec w c _) ?_
            rw [decide_eq_true hf]
            apply Ev.succ
            simp only [spec_PulledWay.j0, Bool.not_true]
            exact Ev.neg (by simp) e2
        · refine ⟨([], false), Nat.zero_le _, Ev.bnd (goodCells_impl w c hn) (Ev.pos (by simpa using h) (Ev.neg h1 ?_)), Ev.bnd (goodCells_spec w c hn) (Ev.pos (by simpa using h) (Ev.neg h1 (Ev.neg h2 (Ev.pos (by omega) ?_))))⟩
          · rw [decide_eq_false h2]
            apply Ev.succ
            simp only [impl_PulledWay.j0]
            refine Ev.neg (by simp) (Ev.succ ?_)
            simp only [impl_PulledWay.l0, e0]
            exact Ev.pos (by omega) (Ev.pos (by omega) (Ev.pos (by omega) (Ev.bnd0 (free_impl w c _) (Ev.neg (by simpa using hf) (Ev.some rfl)))))
          · rw [e0]
            refine Ev.bnd0 (free_spec w c _) ?_
            rw [decide_eq_false hf]
            exact no.2
  · exact ⟨([], false), Nat.zero_le _, Ev.bnd (goodCells_impl w c hn) (Ev.neg (by simpa using h) no.1), Ev.bnd (goodCells_spec w c hn) (Ev.neg (by simpa using h) no.2)⟩
end Go.Proofs.Ytjcmlggdaajicaa.Pure

/- THE LAW FnExactPulledWay, as a statement over numbers and lists: proved here. -/
namespace Go.Proofs.Ytjcmlggdaajicaa.Pure
open Go.RowKit Go.Proofs.YtjcmlggdaajicaaW.PrintWords Go.Proofs.YtjcmlggdaajicaaW.PrintLast Go.Proofs.Ytjcmlggdaajicaa.Pr Go.Proofs.Ytjcmlggdaajicaa.EvKit

theorem FnExactPulledWay : ∀ (a0_0 : Int) (l0_1 : List Int) (l1 : List Int), ((Lit.int .i64 a0_0).wf = true ∧ (l0_1.length ≤ maxLen ∧ l0_1.length * 8 ≤ 140737488351232 ∧ ∀ y0 ∈ l0_1, (Lit.int .i64 y0).wf = true)) → (l1.length ≤ maxLen ∧ l1.length * 8 ≤ 140737488351232 ∧ ∀ y0 ∈ l1, (Lit.int .i64 y0).wf = true) → ∃ k, laws_FnExactPulledWay.f k a0_0 l0_1 l1 = some true := by
  intro w c p hc _
  have h1 : c.length ≤ 9223372036854775807 := by have := hc.2.1; unfold maxLen at this; omega
  apply Ev.rounds
  simp only [laws_FnExactPulledWay.f]
  refine Ev.ite (fun _ => Ev.some rfl) (fun hp => ?_)
  obtain ⟨s, e1, e2⟩ := szCells_eq w c 1048576 h1 (by omega) (by omega)
  refine Ev.bnd0 e1 (Ev.ite (fun _ => Ev.some rfl) (fun h0 => ?_))
  obtain ⟨h3, h4⟩ := e2 h0
  have tc := toCells_ev w c (by omega)
  have tp := toIntS_ev p (by omega)
  obtain ⟨⟨r, b⟩, hr, x, y⟩ := pulled_both w c p (by omega) (by omega)
  simp only at hr
  have er := eqIntS_ev r (by omega)
  have ep := eqIntS_ev p (by omega)
  have mp := markIntS_ev p (1 + (c.length : Int)) (by omega) (by omega)
  have mr := markIntS_ev r 1 (by omega) (by omega)
  have hh := heldIntS_ev r.length 1 (by omega) (by omega)
  have mc : Ev (fun k => laws_markCells.f k w c 1) (1 + (c.length : Int), seqI 1 c.length) := by
    simp only [laws_markCells.f]
    exact Ev.bnd (markIntS_ev c 1 (by omega) (by omega)) (Ev.some rfl)
  have eb : (b != b) = false := by simp
  refine Ev.bnd tc (Ev.bnd tp (Ev.bnd y (Ev.bnd tc (Ev.bnd tp (Ev.bnd x (Ev.bnd er (Ev.pos rfl (Ev.succ ?_))))))))
  simp only [laws_FnExactPulledWay.j0, eb]
  refine Ev.neg (by simp) (Ev.bnd tc (Ev.bnd (eqCells_ev w c (by omega)) (Ev.pos rfl (Ev.bnd tp (Ev.bnd ep (Ev.pos rfl (Ev.bnd mc (Ev.bnd mp (Ev.neg (by simp; omega) (Ev.bnd er (Ev.pos rfl (Ev.succ ?_))))))))))))
  simp only [laws_FnExactPulledWay.j1]
  refine Ev.neg (by simp) (Ev.bnd mr (Ev.bnd hh (Ev.neg (by omega) (Ev.pos rfl (Ev.bnd tc (Ev.bnd tp (Ev.bnd x (Ev.bnd er (Ev.pos rfl (Ev.succ ?_))))))))))
  simp only [laws_FnExactPulledWay.j2, eb]
  exact Ev.neg (by simp) (Ev.bnd hh (Ev.neg (by omega) (Ev.pos rfl (Ev.some rfl))))

end Go.Proofs.Ytjcmlggdaajicaa.Pure
