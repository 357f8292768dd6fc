/- THE LAW FnClears, as a statement over numbers and lists: proved here. -/
import Derived.Test.YtjcmlggdaajicaaPureClear
import Derived.Test.YtjcmlggdaajicaaPureDrawCells
namespace Go.Proofs.Ytjcmlggdaajicaa.Pure
open Go.RowKit Go.Proofs.YtjcmlggdaajicaaW.PrintWords Go.Proofs.YtjcmlggdaajicaaW.PrintLast Go.Proofs.Ytjcmlggdaajicaa.Pr Go.Proofs.Ytjcmlggdaajicaa.EvKit
open Classical

/-! ### the line to and fro -/
theorem side_swap (x1 y1 x2 y2 x y : Int) (k : Nat) : sideOf x2 y2 x1 y1 x y k = - sideOf x1 y1 x2 y2 x y k := by
  unfold sideOf
  have c1 := Int.mul_comm x1 y1
  have c2 := Int.mul_comm x1 y2
  have c3 := Int.mul_comm x2 y1
  have c4 := Int.mul_comm x2 y2
  simp only [Int.sub_mul, Int.mul_sub, Int.mul_add]
  omega
theorem less_swap (x1 y1 x2 y2 x y : Int) (k : Nat) : lessTo x2 y2 x1 y1 x y k = moreTo x1 y1 x2 y2 x y k := by
  induction k with
  | zero => rfl
  | succ k ih =>
    unfold lessTo moreTo
    rw [ih, side_swap]
    congr 1
    rw [Bool.eq_iff_iff, decide_eq_true_iff, decide_eq_true_iff]
    omega
theorem more_swap (x1 y1 x2 y2 x y : Int) (k : Nat) : moreTo x2 y2 x1 y1 x y k = lessTo x1 y1 x2 y2 x y k := (less_swap x2 y2 x1 y1 x y k).symm
theorem max_swap (a b : Int) : maxI a b = maxI b a := by unfold maxI; by_cases h : a < b <;> by_cases h2 : b < a <;> simp only [h, h2, if_true, if_false] <;> omega
theorem min_swap (a b : Int) : minI a b = minI b a := by unfold minI; by_cases h : a < b <;> by_cases h2 : b < a <;> simp only [h, h2, if_true, if_false] <;> omega
theorem blocks_swap (w : Int) (c : List Int) (a b : Int) (j : Nat) : blocks w c b a j = blocks w c a b j := by
  unfold blocks farOf
  rw [less_swap (2 * (a % w)) (2 * (a / w)) (2 * (b % w)) (2 * (b / w)), more_swap (2 * (a % w)) (2 * (a / w)) (2 * (b % w)) (2 * (b / w)), max_swap (2 * (b % w)), min_swap (2 * (b % w)), max_swap (2 * (b / w)), min_swap (2 * (b / w))]
  congr 1
  exact Bool.and_comm _ _
theorem clr_swap (w : Int) (c : List Int) (a b : Int) : Clr w c b a ↔ Clr w c a b := by
  constructor
  · rintro ⟨h1, h2, h3⟩
    exact ⟨h2, h1, fun j q1 q2 => (blocks_swap w c a b j).symm.trans (h3 j q1 q2)⟩
  · rintro ⟨h1, h2, h3⟩
    exact ⟨h2, h1, fun j q1 q2 => (blocks_swap w c a b j).trans (h3 j q1 q2)⟩

theorem clear_is (w : Int) (c : List Int) (h : Cl w c) (a b : Int) (hn : c.length ≤ 35184372088832) : Ev (fun k => impl_Clear.f k w c a b) (decide (Clr w c a b)) := by
  simp only [impl_Clear.f]
  refine Ev.bnd (goodCells_impl w c hn) (Ev.pos (by simpa using h) ?_)
  by_cases ha : Fr c a
  · by_cases hb : Fr c b
    · exact Ev.bnd0 (free_impl w c a) (Ev.pos (by simpa using ha) (Ev.bnd0 (free_impl w c b) (Ev.pos (by simpa using hb) (Ev.bnd0 (clear_impl h ha hb) (Ev.some rfl)))))
    · rw [decide_eq_false (fun x : Clr w c a b => hb x.2.1)]
      exact Ev.bnd0 (free_impl w c a) (Ev.pos (by simpa using ha) (Ev.bnd0 (free_impl w c b) (Ev.neg (by simpa using hb) (Ev.some rfl))))
  · rw [decide_eq_false (fun x : Clr w c a b => ha x.1)]
    exact Ev.bnd0 (free_impl w c a) (Ev.neg (by simpa using ha) (Ev.some rfl))

/-! ### all places that see one -/
noncomputable def Sees (w : Int) (c : List Int) (a : Int) (i d : Nat) : List Int := ((List.range' i d).filter fun j : Nat => decide (Clr w c a (j : Int))).map fun j : Nat => (j : Int)
theorem sees_succ (w : Int) (c : List Int) (a : Int) (i d : Nat) : Sees w c a i (d + 1) = if Clr w c a (i : Int) then (i : Int) :: Sees w c a (i + 1) d else Sees w c a (i + 1) d := by
  unfold Sees
  rw [List.range'_succ, List.filter_cons]
  by_cases h : Clr w c a (i : Int)
  · rw [if_pos (by simpa using h), if_pos h]
    rfl
  · rw [if_neg (by simpa using h), if_neg h]
theorem sees_length (w : Int) (c : List Int) (a : Int) (i d : Nat) : (Sees w c a i d).length ≤ d := by
  unfold Sees
  rw [List.length_map]
  exact Nat.le_trans (List.length_filter_le _ _) (by simp)
theorem sees_mem (w : Int) (c : List Int) (a : Int) (n : Nat) (j : Nat) (hj : j < n) : (j : Int) ∈ Sees w c a 0 n ↔ Clr w c a (j : Int) := by
  unfold Sees
  simp only [List.mem_map, List.mem_filter, List.mem_range'_1, decide_eq_true_iff]
  constructor
  · rintro ⟨q, ⟨_, h⟩, e⟩
    rwa [e] at h
  · intro h
    exact ⟨j, ⟨⟨by omega, by omega⟩, h⟩, rfl⟩
theorem sees_sorted (w : Int) (c : List Int) (a : Int) (i d : Nat) : (Sees w c a i d).Pairwise (· < ·) := by
  unfold Sees
  rw [List.pairwise_map]
  refine List.Pairwise.filter _ ?_
  exact (List.pairwise_lt_range' (s := i) (n := d)).imp (fun h => by omega)

theorem mostS_l0 {w : Int} {c : List Int} (h : Cl w c) {a : Int} (ha : Fr c a) (d : Nat) : ∀ (i : Nat) (acc : List Int), i + d = c.length → acc.length ≤ i →
    Ev (fun k => impl_MostClear.l0 k a acc (c.length : Int) i w c) (acc ++ Sees w c a i d) ∧ Ev (fun k => spec_MostClear.l0 k a acc (c.length : Int) i w c) (acc ++ Sees w c a i d) := by
  have hn := h.n256
  induction d with
  | zero =>
    intro i acc hi hl
    have e : acc ++ Sees w c a i 0 = acc := by simp [Sees]
    rw [e]
    refine ⟨Ev.succ ?_, Ev.succ ?_⟩
    · simp only [impl_MostClear.l0]
      exact Ev.neg (by omega) (Ev.some rfl)
    · simp only [spec_MostClear.l0]
      exact Ev.neg (by omega) (Ev.some rfl)
  | succ d ih =>
    intro i acc hi hl
    have s := clear_spec h a (i : Int)
    rw [sees_succ]
    by_cases hc : Clr w c a (i : Int)
    · obtain ⟨e1, e2⟩ := ih (i + 1) (acc ++ [(i : Int)]) (by omega) (by simp; omega)
      rw [if_pos hc]
      rw [List.append_assoc] at e1 e2
      refine ⟨Ev.succ ?_, Ev.succ ?_⟩
      · simp only [impl_MostClear.l0, succ_w (show i < 35184372088833 by omega)]
        exact Ev.pos (by omega) (Ev.bnd0 (free_impl w c _) (Ev.pos (by simpa using hc.2.1) (Ev.bnd0 (clear_impl h ha hc.2.1) (Ev.pos (by simpa using hc) (Ev.pos (by omega) e1)))))
      · simp only [spec_MostClear.l0, succ_w (show i < 35184372088833 by omega)]
        exact Ev.pos (by omega) (Ev.bnd s (Ev.pos (by simpa using hc) (Ev.pos (by omega) e2)))
    · obtain ⟨e1, e2⟩ := ih (i + 1) acc (by omega) (by omega)
      rw [if_neg hc]
      refine ⟨Ev.succ ?_, Ev.succ ?_⟩
      · simp only [impl_MostClear.l0, succ_w (show i < 35184372088833 by omega)]
        by_cases hf : Fr c (i : Int)
        · exact Ev.pos (by omega) (Ev.bnd0 (free_impl w c _) (Ev.pos (by simpa using hf) (Ev.bnd0 (clear_impl h ha hf) (Ev.neg (by simpa using hc) e1))))
        · exact Ev.pos (by omega) (Ev.bnd0 (free_impl w c _) (Ev.neg (by simpa using hf) e1))
      · simp only [spec_MostClear.l0, succ_w (show i < 35184372088833 by omega)]
        exact Ev.pos (by omega) (Ev.bnd s (Ev.neg (by simpa using hc) e2))

theorem mostS (w : Int) (c : List Int) (a : Int) (hn : c.length ≤ 35184372088832) : ∃ r : List Int, Ev (fun k => impl_MostClear.f k w c a) r ∧ Ev (fun k => spec_MostClear.f k w c a) r ∧ r.length ≤ c.length ∧ r.Pairwise (· < ·) ∧ (¬ Cl w c → r = []) ∧ (Cl w c → ∀ j : Nat, j < c.length → ((j : Int) ∈ r ↔ Clr w c a (j : Int))) := by
  simp only [impl_MostClear.f, spec_MostClear.f]
  have no : Ev (fun k => impl_MostClear.j0 k a true w c) [] ∧ Ev (fun k => spec_MostClear.j0 k a true w c) [] := by
    refine ⟨Ev.succ ?_, Ev.succ ?_⟩
    · simp only [impl_MostClear.j0]; exact Ev.pos trivial (Ev.some rfl)
    · simp only [spec_MostClear.j0]; exact Ev.pos trivial (Ev.some rfl)
  by_cases h : Cl w c
  · by_cases ha : Fr c a
    · obtain ⟨e1, e2⟩ := mostS_l0 h ha c.length 0 [] (by omega) (Nat.le_refl _)
      rw [List.nil_append] at e1 e2
      refine ⟨Sees w c a 0 c.length, Ev.bnd (goodCells_impl w c hn) (Ev.pos (by simpa using h) (Ev.bnd0 (free_impl w c a) ?_)), Ev.bnd (goodCells_spec w c hn) (Ev.pos (by simpa using h) (Ev.bnd0 (free_spec w c a) ?_)), sees_length _ _ _ _ _, sees_sorted _ _ _ _ _, fun x => absurd h x, fun _ j hj => sees_mem w c a c.length j hj⟩
      · rw [decide_eq_true ha]
        apply Ev.succ
        simp only [impl_MostClear.j0, Bool.not_true]
        exact Ev.neg (by simp) e1
      · rw [decide_eq_true ha]
        apply Ev.succ
        simp only [spec_MostClear.j0, Bool.not_true]
        exact Ev.neg (by simp) e2
    · refine ⟨[], Ev.bnd (goodCells_impl w c hn) (Ev.pos (by simpa using h) (Ev.bnd0 (free_impl w c a) ?_)), Ev.bnd (goodCells_spec w c hn) (Ev.pos (by simpa using h) (Ev.bnd0 (free_spec w c a) ?_)), Nat.zero_le _, List.Pairwise.nil, fun _ => rfl, fun _ j _ => ⟨fun x => (by simp at x), fun x => absurd x.1 ha⟩⟩
      · rw [decide_eq_false ha]
        exact no.1
      · rw [decide_eq_false ha]
        exact no.2
  · exact ⟨[], Ev.bnd (goodCells_impl w c hn) (Ev.neg (by simpa using h) no.1), Ev.bnd (goodCells_spec w c hn) (Ev.neg (by simpa using h) no.2), Nat.zero_le _, List.Pairwise.nil, fun _ => rfl, fun x => absurd x h⟩

theorem rising (r : List Int) (hr : r.Pairwise (· < ·)) (hl : r.length ≤ 1000000) (d : Nat) : ∀ i : Nat, 1 ≤ i → r.length ≤ i + d → Ev (fun k => laws_zRising.l0 k r i) true := by
  induction d with
  | zero =>
    intro i h1 hi
    apply Ev.succ
    simp only [laws_zRising.l0]
    exact Ev.neg (by omega) (Ev.some rfl)
  | succ d ih =>
    intro i h1 hi
    apply Ev.succ
    by_cases hlt : i < r.length
    · have em : wrap64 ((i : Int) - 1) = ((i - 1 : Nat) : Int) := by rw [wrap64_id (by omega) (by omega)]; omega
      have e1 : rd r (i : Int) = r[i]'hlt := by
        unfold rd
        rw [List.getD_eq_getElem?_getD, Int.toNat_natCast, List.getElem?_eq_getElem hlt]
        rfl
      have e2 : rd r ((i - 1 : Nat) : Int) = r[i - 1]'(by omega) := by
        unfold rd
        rw [List.getD_eq_getElem?_getD, Int.toNat_natCast, List.getElem?_eq_getElem (show i - 1 < r.length by omega)]
        rfl
      have lt := (List.pairwise_iff_getElem.1 hr) (i - 1) i (by omega) hlt (by omega)
      simp only [laws_zRising.l0, em, e1, e2, succ_w (show i < 35184372088833 by omega)]
      exact Ev.pos (by omega) (Ev.pos (by omega) (Ev.pos (by omega) (Ev.pos (by omega) (Ev.neg (by omega) (ih (i + 1) (by omega) (by omega))))))
    · simp only [laws_zRising.l0]
      exact Ev.neg (by omega) (Ev.some rfl)

theorem zin_l0 (r : List Int) (v : Int) (hl : r.length ≤ 1000000) (d : Nat) : ∀ i : Nat, i + d = r.length → Ev (fun k => laws_zIn.l0 k v r (r.length : Int) i) (decide (v ∈ r.drop i)) := by
  induction d with
  | zero =>
    intro i hi
    rw [List.drop_eq_nil_of_le (by omega)]
    apply Ev.succ
    simp only [laws_zIn.l0]
    exact Ev.neg (by omega) (Ev.some (by simp))
  | succ d ih =>
    intro i hi
    have hlt : i < r.length := by omega
    have e1 : rd r (i : Int) = r[i]'hlt := by
      unfold rd
      rw [List.getD_eq_getElem?_getD, Int.toNat_natCast, List.getElem?_eq_getElem hlt]
      rfl
    have a := ih (i + 1) (by omega)
    rw [List.drop_eq_getElem_cons hlt]
    apply Ev.succ
    simp only [laws_zIn.l0, e1, succ_w (show i < 35184372088833 by omega)]
    refine Ev.pos (by omega) (Ev.pos (by omega) (Ev.pos (by omega) (Ev.ite (fun h => Ev.some ?_) (fun h => Ev.eq a ?_))))
    · symm
      rw [decide_eq_true_iff, h]
      exact List.mem_cons_self
    · rw [decide_eq_decide, List.mem_cons]
      exact ⟨Or.inr, fun x => x.resolve_left (fun e => h e.symm)⟩
theorem zin_ev (r : List Int) (v : Int) (hl : r.length ≤ 1000000) : Ev (fun k => laws_zIn.f k r v) (decide (v ∈ r)) := by
  simp only [laws_zIn.f]
  have := zin_l0 r v hl r.length 0 (by omega)
  rwa [List.drop_zero] at this

theorem clears_l0 (w : Int) (c : List Int) (h : Cl w c) (x : Int) (r : List Int) (hl : r.length ≤ 1000000) (hn : c.length ≤ 1000000) (hr : ∀ j : Nat, j < c.length → ((j : Int) ∈ r ↔ Clr w c x (j : Int))) (d : Nat) : ∀ i : Nat, i + d = c.length →
    Ev (fun k => laws_FnClears.l0 k x r (c.length : Int) i w c) true := by
  induction d with
  | zero =>
    intro i hi
    apply Ev.succ
    simp only [laws_FnClears.l0]
    exact Ev.neg (by omega) (Ev.some rfl)
  | succ d ih =>
    intro i hi
    have a1 := clear_is w c h x (i : Int) (by omega)
    have a2 : Ev (fun k => impl_Clear.f k w c (i : Int) x) (decide (Clr w c x (i : Int))) := Ev.eq (clear_is w c h (i : Int) x (by omega)) (by rw [decide_eq_decide]; exact clr_swap w c x (i : Int))
    have z : Ev (fun k => laws_zIn.f k r (i : Int)) (decide (Clr w c x (i : Int))) := Ev.eq (zin_ev r (i : Int) hl) (by rw [decide_eq_decide]; exact hr i (by omega))
    apply Ev.succ
    simp only [laws_FnClears.l0, succ_w (show i < 35184372088833 by omega)]
    exact Ev.pos (by omega) (Ev.bnd a1 (Ev.bnd z (Ev.neg (by simp) (Ev.bnd a2 (Ev.bnd z (Ev.neg (by simp) (ih (i + 1) (by omega))))))))

theorem FnClears : ∀ (l0 : List Int), (l0.length ≤ maxLen ∧ l0.length * 1 ≤ 140737488351232 ∧ ∀ y0 ∈ l0, (Lit.int .u8 y0).wf = true) → ∃ k, laws_FnClears.f k l0 = some true := by
  intro cd hcd
  apply Ev.rounds
  simp only [laws_FnClears.f]
  refine Ev.ite (fun _ => Ev.some rfl) (fun h => ?_)
  have hC : Code cd := ⟨by omega, fun y hy => by
    have := hcd.2.2 y hy
    simp [Lit.wf, IntKind.min, IntKind.max, IntKind.bits, IntKind.signed] at this
    omega⟩
  obtain ⟨w, c, x, y, a', s', e1, hm, _, _⟩ := ends_ok hC 0 0 (by omega) (by omega)
  have e0 : Ev (fun k => spec_DrawMostClear.f k cd) (w, c, x) := by
    simp only [spec_DrawMostClear.f]
    exact Ev.bnd e1 (Ev.some rfl)
  obtain ⟨r, m1, m2, hl, hs, hno, hyes⟩ := mostS w c x (by omega)
  refine Ev.bnd e0 (Ev.bnd m1 (Ev.bnd m2 (Ev.pos rfl ?_)))
  have zr : Ev (fun k => laws_zRising.f k r) true := by
    simp only [laws_zRising.f]
    exact rising r hs (by omega) r.length 1 (Nat.le_refl _) (by omega)
  refine Ev.bnd zr (Ev.succ ?_)
  simp only [laws_FnClears.j0, Bool.not_true]
  refine Ev.neg (by simp) (Ev.bnd (goodCells_spec w c (by omega)) (Ev.ite (fun hg => ?_) (fun hg => Ev.some ?_)))
  · have hg' : Cl w c := by simpa using hg
    exact clears_l0 w c hg' x r (by omega) (by omega) (hyes hg') c.length 0 (by omega)
  · have hg' : ¬ Cl w c := by simpa using hg
    rw [hno hg']
    rfl

end Go.Proofs.Ytjcmlggdaajicaa.Pure
