/-
Own text: the program's arbitration and the reference's come to the same.
-/
import Derived.Test.YtbdonoeellmeoaaPureBase
import Derived.Test.YtbdonoeellmeoaaPureBits
import Derived.Test.YtbdonoeellmeoaaPrd1
import Derived.Test.YtbdonoeellmeoaaEvKit
namespace Go.Proofs.Ytbdonoeellmeoaa.Pure
open Go.RowKit Go.Proofs.YtbdonoeellmeoaaW.PrintWords Go.Proofs.YtbdonoeellmeoaaW.PrintLast Go.Proofs.YtbdonoeellmeoaaW.PrintMore Go.Proofs.Ytbdonoeellmeoaa.Pr Go.Proofs.Ytbdonoeellmeoaa.EvKit
open Classical

theorem btw (a lo hi : Int) : impl_between.f a lo hi = some (decide (lo ≤ a ∧ a ≤ hi)) := by
  unfold impl_between.f
  by_cases h : a ≥ lo <;> simp [h] <;> omega
/-- Ids that may be. -/
def Ids (l : List Int) (i : Nat) : Prop := From l.length i fun j => 0 ≤ l.getD j 0 ∧ l.getD j 0 ≤ 2047
/-- The bit that is sent as bit k (11 of them, the greatest first). -/
def Bk (l : List Int) (j k : Nat) : Nat := (l.getD j 0).toNat / 2 ^ (10 - k) % 2
theorem Bk_or (l : List Int) (j k : Nat) : Bk l j k = 0 ∨ Bk l j k = 1 := by unfold Bk; omega
def Low (l x : List Int) (k i : Nat) : Prop := ∃ j, j < i ∧ x.getD j 0 < 0 ∧ Bk l j k = 0
/-- Who leaves at bit k. -/
noncomputable def Mrk (l x : List Int) (k i : Nat) : List Int := (List.range x.length).map fun j => if j < i ∧ x.getD j 0 < 0 ∧ Low l x k x.length ∧ Bk l j k = 1 then (k : Int) else x.getD j 0
theorem Mrk_length (l x : List Int) (k i : Nat) : (Mrk l x k i).length = x.length := by simp [Mrk]
theorem Mrk_get (l x : List Int) (k i j : Nat) (h : j < x.length) : (Mrk l x k i).getD j 0 = if j < i ∧ x.getD j 0 < 0 ∧ Low l x k x.length ∧ Bk l j k = 1 then (k : Int) else x.getD j 0 := by
  simp [Mrk, List.getD_eq_getElem?_getD, h]
theorem Mrk_zero (l x : List Int) (k : Nat) : Mrk l x k 0 = x := by
  apply List.ext_getElem?
  intro j
  by_cases h : j < x.length
  · simp [Mrk, h, List.getD_eq_getElem?_getD]
  · simp [Mrk, h]
theorem Mrk_stay (l x : List Int) (k i : Nat) (h : ¬ (x.getD i 0 < 0 ∧ Low l x k x.length ∧ Bk l i k = 1)) : Mrk l x k (i + 1) = Mrk l x k i := by
  unfold Mrk
  apply List.map_congr_left
  intro j _
  by_cases e : j = i
  · subst e
    rw [if_neg (fun a => h a.2), if_neg (fun a => h a.2)]
  · by_cases c : j < i ∧ x.getD j 0 < 0 ∧ Low l x k x.length ∧ Bk l j k = 1
    · rw [if_pos c, if_pos ⟨by omega, c.2⟩]
    · rw [if_neg c, if_neg (fun a => c ⟨by omega, a.2⟩)]
theorem Mrk_set (l x : List Int) (k i : Nat) (hi : i < x.length) (h : x.getD i 0 < 0 ∧ Low l x k x.length ∧ Bk l i k = 1) : (Mrk l x k i).set i k = Mrk l x k (i + 1) := by
  apply List.ext_getElem?
  intro j
  by_cases hj : j < x.length
  · by_cases e : j = i
    · subst e
      rw [List.getElem?_set_self (by rw [Mrk_length]; exact hj)]
      unfold Mrk
      rw [List.getElem?_map, List.getElem?_range hj]
      simp only [Option.map_some]
      rw [if_pos ⟨by omega, h⟩]
    · rw [List.getElem?_set_ne (by omega)]
      unfold Mrk
      rw [List.getElem?_map, List.getElem?_map, List.getElem?_range hj]
      simp only [Option.map_some]
      by_cases c : j < i ∧ x.getD j 0 < 0 ∧ Low l x k x.length ∧ Bk l j k = 1
      · rw [if_pos c, if_pos ⟨by omega, c.2⟩]
      · rw [if_neg c, if_neg (fun a => c ⟨by omega, a.2⟩)]
  · rw [List.getElem?_eq_none (by simp [Mrk_length]; omega), List.getElem?_eq_none (by rw [Mrk_length]; omega)]

theorem bit_of (l : List Int) (h : Ids l 0) (j k : Nat) (hj : j < l.length) (hk : k < 11) (s : Int) (hs : s = ((10 - k : Nat) : Int)) : Go.bits .and .i64 (shr .i64 (rd l (j : Int)) s) 1 = (Bk l j k : Int) := by
  have h0 := h j (by omega) hj
  have e : rd l (j : Int) = (((l.getD j 0).toNat : Nat) : Int) := by
    show l.getD j 0 = _
    omega
  rw [e, hs, bit_nat _ _ (by omega) (by omega)]
  rfl
theorem and_bit (a b : Nat) (ha : a = 0 ∨ a = 1) (hb : b = 0 ∨ b = 1) : Go.bits .and .i64 (a : Int) (b : Int) = ((if b = 0 then 0 else a : Nat) : Int) := by
  rw [i64_and_nat a b (by omega) (by omega)]
  rcases ha with rfl | rfl <;> rcases hb with rfl | rfl <;> rfl

/-- The wire: 0 just where one of those that are left sends 0. -/
theorem impl_l2 (l x : List Int) (k : Nat) (h : Ids l 0) (hn : l.length ≤ 6) (hk : k < 11) (hx : x.length = l.length) (r : Int × List Int × Bool) (d : Nat) : ∀ (i w : Nat), i + d = l.length → w = (if Low l x k i then 0 else 1) →
    Ev (fun q => impl_Arbitrate.l3 q l x k ((if Low l x k x.length then 0 else 1 : Nat) : Int) k l (l.length : Int) 0) r → Ev (fun q => impl_Arbitrate.l2 q l x k (w : Int) k l (l.length : Int) i) r := by
  induction d with
  | zero =>
    intro i w hi hw hr
    apply Ev.succ
    simp only [impl_Arbitrate.l2, show ¬ ((i : Int) < (l.length : Int)) by omega, if_false]
    rw [show x.length = i by omega, ← hw] at hr
    exact hr
  | succ d ih =>
    intro i w hi hw hr
    apply Ev.succ
    have e : rd x (i : Int) = x.getD i 0 := rfl
    simp only [impl_Arbitrate.l2, hx, show ((i : Int) < (l.length : Int)) by omega, show (0 : Int) ≤ (i : Int) by omega, if_true, e, succ_w (show i < 35184372088833 by omega), wrap64_id (x := 10 - (k : Int)) (by omega) (by omega), show (0 : Int) ≤ 10 - (k : Int) by omega,
      bit_of l h i k (by omega) hk (10 - (k : Int)) (by omega)]
    have hstep : Low l x k (i + 1) ↔ Low l x k i ∨ (x.getD i 0 < 0 ∧ Bk l i k = 0) := by
      constructor
      · rintro ⟨j, h1, h2⟩
        by_cases e : j = i
        · exact Or.inr (e ▸ h2)
        · exact Or.inl ⟨j, by omega, h2⟩
      · rintro (⟨j, h1, h2⟩ | h)
        · exact ⟨j, by omega, h2⟩
        · exact ⟨i, by omega, h⟩
    refine Ev.ite (fun hu => ?_) (fun hu => ?_)
    · rw [and_bit w (Bk l i k) (by rw [hw]; split <;> simp) (Bk_or l i k)]
      refine ih (i + 1) _ (by omega) ?_ hr
      rw [hw]
      by_cases hb : Bk l i k = 0
      · rw [if_pos hb, if_pos (hstep.2 (Or.inr ⟨hu, hb⟩))]
      · rw [if_neg hb]
        by_cases hl : Low l x k i
        · rw [if_pos hl, if_pos (hstep.2 (Or.inl hl))]
        · rw [if_neg hl, if_neg (fun a => (hstep.1 a).elim hl (fun b => hb b.2))]
    · refine ih (i + 1) w (by omega) ?_ hr
      rw [hw]
      by_cases hl : Low l x k i
      · rw [if_pos hl, if_pos (hstep.2 (Or.inl hl))]
      · rw [if_neg hl, if_neg (fun a => (hstep.1 a).elim hl (fun b => hu b.1))]
theorem impl_l3 (l x : List Int) (k : Nat) (h : Ids l 0) (hn : l.length ≤ 6) (hk : k < 11) (hx : x.length = l.length) (r : Int × List Int × Bool) (d : Nat) : ∀ (i : Nat), i + d = l.length →
    Ev (fun q => impl_Arbitrate.l1 q l (Mrk l x k x.length) ((k + 1 : Nat) : Int)) r → Ev (fun q => impl_Arbitrate.l3 q l (Mrk l x k i) k ((if Low l x k x.length then 0 else 1 : Nat) : Int) k l (l.length : Int) i) r := by
  induction d with
  | zero =>
    intro i hi hr
    apply Ev.succ
    simp only [impl_Arbitrate.l3, show ¬ ((i : Int) < (l.length : Int)) by omega, if_false, succ_w (show k < 35184372088833 by omega)]
    rw [show x.length = i by omega] at hr
    exact hr
  | succ d ih =>
    intro i hi hr
    apply Ev.succ
    have e : rd (Mrk l x k i) (i : Int) = x.getD i 0 := by
      show (Mrk l x k i).getD i 0 = _
      rw [Mrk_get l x k i i (by omega), if_neg (by omega)]
    simp only [impl_Arbitrate.l3, Mrk_length, hx, show ((i : Int) < (l.length : Int)) by omega, show (0 : Int) ≤ (i : Int) by omega, if_true, e, succ_w (show i < 35184372088833 by omega), wrap64_id (x := 10 - (k : Int)) (by omega) (by omega), show (0 : Int) ≤ 10 - (k : Int) by omega,
      bit_of l h i k (by omega) hk (10 - (k : Int)) (by omega), Int.toNat_natCast]
    rw [hx] at ih
    have hb := Bk_or l i k
    refine Ev.ite (fun hu => Ev.ite (fun hw => ?_) (fun hw => ?_)) (fun hu => ?_)
    · have hc : x.getD i 0 < 0 ∧ Low l x k x.length ∧ Bk l i k = 1 := by
        by_cases hl : Low l x k l.length
        · rw [if_pos hl] at hw
          exact ⟨hu, by rwa [hx], by omega⟩
        · rw [if_neg hl] at hw
          omega
      rw [Mrk_set l x k i (by omega) hc]
      exact ih (i + 1) (by omega) (by rwa [hx] at hr)
    · rw [← Mrk_stay l x k i]
      · exact ih (i + 1) (by omega) (by rwa [hx] at hr)
      · rintro ⟨_, h2, h3⟩
        rw [hx] at h2
        rw [if_pos h2] at hw
        omega
    · rw [← Mrk_stay l x k i (fun a => hu a.1)]
      exact ih (i + 1) (by omega) (by rwa [hx] at hr)

theorem u64_id {x : Int} (h : 0 ≤ x) (h2 : x < 1000) : IntKind.u64.wrap x = x := by
  rw [IntKind.wrap_u64]
  omega

theorem spec_l3 (l x : List Int) (k : Nat) (h : Ids l 0) (hn : l.length ≤ 6) (hk : k < 11) (hx : x.length = l.length) (r : Int × List Int × Bool) (d : Nat) : ∀ (i : Nat), i + d = l.length →
    Ev (fun q => spec_Arbitrate.l4 q l x k (decide (Low l x k x.length)) l (l.length : Int) 0) r → Ev (fun q => spec_Arbitrate.l3 q l x k (decide (Low l x k i)) l (l.length : Int) i) r := by
  induction d with
  | zero =>
    intro i hi hr
    apply Ev.succ
    simp only [spec_Arbitrate.l3, show ¬ ((i : Int) < (l.length : Int)) by omega, if_false]
    rw [show x.length = i by omega] at hr
    exact hr
  | succ d ih =>
    intro i hi hr
    apply Ev.succ
    have e : rd x (i : Int) = x.getD i 0 := rfl
    simp only [spec_Arbitrate.l3, hx, show ((i : Int) < (l.length : Int)) by omega, show (0 : Int) ≤ (i : Int) by omega, if_true, e, succ_w (show i < 35184372088833 by omega), wrap64_id (x := 10 - (k : Int)) (by omega) (by omega), u64_id (x := 10 - (k : Int)) (by omega) (by omega), show (0 : Int) ≤ 10 - (k : Int) by omega,
      bit_of l h i k (by omega) hk (10 - (k : Int)) (by omega)]
    have hstep : Low l x k (i + 1) ↔ Low l x k i ∨ (x.getD i 0 < 0 ∧ Bk l i k = 0) := by
      constructor
      · rintro ⟨j, h1, h2⟩
        by_cases e : j = i
        · exact Or.inr (e ▸ h2)
        · exact Or.inl ⟨j, by omega, h2⟩
      · rintro (⟨j, h1, h2⟩ | h)
        · exact ⟨j, by omega, h2⟩
        · exact ⟨i, by omega, h⟩
    have go : ∀ b, b = decide (Low l x k (i + 1)) → Ev (fun q => spec_Arbitrate.l3 q l x k b l (l.length : Int) ((i + 1 : Nat) : Int)) r := by
      intro b hb
      rw [hb]
      exact ih (i + 1) (by omega) hr
    by_cases hl : Low l x k i
    · refine Ev.pos (by simpa using hl) (go _ ?_)
      symm
      rw [decide_eq_true_eq]
      exact hstep.2 (Or.inl hl)
    · refine Ev.neg (by simpa using hl) (Ev.ite (fun hu => go _ ?_) (fun hu => go _ ?_))
      · by_cases hb : Bk l i k = 0
        · rw [decide_eq_true (hstep.2 (Or.inr ⟨hu, hb⟩)), hb]
          rfl
        · rw [decide_eq_false (fun a => (hstep.1 a).elim hl (fun b => hb b.2))]
          simpa using hb
      · rw [decide_eq_false (fun a => (hstep.1 a).elim hl (fun b => hu b.1))]
theorem spec_l4 (l x : List Int) (k : Nat) (h : Ids l 0) (hn : l.length ≤ 6) (hk : k < 11) (hx : x.length = l.length) (r : Int × List Int × Bool) (d : Nat) : ∀ (i : Nat), i + d = l.length →
    Ev (fun q => spec_Arbitrate.l2 q l (Mrk l x k x.length) ((k + 1 : Nat) : Int)) r → Ev (fun q => spec_Arbitrate.l4 q l (Mrk l x k i) k (decide (Low l x k x.length)) l (l.length : Int) i) r := by
  induction d with
  | zero =>
    intro i hi hr
    apply Ev.succ
    simp only [spec_Arbitrate.l4, show ¬ ((i : Int) < (l.length : Int)) by omega, if_false, succ_w (show k < 35184372088833 by omega)]
    rw [show x.length = i by omega] at hr
    exact hr
  | succ d ih =>
    intro i hi hr
    apply Ev.succ
    have e : rd (Mrk l x k i) (i : Int) = x.getD i 0 := by
      show (Mrk l x k i).getD i 0 = _
      rw [Mrk_get l x k i i (by omega), if_neg (by omega)]
    simp only [spec_Arbitrate.l4, Mrk_length, hx, show ((i : Int) < (l.length : Int)) by omega, show (0 : Int) ≤ (i : Int) by omega, if_true, e, succ_w (show i < 35184372088833 by omega), wrap64_id (x := 10 - (k : Int)) (by omega) (by omega), u64_id (x := 10 - (k : Int)) (by omega) (by omega), show (0 : Int) ≤ 10 - (k : Int) by omega,
      bit_of l h i k (by omega) hk (10 - (k : Int)) (by omega), Int.toNat_natCast]
    rw [hx] at ih
    have stay : ¬ (x.getD i 0 < 0 ∧ Low l x k x.length ∧ Bk l i k = 1) → Ev (fun q => spec_Arbitrate.l4 q l (Mrk l x k i) k (decide (Low l x k l.length)) l (l.length : Int) ((i + 1 : Nat) : Int)) r := by
      intro hs
      rw [← Mrk_stay l x k i hs]
      exact ih (i + 1) (by omega) (by rwa [hx] at hr)
    refine Ev.ite (fun hl => ?_) (fun hl => stay (fun a => hl (by rw [decide_eq_true_eq]; rw [← hx]; exact a.2.1)))
    refine Ev.ite (fun hu => Ev.ite (fun hb => ?_) (fun hb => stay (fun a => hb (by omega)))) (fun hu => stay (fun a => hu a.1))
    have hc : x.getD i 0 < 0 ∧ Low l x k x.length ∧ Bk l i k = 1 := ⟨hu, by rw [hx]; simpa using hl, by omega⟩
    rw [Mrk_set l x k i (by omega) hc]
    exact ih (i + 1) (by omega) (by rwa [hx] at hr)

/-- What the list of those that left is at each bit: one is left still; who is left is told by -1. -/
def Inv (x : List Int) : Prop := (∃ j, j < x.length ∧ x.getD j 0 < 0) ∧ ∀ j, j < x.length → x.getD j 0 = -1 ∨ (0 ≤ x.getD j 0 ∧ x.getD j 0 < 11)
theorem Inv_step (l x : List Int) (k : Nat) (hk : k < 11) (h : Inv x) : Inv (Mrk l x k x.length) := by
  obtain ⟨⟨j, hj, hj2⟩, h2⟩ := h
  refine ⟨?_, fun q hq => ?_⟩
  · by_cases hl : Low l x k x.length
    · obtain ⟨p, hp, hp2, hp3⟩ := hl
      refine ⟨p, by rw [Mrk_length]; exact hp, ?_⟩
      rw [Mrk_get _ _ _ _ _ hp, if_neg (fun a => by omega)]
      exact hp2
    · refine ⟨j, by rw [Mrk_length]; exact hj, ?_⟩
      rw [Mrk_get _ _ _ _ _ hj, if_neg (fun a => hl a.2.2.1)]
      exact hj2
  · rw [Mrk_length] at hq
    rw [Mrk_get _ _ _ _ _ hq]
    split
    · exact Or.inr (by omega)
    · exact h2 q hq

/-- The first that is left. -/
theorem first_both (x : List Int) (hn : x.length ≤ 6) (h : Inv x) (d : Nat) : ∀ i : Nat, i + d = x.length → (∃ j, i ≤ j ∧ j < x.length ∧ x.getD j 0 < 0) →
    ∃ w : Nat, w < x.length ∧ i ≤ w ∧ x.getD w 0 < 0 ∧ (∀ j, i ≤ j → j < w → 0 ≤ x.getD j 0) ∧ Ev (fun q => slices_Index_int_int.l0 q x (-1) (x.length : Int) i) (w : Int) ∧ Ev (fun q => spec_Arbitrate.l5 q x i) ((w : Int), x, true) := by
  induction d with
  | zero =>
    rintro i hi ⟨j, h1, h2, _⟩
    omega
  | succ d ih =>
    rintro i hi ⟨j, h1, h2, h3⟩
    have e : rd x (i : Int) = x.getD i 0 := rfl
    have p1 : (0 : Int) ≤ (i : Int) := by omega
    have p2 : (i : Int) < (x.length : Int) := by omega
    by_cases hi2 : x.getD i 0 < 0
    · have hm : x.getD i 0 = -1 := by rcases h.2 i (by omega) with h | h <;> omega
      refine ⟨i, by omega, by omega, hi2, fun j a b => by omega, Ev.succ ?_, Ev.succ ?_⟩
      · simp only [slices_Index_int_int.l0, p1, p2, if_true, e]
        exact Ev.pos hm.symm (Ev.some rfl)
      · simp only [spec_Arbitrate.l5, p1, p2, if_true, e]
        exact Ev.neg (by omega) (Ev.some rfl)
    · obtain ⟨w, w1, w2, w3, w4, w5, w6⟩ := ih (i + 1) (by omega) ⟨j, by by_cases ej : j = i; (· subst ej; omega); (· omega), h2, h3⟩
      refine ⟨w, w1, by omega, w3, fun j a b => ?_, Ev.succ ?_, Ev.succ ?_⟩
      · by_cases ej : j = i
        · subst ej; omega
        · exact w4 j (by omega) b
      · simp only [slices_Index_int_int.l0, p1, p2, if_true, e, succ_w (show i < 35184372088833 by omega)]
        exact Ev.neg (by omega) w5
      · simp only [spec_Arbitrate.l5, p1, p2, if_true, e, succ_w (show i < 35184372088833 by omega)]
        exact Ev.pos (by omega) w6

/-- The rounds from bit k on. -/
noncomputable def rnds (l : List Int) : Nat → Nat → List Int → List Int
  | 0, _, x => x
  | d + 1, k, x => rnds l d (k + 1) (Mrk l x k x.length)
theorem rounds_both (l : List Int) (h : Ids l 0) (hn : l.length ≤ 6) (d : Nat) : ∀ (k : Nat) (x : List Int), k + d = 11 → x.length = l.length → Inv x →
    ∃ w : Nat, (rnds l d k x).length = l.length ∧ Inv (rnds l d k x) ∧ w < l.length ∧ (rnds l d k x).getD w 0 < 0 ∧ (∀ j, j < w → 0 ≤ (rnds l d k x).getD j 0) ∧
      Ev (fun q => impl_Arbitrate.l1 q l x k) ((w : Int), rnds l d k x, true) ∧ Ev (fun q => spec_Arbitrate.l2 q l x k) ((w : Int), rnds l d k x, true) := by
  induction d with
  | zero =>
    intro k x hk hx hi
    obtain ⟨j, hj, hj2⟩ := hi.1
    obtain ⟨w, w1, w2, w3, w4, w5, w6⟩ := first_both x (by omega) hi x.length 0 (by omega) ⟨j, by omega, hj, hj2⟩
    refine ⟨w, hx, hi, by omega, w3, fun j hj => w4 j (by omega) hj, Ev.succ ?_, Ev.succ ?_⟩
    · simp only [impl_Arbitrate.l1, show ¬ ((k : Int) < 11) by omega, if_false, slices_Index_int_int.f]
      exact Ev.bnd w5 (Ev.some rfl)
    · simp only [spec_Arbitrate.l2, show ¬ ((k : Int) < 11) by omega, if_false]
      exact w6
  | succ d ih =>
    intro k x hk hx hi
    obtain ⟨w, w1, w2, w3, w4, w5, w6, w7⟩ := ih (k + 1) (Mrk l x k x.length) (by omega) (by rw [Mrk_length]; exact hx) (Inv_step l x k (by omega) hi)
    refine ⟨w, w1, w2, w3, w4, w5, Ev.succ ?_, Ev.succ ?_⟩
    · simp only [impl_Arbitrate.l1, show ((k : Int) < 11) by omega, if_true]
      have a := impl_l3 l x k h hn (by omega) hx _ l.length 0 (by omega) w6
      rw [Mrk_zero] at a
      exact impl_l2 l x k h hn (by omega) hx _ l.length 0 1 (by omega) (by rw [if_neg (by rintro ⟨j, hj, _⟩; omega)]) a
    · simp only [spec_Arbitrate.l2, show ((k : Int) < 11) by omega, if_true]
      have a := spec_l4 l x k h hn (by omega) hx _ l.length 0 (by omega) w7
      rw [Mrk_zero] at a
      have b := spec_l3 l x k h hn (by omega) hx _ l.length 0 (by omega) a
      rwa [decide_eq_false (show ¬ Low l x k 0 by rintro ⟨j, hj, _⟩; omega)] at b

/-- Each is left at first. -/
theorem impl_l0 (l : List Int) (hn : l.length ≤ 6) (r : Int × List Int × Bool) (d : Nat) : ∀ (i : Nat) (x : List Int), i + d = l.length → x.length = l.length → x.take i = List.replicate i (-1) →
    (Ids l i → Ev (fun q => impl_Arbitrate.l1 q l (List.replicate l.length (-1)) 0) r) → (¬ Ids l i → r = (0, [], false)) → Ev (fun q => impl_Arbitrate.l0 q l x l (l.length : Int) i) r := by
  induction d with
  | zero =>
    intro i x hi hx ht h1 h2
    apply Ev.succ
    simp only [impl_Arbitrate.l0, show ¬ ((i : Int) < (l.length : Int)) by omega, if_false]
    have e : x = List.replicate l.length (-1) := by
      have hi' : i = l.length := by omega
      rw [hi', List.take_of_length_le (by omega)] at ht
      exact ht
    rw [e]
    exact h1 (From.end_ (by omega))
  | succ d ih =>
    intro i x hi hx ht h1 h2
    apply Ev.succ
    have e : rd l (i : Int) = l.getD i 0 := rfl
    have step := From.step (n := l.length) (i := i) (C := fun j => 0 ≤ l.getD j 0 ∧ l.getD j 0 ≤ 2047) (by omega)
    simp only [impl_Arbitrate.l0, hx, show ((i : Int) < (l.length : Int)) by omega, show (0 : Int) ≤ (i : Int) by omega, if_true, e, btw, Option.bind_some, decide_eq_true_eq, succ_w (show i < 35184372088833 by omega), Int.toNat_natCast]
    refine Ev.ite (fun h => ?_) (fun h => Ev.some (h2 (fun a => h (step.1 a).1)).symm)
    refine ih (i + 1) _ (by omega) (by simpa using hx) ?_ (fun a => h1 (step.2 ⟨h, a⟩)) (fun a => h2 (fun b => a (step.1 b).2))
    rw [List.take_succ_eq_append_getElem (by simp; omega), List.take_set_of_le (by omega), ht]
    simp [List.replicate_succ']
theorem spec_l0 (l : List Int) (hn : l.length ≤ 6) (r : Int × List Int × Bool) (d : Nat) : ∀ (i : Nat), i + d = l.length →
    (Ids l i → Ev (fun q => spec_Arbitrate.l1 q l (List.replicate l.length 0) (((List.replicate l.length (0 : Int)).length : Nat) : Int) 0) r) → (¬ Ids l i → r = (0, [], false)) → Ev (fun q => spec_Arbitrate.l0 q l l (l.length : Int) i) r := by
  induction d with
  | zero =>
    intro i hi h1 h2
    apply Ev.succ
    simp only [spec_Arbitrate.l0, show ¬ ((i : Int) < (l.length : Int)) by omega, if_false, show (0 : Int) ≤ (l.length : Int) by omega, if_true, Int.toNat_natCast, show l.length ≤ 35184372088832 by omega, Option.bind_some]
    exact h1 (From.end_ (by omega))
  | succ d ih =>
    intro i hi h1 h2
    apply Ev.succ
    have e : rd l (i : Int) = l.getD i 0 := rfl
    have step := From.step (n := l.length) (i := i) (C := fun j => 0 ≤ l.getD j 0 ∧ l.getD j 0 ≤ 2047) (by omega)
    simp only [spec_Arbitrate.l0, show ((i : Int) < (l.length : Int)) by omega, show (0 : Int) ≤ (i : Int) by omega, if_true, e, succ_w (show i < 35184372088833 by omega)]
    refine Ev.ite (fun h => Ev.some (h2 (fun a => ?_)).symm) (fun h => Ev.ite (fun h' => Ev.some (h2 (fun a => ?_)).symm) (fun h' => ?_))
    · have := (step.1 a).1; omega
    · have := (step.1 a).1; omega
    · exact ih (i + 1) (by omega) (fun a => h1 (step.2 ⟨by omega, a⟩)) (fun a => h2 (fun b => a (step.1 b).2))
theorem spec_l1 (l : List Int) (hn : l.length ≤ 6) (r : Int × List Int × Bool) (d : Nat) : ∀ (i : Nat) (x : List Int), i + d = l.length → x.length = l.length → x.take i = List.replicate i (-1) →
    Ev (fun q => spec_Arbitrate.l2 q l (List.replicate l.length (-1)) 0) r → Ev (fun q => spec_Arbitrate.l1 q l x (l.length : Int) i) r := by
  induction d with
  | zero =>
    intro i x hi hx ht h1
    apply Ev.succ
    simp only [spec_Arbitrate.l1, show ¬ ((i : Int) < (l.length : Int)) by omega, if_false]
    have e : x = List.replicate l.length (-1) := by
      have hi' : i = l.length := by omega
      rw [hi', List.take_of_length_le (by omega)] at ht
      exact ht
    rw [e]
    exact h1
  | succ d ih =>
    intro i x hi hx ht h1
    apply Ev.succ
    simp only [spec_Arbitrate.l1, hx, show ((i : Int) < (l.length : Int)) by omega, show (0 : Int) ≤ (i : Int) by omega, if_true, succ_w (show i < 35184372088833 by omega), Int.toNat_natCast]
    refine ih (i + 1) _ (by omega) (by simpa using hx) ?_ h1
    rw [List.take_succ_eq_append_getElem (by simp; omega), List.take_set_of_le (by omega), ht]
    simp [List.replicate_succ']

/-- Ids that can be arbitrated. -/
def Fine (l : List Int) : Prop := 1 ≤ l.length ∧ l.length ≤ 6 ∧ Ids l 0
/-- Where each has left behind all bits. -/
noncomputable def Fin (l : List Int) : List Int := rnds l 11 0 (List.replicate l.length (-1))
theorem arbitrate_yes (l : List Int) (h : Fine l) : ∃ w : Nat, (Fin l).length = l.length ∧ Inv (Fin l) ∧ w < l.length ∧ (Fin l).getD w 0 < 0 ∧ (∀ j, j < w → 0 ≤ (Fin l).getD j 0) ∧
    Ev (fun q => impl_Arbitrate.f q l) ((w : Int), Fin l, true) ∧ Ev (fun q => spec_Arbitrate.f q l) ((w : Int), Fin l, true) := by
  obtain ⟨h1, h2, h3⟩ := h
  have hi : Inv (List.replicate l.length (-1)) := by
    refine ⟨⟨0, by simp; omega, by simp [List.getD_eq_getElem?_getD, show 0 < l.length by omega]⟩, fun j hj => Or.inl ?_⟩
    simp at hj
    simp [List.getD_eq_getElem?_getD, hj]
  obtain ⟨w, w1, w2, w3, w4, w5, w6, w7⟩ := rounds_both l h3 h2 11 0 (List.replicate l.length (-1)) rfl (by simp) hi
  refine ⟨w, w1, w2, w3, w4, w5, ?_, ?_⟩
  · simp only [impl_Arbitrate.f, show ¬ ((l.length : Int) < 1) by omega, if_false, show ¬ ((l.length : Int) > 6) by omega, decide_false]
    apply Ev.succ
    simp only [impl_Arbitrate.j0, Bool.false_eq_true, if_false, show (0 : Int) ≤ (l.length : Int) by omega, if_true, Int.toNat_natCast, show l.length ≤ 35184372088832 by omega]
    exact impl_l0 l h2 _ l.length 0 _ (by omega) (by simp) (by simp) (fun _ => w6) (fun a => absurd h3 a)
  · simp only [spec_Arbitrate.f, show ¬ ((l.length : Int) < 1) by omega, if_false, show ¬ ((l.length : Int) > 6) by omega, decide_false]
    apply Ev.succ
    simp only [spec_Arbitrate.j0, Bool.false_eq_true, if_false]
    refine spec_l0 l h2 _ l.length 0 (by omega) (fun _ => ?_) (fun a => absurd h3 a)
    simp only [List.length_replicate]
    exact spec_l1 l h2 _ l.length 0 _ (by omega) (by simp) (by simp) w7
theorem arbitrate_no (l : List Int) (h : ¬ Fine l) : Ev (fun q => impl_Arbitrate.f q l) (0, [], false) ∧ Ev (fun q => spec_Arbitrate.f q l) (0, [], false) := by
  by_cases h1 : (l.length : Int) < 1
  · simp only [impl_Arbitrate.f, spec_Arbitrate.f, h1, if_true]
    refine ⟨Ev.succ ?_, Ev.succ ?_⟩
    · simp only [impl_Arbitrate.j0, if_true]; exact Ev.some rfl
    · simp only [spec_Arbitrate.j0, if_true]; exact Ev.some rfl
  · by_cases h2 : (l.length : Int) > 6
    · simp only [impl_Arbitrate.f, spec_Arbitrate.f, h1, if_false, h2, decide_true]
      refine ⟨Ev.succ ?_, Ev.succ ?_⟩
      · simp only [impl_Arbitrate.j0, if_true]; exact Ev.some rfl
      · simp only [spec_Arbitrate.j0, if_true]; exact Ev.some rfl
    · have h3 : ¬ Ids l 0 := fun a => h ⟨by omega, by omega, a⟩
      simp only [impl_Arbitrate.f, spec_Arbitrate.f, h1, if_false, h2, decide_false]
      refine ⟨Ev.succ ?_, Ev.succ ?_⟩
      · simp only [impl_Arbitrate.j0, Bool.false_eq_true, if_false, show (0 : Int) ≤ (l.length : Int) by omega, if_true, Int.toNat_natCast, show l.length ≤ 35184372088832 by omega]
        exact impl_l0 l (by omega) _ l.length 0 _ (by omega) (by simp) (by simp) (fun a => absurd a h3) (fun _ => rfl)
      · simp only [spec_Arbitrate.j0, Bool.false_eq_true, if_false]
        exact spec_l0 l (by omega) _ l.length 0 (by omega) (fun a => absurd a h3) (fun _ => rfl)
theorem arbitrate_both (l : List Int) : ∃ (w : Int) (x : List Int) (b : Bool), x.length ≤ 6 ∧ Ev (fun q => impl_Arbitrate.f q l) (w, x, b) ∧ Ev (fun q => spec_Arbitrate.f q l) (w, x, b) := by
  by_cases h : Fine l
  · obtain ⟨w, w1, _, _, _, _, w6, w7⟩ := arbitrate_yes l h
    exact ⟨w, _, true, by rw [w1]; exact h.2.1, w6, w7⟩
  · obtain ⟨a, b⟩ := arbitrate_no l h
    exact ⟨0, [], false, by simp, a, b⟩

end Go.Proofs.Ytbdonoeellmeoaa.Pure
