/-
Own text: the program's check of a chart and the reference's come to the same; what a good chart is.
-/
import Derived.Test.YtkhkgfihodljmaaPureChart
namespace Go.Proofs.Ytkhkgfihodljmaa.Pure
open Go.RowKit Go.Proofs.YtkhkgfihodljmaaW.PrintWords Go.Proofs.YtkhkgfihodljmaaW.PrintLast Go.Proofs.Ytkhkgfihodljmaa.Pr Go.Proofs.Ytkhkgfihodljmaa.EvKit
open Classical

def ST (st : List S88) (i : Nat) : S88 := st.getD i z88
def Pa (st : List S88) (i : Nat) : Prop := (i = 0 → (ST st i).f0 = -1) ∧ (0 < i → 0 ≤ (ST st i).f0 ∧ (ST st i).f0 < i)
def KidTo (st : List S88) (i j : Nat) : Prop := ∃ q, q < j ∧ (ST st q).f0 = i
def Fi (st : List S88) (i : Nat) : Prop :=
  (KidTo st i st.length → 0 ≤ (ST st i).f1 ∧ (ST st i).f1 < st.length ∧ (ST st (ST st i).f1.toNat).f0 = i) ∧ (¬ KidTo st i st.length → (ST st i).f1 = -1)
def Arr (n : Nat) (a : S90) : Prop := 0 ≤ a.f0 ∧ a.f0 < n ∧ 0 ≤ a.f2 ∧ a.f2 < n ∧ 0 ≤ a.f1 ∧ a.f1 < 6
def From (n i : Nat) (C : Nat → Prop) : Prop := ∀ j, i ≤ j → j < n → C j
theorem From.end_ {n i : Nat} {C : Nat → Prop} (h : n ≤ i) : From n i C := fun j h1 h2 => by omega
theorem From.step {n i : Nat} {C : Nat → Prop} (h : i < n) : From n i C ↔ C i ∧ From n (i + 1) C := by
  constructor
  · exact fun a => ⟨a i (Nat.le_refl i) h, fun j h1 h2 => a j (by omega) h2⟩
  · rintro ⟨a, b⟩ j h1 h2
    by_cases e : j = i
    · exact e ▸ a
    · exact b j (by omega) h2
theorem succ_w {i : Nat} (h : i < 1048577) : wrap64 ((i : Int) + 1) = ((i + 1 : Nat) : Int) := by rw [wrap64_id (by omega) (by omega)]; omega

/-- The reference's arrows. -/
theorem specA (n : Nat) (ar : List S90) (hl : ar.length ≤ 1048576) (d : Nat) : ∀ i : Nat, i + d = ar.length →
    Ev (fun k => spec_GoodChart.l2 k n ar (ar.length : Int) i) (decide (From ar.length i fun j => Arr n (ar.getD j z90))) := by
  induction d with
  | zero =>
    intro i hi
    apply Ev.succ
    simp only [spec_GoodChart.l2, show ¬ ((i : Int) < (ar.length : Int)) by omega, if_false]
    exact Ev.some (by simp [From.end_ (show ar.length ≤ i by omega)])
  | succ d ih =>
    intro i hi
    apply Ev.succ
    have e : rd_T90 ar (i : Int) = ar.getD i z90 := rfl
    simp only [spec_GoodChart.l2, show ((i : Int) < (ar.length : Int)) by omega, show (0 : Int) ≤ (i : Int) by omega, if_true, e, succ_w (show i < 1048577 by omega)]
    generalize hg : ar.getD i z90 = g
    have hi := ih (i + 1) (by omega)
    by_cases h : Arr n g
    · have : decide (From ar.length i fun j => Arr n (ar.getD j z90)) = decide (From ar.length (i + 1) fun j => Arr n (ar.getD j z90)) := by
        rw [decide_eq_decide, From.step (by omega), hg]
        exact ⟨fun a => a.2, fun a => ⟨h, a⟩⟩
      rw [this]
      obtain ⟨a, b, c, d, e, f⟩ := h
      exact Ev.neg (by omega) (Ev.neg (by omega) (Ev.neg (by omega) (Ev.neg (by omega) (Ev.neg (by omega) (Ev.neg (by omega) hi)))))
    · have : decide (From ar.length i fun j => Arr n (ar.getD j z90)) = false := by
        rw [decide_eq_false_iff_not, From.step (by omega), hg]
        exact fun a => h a.1
      rw [this]
      unfold Arr at h
      repeat' (first | exact Ev.some rfl | (refine Ev.ite (fun _ => Ev.some rfl) (fun _ => ?_)) | (exfalso; omega))
/-- The program's arrows. -/
theorem implA (n : Nat) (hn : 1 ≤ n) (hn2 : n ≤ 12) (ar : List S90) (hl : ar.length ≤ 1048576) (d : Nat) : ∀ i : Nat, i + d = ar.length →
    Ev (fun k => impl_GoodChart.l2 k n ar (ar.length : Int) i) (decide (From ar.length i fun j => Arr n (ar.getD j z90))) := by
  induction d with
  | zero =>
    intro i hi
    apply Ev.succ
    simp only [impl_GoodChart.l2, show ¬ ((i : Int) < (ar.length : Int)) by omega, if_false]
    exact Ev.some (by simp [From.end_ (show ar.length ≤ i by omega)])
  | succ d ih =>
    intro i hi
    apply Ev.succ
    have e : rd_T90 ar (i : Int) = ar.getD i z90 := rfl
    have btw : ∀ a lo hi : Int, impl_between.f a lo hi = some (decide (lo ≤ a ∧ a ≤ hi)) := by
      intro a lo hi
      unfold impl_between.f
      by_cases h : a ≥ lo <;> simp [h] <;> omega
    simp only [impl_GoodChart.l2, show ((i : Int) < (ar.length : Int)) by omega, show (0 : Int) ≤ (i : Int) by omega, if_true, e, succ_w (show i < 1048577 by omega), btw, Option.bind_some, decide_eq_true_eq,
      wrap64_id (x := (n : Int) - 1) (by omega) (by omega)]
    generalize hg : ar.getD i z90 = g
    have hi := ih (i + 1) (by omega)
    by_cases h : Arr n g
    · have : decide (From ar.length i fun j => Arr n (ar.getD j z90)) = decide (From ar.length (i + 1) fun j => Arr n (ar.getD j z90)) := by
        rw [decide_eq_decide, From.step (by omega), hg]
        exact ⟨fun a => a.2, fun a => ⟨h, a⟩⟩
      rw [this]
      obtain ⟨a, b, c, d, e, f⟩ := h
      exact Ev.pos (by omega) (Ev.pos (by omega) (Ev.pos (by omega) hi))
    · have : decide (From ar.length i fun j => Arr n (ar.getD j z90)) = false := by
        rw [decide_eq_false_iff_not, From.step (by omega), hg]
        exact fun a => h a.1
      rw [this]
      unfold Arr at h
      repeat' (first | exact Ev.some rfl | (refine Ev.ite (fun _ => ?_) (fun _ => Ev.some rfl)) | (exfalso; omega))

/-- The reference's look for kids of state i, from j on. -/
theorem specK (st : List S88) (ar : List S90) (hl : st.length ≤ 12) (i : Nat) (r : Bool)
    (h1 : Fi st i → Ev (fun k => spec_GoodChart.l0 k st.length st (st.length : Int) ((i + 1 : Nat) : Int) st ar) r) (h2 : ¬ Fi st i → r = false) (hi : i < st.length) (d : Nat) : ∀ (j : Nat) (q : Bool), j + d = st.length → q = decide (KidTo st i j) →
    Ev (fun k => spec_GoodChart.l1 k st.length i q st (st.length : Int) i st (st.length : Int) j st ar (ST st i).f0 (ST st i).f1) r := by
  induction d with
  | zero =>
    intro j q hj hq
    have hj' : j = st.length := by omega
    subst hj'
    apply Ev.succ
    simp only [spec_GoodChart.l1, show ¬ ((st.length : Int) < (st.length : Int)) by omega, if_false, succ_w (show i < 1048577 by omega)]
    unfold Fi at h1 h2
    by_cases hk : KidTo st i st.length
    · simp only [hk, forall_const, not_true_eq_false, false_implies, and_true, decide_true] at h1 h2 hq
      subst hq
      have e : ∀ z : Int, rd_T88 st z = ST st z.toNat := fun z => rfl
      simp only [if_true, e]
      refine Ev.ite (fun _ => Ev.some (h2 (by omega)).symm) (fun _ => Ev.ite (fun _ => Ev.some (h2 (by omega)).symm) (fun _ => Ev.pos (by omega) (Ev.pos (by omega) (Ev.ite (fun e => h1 ⟨by omega, by omega, e⟩) (fun e => Ev.some (h2 (fun a => e a.2.2)).symm)))))
    · simp only [hk, false_implies, not_false_eq_true, forall_const, true_and, decide_false] at h1 h2 hq
      subst hq
      simp only [Bool.false_eq_true, if_false]
      exact Ev.ite (fun e => h1 e) (fun e => Ev.some (h2 e).symm)
  | succ d ih =>
    intro j q hj hq
    apply Ev.succ
    have e : rd_T88 st (j : Int) = ST st j := rfl
    simp only [spec_GoodChart.l1, show ((j : Int) < (st.length : Int)) by omega, show (0 : Int) ≤ (j : Int) by omega, if_true, succ_w (show j < 1048577 by omega), e]
    have kstep : KidTo st i (j + 1) ↔ KidTo st i j ∨ (ST st j).f0 = i := by
      constructor
      · rintro ⟨p, hp, hp2⟩
        by_cases e : p = j
        · exact Or.inr (e ▸ hp2)
        · exact Or.inl ⟨p, by omega, hp2⟩
      · rintro (⟨p, hp, hp2⟩ | h)
        · exact ⟨p, by omega, hp2⟩
        · exact ⟨j, by omega, h⟩
    by_cases hk : KidTo st i j
    · have hq' : q = true := by rw [hq]; simpa using hk
      exact Ev.pos hq' (ih (j + 1) true (by omega) (by simp [kstep, hk]))
    · have hq' : q = false := by rw [hq]; simpa using hk
      refine Ev.neg (by simp [hq']) (ih (j + 1) _ (by omega) ?_)
      by_cases h2 : (ST st j).f0 = (i : Int)
      · simp [kstep, hk, h2]
      · simp [kstep, hk, h2]

/-- The reference's loop over the states. -/
theorem specS (st : List S88) (ar : List S90) (hl : st.length ≤ 12) (har : ar.length ≤ 1048576) (d : Nat) : ∀ (i : Nat), i + d = st.length →
    Ev (fun k => spec_GoodChart.l0 k st.length st (st.length : Int) i st ar) (decide ((From st.length i fun j => Pa st j ∧ Fi st j) ∧ From ar.length 0 fun j => Arr st.length (ar.getD j z90))) := by
  induction d with
  | zero =>
    intro i hi
    apply Ev.succ
    simp only [spec_GoodChart.l0, show ¬ ((i : Int) < (st.length : Int)) by omega, if_false]
    have := specA st.length ar har ar.length 0 (by omega)
    simp only [From.end_ (show st.length ≤ i by omega), true_and]
    exact this
  | succ d ih =>
    intro i hi
    apply Ev.succ
    have e : rd_T88 st (i : Int) = ST st i := rfl
    simp only [spec_GoodChart.l0, show ((i : Int) < (st.length : Int)) by omega, show (0 : Int) ≤ (i : Int) by omega, if_true, e]
    have step := From.step (n := st.length) (i := i) (C := fun j => Pa st j ∧ Fi st j) (by omega)
    generalize hR : decide ((From st.length i fun j => Pa st j ∧ Fi st j) ∧ From ar.length 0 fun j => Arr st.length (ar.getD j z90)) = R
    have good : Pa st i → Ev (fun k => spec_GoodChart.j2 k st.length i st (st.length : Int) i false st ar (ST st i).f0 (ST st i).f1) R := by
      intro hp
      apply Ev.succ
      simp only [spec_GoodChart.j2, Bool.false_eq_true, if_false]
      have hstart : (false : Bool) = decide (KidTo st i 0) := by
        have : ¬ KidTo st i 0 := by rintro ⟨q, hq, _⟩; omega
        simp [this]
      refine specK st ar hl i R (fun hf => ?_) (fun hf => ?_) (by omega) st.length 0 false (by omega) hstart
      · have := ih (i + 1) (by omega)
        have e2 : R = decide ((From st.length (i + 1) fun j => Pa st j ∧ Fi st j) ∧ From ar.length 0 fun j => Arr st.length (ar.getD j z90)) := by
          rw [← hR, decide_eq_decide, step]
          exact ⟨fun a => ⟨a.1.2, a.2⟩, fun a => ⟨⟨⟨hp, hf⟩, a.1⟩, a.2⟩⟩
        rw [e2]
        exact this
      · rw [← hR, decide_eq_false_iff_not, step]
        exact fun a => hf a.1.1.2
    have bad : ¬ Pa st i → Ev (fun k => spec_GoodChart.j2 k st.length i st (st.length : Int) i true st ar (ST st i).f0 (ST st i).f1) R := by
      intro hp
      apply Ev.succ
      simp only [spec_GoodChart.j2, if_true]
      refine Ev.some ?_
      symm
      rw [← hR, decide_eq_false_iff_not, step]
      exact fun a => hp a.1.1.1
    unfold Pa at good bad
    refine Ev.ite (fun h0 => ?_) (fun h0 => ?_)
    · refine Ev.ite (fun hm => Ev.neg (by omega) (good (by omega))) (fun hm => bad (by omega))
    · refine Ev.pos (by omega) (Ev.ite (fun hm => bad (by omega)) (fun hm => ?_))
      by_cases hlt : (ST st i).f0 ≥ (i : Int)
      · rw [show decide ((ST st i).f0 ≥ (i : Int)) = true by simpa using hlt]
        exact bad (by omega)
      · rw [show decide ((ST st i).f0 ≥ (i : Int)) = false by simpa using hlt]
        exact good (by omega)

/-- What a good chart is. -/
def GC (st : List S88) (ar : List S90) : Prop := 1 ≤ st.length ∧ st.length ≤ 12 ∧ ar.length ≤ 24 ∧ (From st.length 0 fun j => Pa st j ∧ Fi st j) ∧ From ar.length 0 fun j => Arr st.length (ar.getD j z90)

theorem specGC (st : List S88) (ar : List S90) : Ev (fun k => spec_GoodChart.f k st ar) (decide (GC st ar)) := by
  simp only [spec_GoodChart.f]
  refine Ev.ite (fun h => Ev.succ ?_) (fun h => Ev.ite (fun h2 => Ev.succ ?_) (fun h2 => Ev.succ ?_))
  · simp only [spec_GoodChart.j0, if_true]
    exact Ev.some (by symm; rw [decide_eq_false_iff_not]; unfold GC; omega)
  · simp only [spec_GoodChart.j0, if_true]
    exact Ev.some (by symm; rw [decide_eq_false_iff_not]; unfold GC; omega)
  · by_cases h3 : (ar.length : Int) > 24
    · simp only [spec_GoodChart.j0, h3, decide_true, if_true]
      exact Ev.some (by symm; rw [decide_eq_false_iff_not]; unfold GC; omega)
    · simp only [spec_GoodChart.j0, h3, decide_false, Bool.false_eq_true, if_false]
      have := specS st ar (by omega) (by omega) st.length 0 (by omega)
      refine Ev.eq this ?_
      rw [decide_eq_decide]
      unfold GC
      exact ⟨fun a => ⟨by omega, by omega, by omega, a.1, a.2⟩, fun a => ⟨a.2.2.2.1, a.2.2.2.2⟩⟩

/-! ### the program's -/
/-- The marks of those that are parents, set by the states 1 .. i. -/
def Mk (st : List S88) (i : Nat) (x : List Bool) : Prop := x.length = st.length ∧ ∀ m, m < st.length → (rdOf false x (m : Int) = true ↔ ∃ q, 1 ≤ q ∧ q < i + 1 ∧ (ST st q).f0 = m)

/-- The program's loop over the firsts. -/
theorem implF (st : List S88) (ar : List S90) (hl : st.length ≤ 12) (hl1 : 1 ≤ st.length) (har : ar.length ≤ 1048576) (x : List Bool) (hx : x.length = st.length) (hm : ∀ m : Nat, m < st.length → (rdOf false x (m : Int) = true ↔ KidTo st m st.length)) (d : Nat) :
    ∀ (i : Nat), i + d = st.length →
    Ev (fun k => impl_GoodChart.l1 k st.length x st (st.length : Int) i st ar) (decide ((From st.length i fun j => Fi st j) ∧ From ar.length 0 fun j => Arr st.length (ar.getD j z90))) := by
  induction d with
  | zero =>
    intro i hi
    apply Ev.succ
    simp only [impl_GoodChart.l1, show ¬ ((i : Int) < (st.length : Int)) by omega, if_false]
    have := implA st.length hl1 hl ar har ar.length 0 (by omega)
    simp only [From.end_ (show st.length ≤ i by omega), true_and]
    exact this
  | succ d ih =>
    intro i hi
    apply Ev.succ
    have e : ∀ z : Int, rd_T88 st z = ST st z.toNat := fun z => rfl
    simp only [impl_GoodChart.l1, hx, show ((i : Int) < (st.length : Int)) by omega, show (0 : Int) ≤ (i : Int) by omega, if_true, e, succ_w (show i < 1048577 by omega), Int.toNat_natCast]
    have step := From.step (n := st.length) (i := i) (C := fun j => Fi st j) (by omega)
    generalize hR : decide ((From st.length i fun j => Fi st j) ∧ From ar.length 0 fun j => Arr st.length (ar.getD j z90)) = R
    have good : Fi st i → Ev (fun k => impl_GoodChart.l1 k st.length x st (st.length : Int) ((i + 1 : Nat) : Int) st ar) R := by
      intro hf
      have e2 : R = decide ((From st.length (i + 1) fun j => Fi st j) ∧ From ar.length 0 fun j => Arr st.length (ar.getD j z90)) := by
        rw [← hR, decide_eq_decide, step]
        exact ⟨fun a => ⟨a.1.2, a.2⟩, fun a => ⟨⟨hf, a.1⟩, a.2⟩⟩
      rw [e2]
      exact ih (i + 1) (by omega)
    have bad : ¬ Fi st i → R = false := by
      intro hf
      rw [← hR, decide_eq_false_iff_not, step]
      exact fun a => hf a.1.1
    unfold Fi at good bad
    by_cases hk : KidTo st i st.length
    · simp only [hk, forall_const, not_true_eq_false, false_implies, and_true] at good bad
      refine Ev.pos ((hm i (by omega)).2 hk) (Ev.ite (fun _ => Ev.some (bad (by omega)).symm) (fun _ => Ev.ite (fun _ => Ev.some (bad (by omega)).symm) (fun _ => Ev.pos (by omega) (Ev.pos (by omega) (Ev.ite (fun e => good ⟨by omega, by omega, e⟩) (fun e => Ev.some (bad (fun a => e a.2.2)).symm))))))
    · simp only [hk, false_implies, not_false_eq_true, forall_const, true_and] at good bad
      exact Ev.neg (fun a => hk ((hm i (by omega)).1 a)) (Ev.ite (fun e => good e) (fun e => Ev.some (bad e).symm))

theorem rdOf_set (x : List Bool) (m p : Nat) (hm : m < x.length) : rdOf false (x.set m true) (p : Int) = if p = m then true else rdOf false x (p : Int) := by
  unfold rdOf
  simp only [Int.toNat_natCast, List.getD_eq_getElem?_getD, List.getElem?_set]
  by_cases h : p = m
  · subst h; simp [hm]
  · simp [h, Ne.symm h]

/-- The program's loop over the parents. -/
theorem implP (st : List S88) (ar : List S90) (hl : st.length ≤ 12) (hl1 : 1 ≤ st.length) (har : ar.length ≤ 1048576) (h0 : (ST st 0).f0 = -1) (d : Nat) :
    ∀ (i : Nat) (x : List Bool), i + 1 + d = st.length → Mk st i x →
    Ev (fun k => impl_GoodChart.l0 k st.length x (st.drop 1) (((st.drop 1).length : Nat) : Int) i st ar)
      (decide ((From st.length (i + 1) fun j => Pa st j) ∧ (From st.length 0 fun j => Fi st j) ∧ From ar.length 0 fun j => Arr st.length (ar.getD j z90))) := by
  induction d with
  | zero =>
    intro i x hi hx
    apply Ev.succ
    simp only [impl_GoodChart.l0, List.length_drop, show ¬ ((i : Int) < ((st.length - 1 : Nat) : Int)) by omega, if_false]
    have := implF st ar hl hl1 har x hx.1 (fun m hm => ?_) st.length 0 (by omega)
    · simp only [From.end_ (show st.length ≤ i + 1 by omega), true_and]
      exact this
    · rw [hx.2 m hm]
      constructor
      · rintro ⟨q, h1, h2, h3⟩
        exact ⟨q, by omega, h3⟩
      · rintro ⟨q, h2, h3⟩
        refine ⟨q, ?_, by omega, h3⟩
        by_cases hq : q = 0
        · subst hq; rw [h0] at h3; omega
        · omega
  | succ d ih =>
    intro i x hi hx
    apply Ev.succ
    have e : rd_T88 (st.drop 1) (i : Int) = ST st (i + 1) := by
      unfold rd_T88 ST
      simp [List.getD_eq_getElem?_getD]
    simp only [impl_GoodChart.l0, List.length_drop, show ((i : Int) < ((st.length - 1 : Nat) : Int)) by omega, show (0 : Int) ≤ (i : Int) by omega, if_true, e, succ_w (show i < 1048577 by omega), hx.1]
    have step := From.step (n := st.length) (i := i + 1) (C := fun j => Pa st j) (by omega)
    generalize hR : decide ((From st.length (i + 1) fun j => Pa st j) ∧ (From st.length 0 fun j => Fi st j) ∧ From ar.length 0 fun j => Arr st.length (ar.getD j z90)) = R
    have bad : ¬ Pa st (i + 1) → R = false := by
      intro hf
      rw [← hR, decide_eq_false_iff_not, step]
      exact fun a => hf a.1.1
    refine Ev.ite (fun h => Ev.some (bad ?_).symm) (fun h => Ev.ite (fun h2 => Ev.some (bad ?_).symm) (fun h2 => Ev.pos (by omega) (Ev.pos (by omega) ?_)))
    · unfold Pa; omega
    · unfold Pa; omega
    · have hp : Pa st (i + 1) := by unfold Pa; omega
      have e2 : R = decide ((From st.length (i + 1 + 1) fun j => Pa st j) ∧ (From st.length 0 fun j => Fi st j) ∧ From ar.length 0 fun j => Arr st.length (ar.getD j z90)) := by
        rw [← hR, decide_eq_decide, step]
        exact ⟨fun a => ⟨a.1.2, a.2⟩, fun a => ⟨⟨hp, a.1⟩, a.2⟩⟩
      rw [e2]
      have := ih (i + 1) (x.set (ST st (i + 1)).f0.toNat true) (by omega) ⟨by simpa using hx.1, fun m hm => ?_⟩
      · simpa only [List.length_drop] using this
      · rw [rdOf_set x _ m (by have := hx.1; omega)]
        have hs : (∃ q, 1 ≤ q ∧ q < i + 1 + 1 ∧ (ST st q).f0 = (m : Int)) ↔ (∃ q, 1 ≤ q ∧ q < i + 1 ∧ (ST st q).f0 = (m : Int)) ∨ (ST st (i + 1)).f0 = (m : Int) := by
          constructor
          · rintro ⟨q, h1, h2, h3⟩
            by_cases e : q = i + 1
            · exact Or.inr (e ▸ h3)
            · exact Or.inl ⟨q, h1, by omega, h3⟩
          · rintro (⟨q, h1, h2, h3⟩ | h)
            · exact ⟨q, h1, by omega, h3⟩
            · exact ⟨i + 1, by omega, by omega, h⟩
        rw [hs, ← hx.2 m hm]
        by_cases hmm : m = (ST st (i + 1)).f0.toNat
        · rw [if_pos hmm]
          simp only [true_iff]
          exact Or.inr (by omega)
        · rw [if_neg hmm]
          exact ⟨Or.inl, fun a => a.elim id (fun b => absurd b (by omega))⟩

theorem implGC (st : List S88) (ar : List S90) : Ev (fun k => impl_GoodChart.f k st ar) (decide (GC st ar)) := by
  simp only [impl_GoodChart.f]
  have jf : ∀ n, (¬ GC st ar) → Ev (fun k => impl_GoodChart.j0 k n true st ar) (decide (GC st ar)) := by
    intro n h
    apply Ev.succ
    simp only [impl_GoodChart.j0, if_true]
    exact Ev.some (by symm; rw [decide_eq_false_iff_not]; exact h)
  refine Ev.ite (fun h => jf _ (by unfold GC; omega)) (fun h => Ev.ite (fun h2 => jf _ (by unfold GC; omega)) (fun h2 => Ev.ite (fun h3 => jf _ (by unfold GC; omega)) (fun h3 => Ev.pos (by omega) ?_)))
  have e : rd_T88 st 0 = ST st 0 := rfl
  rw [e]
  by_cases h0 : (ST st 0).f0 = -1
  · simp only [h0, bne_self_eq_false]
    apply Ev.succ
    simp only [impl_GoodChart.j0, Bool.false_eq_true, if_false, show (0 : Int) ≤ (st.length : Int) by omega, if_true, Int.toNat_natCast, show st.length ≤ 281474976710656 by omega, show (1 : Int) ≤ (st.length : Int) by omega, Option.bind_some]
    have := implP st ar (by omega) (by omega) (by omega) h0 (st.length - 1) 0 (List.replicate st.length false) (by omega) ⟨by simp, fun m hm => ?_⟩
    · refine Ev.eq this ?_
      rw [decide_eq_decide]
      have hz : Pa st 0 := ⟨fun _ => h0, fun h => absurd h (by omega)⟩
      unfold GC
      constructor
      · rintro ⟨a, b, c⟩
        exact ⟨by omega, by omega, by omega, fun j h1 h2 => ⟨by by_cases e : j = 0; (· exact e ▸ hz); (· exact a j (by omega) h2), b j h1 h2⟩, c⟩
      · rintro ⟨_, _, _, a, c⟩
        exact ⟨fun j h1 h2 => (a j (by omega) h2).1, fun j h1 h2 => (a j h1 h2).2, c⟩
    · constructor
      · intro h
        unfold rdOf at h
        simp only [Int.toNat_natCast, List.getD_eq_getElem?_getD, List.getElem?_replicate, if_pos hm, Option.getD_some] at h
        cases h
      · rintro ⟨q, h1, h2, _⟩
        omega
  · rw [show ((ST st 0).f0 != -1) = true by simpa using h0]
    refine jf _ ?_
    rintro ⟨_, _, _, a, _⟩
    exact h0 ((a 0 (by omega) (by omega)).1.1 rfl)

end Go.Proofs.Ytkhkgfihodljmaa.Pure
