-- Joined and pruned by wip/tools/prune.py out of this session's own texts (PureMkT, PureFnExactReadWish)
import Derived.Test.YtdihodboopeakaaDoorZrw9
/-
Own text: a row of texts that is marked holds its marks.
-/
namespace Go.Proofs.YtdihodboopeakaaDoor.Pure
open Go.RowKit Go.Proofs.YtdihodboopeakaaDoorW.PrintWords Go.Proofs.YtdihodboopeakaaDoorW.PrintLast Go.Proofs.YtdihodboopeakaaDoor.Pr Go.Proofs.YtdihodboopeakaaDoor.EvKit
set_option linter.unusedVariables false
theorem one_size (c : Int) : (strOfNums [c]).size = 1 := rfl
theorem markText_l0 (n : Nat) : ∀ (x : Int) (s : ByteArray), 0 ≤ x → x ≤ 9223372036854775807 → x < 10 ^ n → s.size + n ≤ 1000 → ∃ r, Ev (fun k => laws_markText.l0 k x s) r := by
  induction n with
  | zero =>
    intro x s h0 hx h1 h2
    refine ⟨(⟨#[109]⟩ : ByteArray) ++ s, Ev.succ ?_⟩
    simp only [laws_markText.l0, show ¬ (x > 0) by simp at h1; omega, if_false, show 1 + s.size ≤ 9223372036854775807 by omega, if_true]
    exact Ev.some rfl
  | succ n ih =>
    intro x s h0 hx h1 h2
    by_cases c : x > 0
    · have hd : 0 ≤ Int.tdiv x 10 ∧ Int.tdiv x 10 < 10 ^ n ∧ Int.tdiv x 10 ≤ 9223372036854775807 := by
        rw [Int.tdiv_eq_ediv_of_nonneg h0]
        rw [Int.pow_succ] at h1
        refine ⟨by omega, by omega, by omega⟩
      obtain ⟨r, hr⟩ := ih (Int.tdiv x 10) (strOfNums [(wrap64 (48 + (Int.tmod x 10))) % 256] ++ s) hd.1 hd.2.2 hd.2.1 (by rw [ByteArray.size_append, one_size]; omega)
      refine ⟨r, Ev.succ ?_⟩
      simp only [laws_markText.l0, c, if_true, Option.bind_some, one_size, show 1 + s.size ≤ 9223372036854775807 by omega]
      rw [wrap64_id (by omega) (by omega)]
      exact hr
    · refine ⟨(⟨#[109]⟩ : ByteArray) ++ s, Ev.succ ?_⟩
      simp only [laws_markText.l0, c, if_false, show 1 + s.size ≤ 9223372036854775807 by omega, if_true]
      exact Ev.some rfl
theorem markText_ev (a : Int) (h1 : a ≤ 9223372036854775807) : ∃ r, Ev (fun k => laws_markText.f k a) r := by
  unfold laws_markText.f
  by_cases c : a ≤ 0
  · exact ⟨_, Ev.pos c (Ev.some rfl)⟩
  · obtain ⟨r, h⟩ := markText_l0 19 a ⟨#[]⟩ (by omega) (by omega) (by omega) (by show (0 : Nat) + 19 ≤ 1000; omega)
    exact ⟨r, Ev.neg c h⟩
/-- The text that stands for a mark. -/
noncomputable def mt (a : Int) : ByteArray := by
  classical
  exact if h : a ≤ 9223372036854775807 then Classical.choose (markText_ev a h) else ByteArray.empty
theorem mt_ev (a : Int) (h : a ≤ 9223372036854775807) : Ev (fun k => laws_markText.f k a) (mt a) := by
  unfold mt
  rw [dif_pos h]
  exact Classical.choose_spec (markText_ev a h)
theorem mkS_l0 (n : Nat) (a : Int) (ha : 0 ≤ a) (han : a + n ≤ 9223372036854775806) (d : Nat) : ∀ (i : Nat) (l : List ByteArray), i + d = n → l.length = n → (∀ j < i, l.getD j ByteArray.empty = mt (a + j)) → ∃ t : List ByteArray, t.length = n ∧ (∀ j < n, t.getD j ByteArray.empty = mt (a + j)) ∧ Ev (fun k => laws_markStringS.l0 k l (a + i) i) (a + n, t) := by
  induction d with
  | zero =>
    intro i l hi hl hj
    obtain rfl : i = n := by omega
    refine ⟨l, hl, hj, Ev.succ ?_⟩
    simp only [laws_markStringS.l0, show ¬ ((i : Int) < (l.length : Int)) by omega, if_false]
    exact Ev.some rfl
  | succ d ih =>
    intro i l hi hl hj
    obtain ⟨t, ht, hm, he⟩ := ih (i + 1) (l.set i (mt (a + i))) (by omega) (by simpa using hl) (fun j h => by
      by_cases e : j = i
      · subst e
        rw [List.getD_eq_getElem?_getD, List.getElem?_set_self (by omega)]
        rfl
      · rw [List.getD_eq_getElem?_getD, List.getElem?_set_ne (by omega), ← List.getD_eq_getElem?_getD]
        exact hj j (by omega))
    refine ⟨t, ht, hm, Ev.succ ?_⟩
    simp only [laws_markStringS.l0, show ((i : Int) < (l.length : Int)) by omega, show (0 : Int) ≤ (i : Int) by omega, if_true, Int.toNat_natCast]
    rw [show wrap64 ((i : Int) + 1) = ((i + 1 : Nat) : Int) by rw [wrap64_id (by omega) (by omega)]; omega, show wrap64 (a + (i : Int) + 1) = a + ((i + 1 : Nat) : Int) by rw [wrap64_id (by omega) (by omega)]; omega]
    exact Ev.bnd (mt_ev _ (by omega)) he
theorem hdS_l0 (t : List ByteArray) (a : Int) (ha : 0 ≤ a) (han : a + t.length ≤ 9223372036854775806) (hm : ∀ j < t.length, t.getD j ByteArray.empty = mt (a + j)) (d : Nat) : ∀ i : Nat, i + d = t.length → Ev (fun k => laws_heldStringS.l0 k t (a + i) i) (a + t.length) := by
  induction d with
  | zero =>
    intro i hi
    obtain rfl : i = t.length := by omega
    refine Ev.succ ?_
    simp only [laws_heldStringS.l0, show ¬ ((t.length : Int) < (t.length : Int)) by omega, if_false]
    exact Ev.some rfl
  | succ d ih =>
    intro i hi
    refine Ev.succ ?_
    simp only [laws_heldStringS.l0, show ((i : Int) < (t.length : Int)) by omega, show (0 : Int) ≤ (i : Int) by omega, if_true]
    rw [show wrap64 ((i : Int) + 1) = ((i + 1 : Nat) : Int) by rw [wrap64_id (by omega) (by omega)]; omega, show wrap64 (a + (i : Int) + 1) = a + ((i + 1 : Nat) : Int) by rw [wrap64_id (by omega) (by omega)]; omega]
    refine Ev.bnd (mt_ev (a + i) (by omega)) (Ev.pos ?_ (ih (i + 1) (by omega)))
    have e : rdOf ByteArray.empty t (i : Int) = t.getD i ByteArray.empty := rfl
    rw [e, hm i (by omega)]
theorem mkS_ev (l : List ByteArray) (a : Int) (ha : 0 ≤ a) (han : a + l.length ≤ 9223372036854775806) : ∃ t, Ev (fun k => laws_markStringS.f k l a) (a + l.length, t) ∧ Ev (fun k => laws_heldStringS.f k t a) (a + l.length) := by
  obtain ⟨t, h1, h2, h3⟩ := mkS_l0 l.length a ha han l.length 0 l (by omega) rfl (fun j h => by omega)
  refine ⟨t, ?_, ?_⟩
  · unfold laws_markStringS.f; simpa using h3
  · have h := hdS_l0 t a ha (by omega) (by rw [h1]; exact h2) t.length 0 (by omega)
    unfold laws_heldStringS.f
    rw [h1] at h
    simpa using h
theorem mkWish_ev {reach avoid : List ByteArray} (h : SmallW reach avoid) : ∃ (t0 t1 : List ByteArray) (m : Int), Ev (fun k => laws_markWish.f k reach avoid 1) (m, t0, t1) ∧ 0 ≤ m ∧ Ev (fun k => laws_heldWish.f k t0 t1 1) m := by
  have g1 := h.r1
  have g2 := h.a1
  obtain ⟨t0, e0, f0⟩ := mkS_ev reach 1 (by omega) (by omega)
  obtain ⟨t1, e1, f1⟩ := mkS_ev avoid (1 + reach.length) (by omega) (by omega)
  refine ⟨t0, t1, 1 + reach.length + avoid.length, ?_, by omega, ?_⟩
  · unfold laws_markWish.f
    exact Ev.bnd e0 (Ev.bnd e1 (Ev.some rfl))
  · unfold laws_heldWish.f
    exact Ev.bnd f0 (Ev.neg (by omega) (Ev.bnd f1 (Ev.neg (by omega) (Ev.some rfl))))
end Go.Proofs.YtdihodboopeakaaDoor.Pure
/- THE LAW FnExactReadWish, as a statement over numbers and lists: proved here. -/
namespace Go.Proofs.YtdihodboopeakaaDoor.Pure
open Go.RowKit Go.Proofs.YtdihodboopeakaaDoorW.PrintWords Go.Proofs.YtdihodboopeakaaDoorW.PrintLast Go.Proofs.YtdihodboopeakaaDoor.Pr Go.Proofs.YtdihodboopeakaaDoor.EvKit

theorem smallW_nil : SmallW [] [] := ⟨by simp, by simp, by simp, by simp⟩
theorem mem_snoc {P : ByteArray → Prop} {l : List ByteArray} {t : ByteArray} (h : ∀ x ∈ l, P x) (ht : P t) : ∀ x ∈ l ++ [t], P x := by
  intro x hx
  rcases List.mem_append.1 hx with h1 | h1
  · exact h x h1
  · rw [List.mem_singleton.1 h1]; exact ht
theorem rd_small (s : ByteArray) (hs : s.size ≤ 1048576) (f : Nat) : ∀ (i part many : Nat) (R A : List ByteArray), R.length + f ≤ 1048576 → A.length + f ≤ 1048576 → (∀ x ∈ R, x.size ≤ 1048576) → (∀ x ∈ A, x.size ≤ 1048576) → SmallW (rdFrom s f i part many R A).1 (rdFrom s f i part many R A).2.1 := by
  have hx (i e : Nat) : (s.extract i e).size ≤ 1048576 := by rw [ByteArray.size_extract]; omega
  induction f with
  | zero =>
    intro i part many R A h1 h2 h3 h4
    unfold rdFrom
    split
    · exact smallW_nil
    · exact ⟨h1, h3, h2, h4⟩
  | succ f ih =>
    intro i part many R A h1 h2 h3 h4
    have l1 (l : List ByteArray) (t : ByteArray) : (l ++ [t]).length = l.length + 1 := by simp
    unfold rdFrom
    repeat' split
    all_goals first
      | exact smallW_nil
      | exact (⟨by omega, h3, by omega, h4⟩ : SmallW R A)
      | exact ih _ _ _ _ _ (by omega) (by omega) h3 h4
      | exact ih _ _ _ _ _ (by omega) (by rw [l1]; omega) h3 (mem_snoc h4 (hx _ _))
      | exact ih _ _ _ _ _ (by rw [l1]; omega) (by omega) (mem_snoc h3 (hx _ _)) h4
theorem readOf_small (s : ByteArray) (hs : s.size ≤ 1048576) : SmallW (readOf s).1 (readOf s).2.1 := by
  unfold readOf
  split
  · exact smallW_nil
  · exact rd_small s hs s.size 0 0 1 [] [] (by simpa using hs) (by simpa using hs) (by simp) (by simp)
theorem FnExactReadWish : ∀ (a0 : ByteArray), a0.size ≤ 140737488351232 → ∃ k, laws_FnExactReadWish.f k a0 = some true := by
  intro a0 _
  suffices h : Ev (fun k => laws_FnExactReadWish.f k a0) true by
    obtain ⟨K, hK⟩ := h
    exact ⟨K, hK K (Nat.le_refl _)⟩
  unfold laws_FnExactReadWish.f
  by_cases c : (a0.size : Int) > 1048576
  · exact Ev.pos c (Ev.some rfl)
  refine Ev.neg c ?_
  have hs : a0.size ≤ 1048576 := by omega
  have hi : impl_ReadWish.f a0 = some (readOf a0) := by unfold impl_ReadWish.f; rw [if_pos hs]
  have hw := readOf_small a0 hs
  have hr := read_ev a0 hs
  generalize readOf a0 = r at hi hw hr
  have he : Ev (fun k => laws_eqWishRead.f k r.1 r.2.1 r.2.2.1 r.2.2.2 r.1 r.2.1 r.2.2.1 r.2.2.2) true := by
    unfold laws_eqWishRead.f
    exact Ev.bnd (eqWish_ev hw) (Ev.pos rfl (Ev.pos rfl (Ev.pos rfl (Ev.some rfl))))
  obtain ⟨t0, t1, m, h1, h2, h3⟩ := mkWish_ev hw
  have hm : Ev (fun k => laws_markWishRead.f k r.1 r.2.1 r.2.2.1 r.2.2.2 1) (m, t0, t1) := by
    unfold laws_markWishRead.f
    exact Ev.bnd h1 (Ev.some rfl)
  have hh : Ev (fun k => laws_heldWishRead.f k t0 t1 r.2.2.1 r.2.2.2 1) m := by
    unfold laws_heldWishRead.f
    exact Ev.bnd h3 (Ev.neg (by omega) (Ev.some rfl))
  exact Ev.bnd hr (Ev.bnd0 hi (Ev.bnd he (Ev.pos rfl (Ev.bnd hm (Ev.bnd hh (Ev.neg (by omega) (Ev.pos rfl (Ev.bnd0 hi (Ev.bnd he (Ev.pos rfl (Ev.bnd hh (Ev.neg (by omega) (Ev.pos rfl (Ev.some rfl))))))))))))))
end Go.Proofs.YtdihodboopeakaaDoor.Pure
