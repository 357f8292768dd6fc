/-
Own text: the first tick at which two paths meet: the program and the reference come to the same.
-/
import Derived.Test.YtcldlljnaijmhaaPureIntSS
namespace Go.Proofs.Ytcldlljnaijmhaa.Pure
open Go.RowKit Go.Proofs.YtcldlljnaijmhaaW.PrintWords Go.Proofs.YtcldlljnaijmhaaW.PrintLast Go.Proofs.Ytcldlljnaijmhaa.Pr Go.Proofs.Ytcldlljnaijmhaa.EvKit
open Classical

def P_ (l : List (List Int)) (i k : Nat) : Int := (l.getD i []).getD k 0
/-- At the tick k path i meets path j. -/
def Hit (l : List (List Int)) (k i j : Nat) : Prop := P_ l i k = P_ l j k ∨ (0 < k ∧ P_ l i k = P_ l j (k - 1) ∧ P_ l j k = P_ l i (k - 1))
/-- All as long as m. -/
def Long (l : List (List Int)) (m i : Nat) : Prop := From l.length i fun j => (l.getD j []).length = m

theorem hits_eq (l : List (List Int)) (m : Nat) (hm : Long l m 0) (k i j : Nat) (hk : k < m) (hj : j < l.length) (hm2 : m ≤ 1048576) :
    spec_l20Hits.f (rd_L1 l (j : Int)) k (if k > 0 then P_ l i (k - 1) else P_ l i k) (P_ l i k) = some (decide (Hit l k i j)) := by
  have hl : (l.getD j []).length = m := hm j (by omega) hj
  have e : rd_L1 l (j : Int) = l.getD j [] := rfl
  have e2 : rd (l.getD j []) (k : Int) = P_ l j k := rfl
  simp only [spec_l20Hits.f, e, e2, hl, show (0 : Int) ≤ (k : Int) by omega, show (k : Int) < (m : Int) by omega, if_true]
  unfold Hit
  by_cases h1 : P_ l j k = P_ l i k
  · rw [if_pos h1]
    simp [h1]
  · rw [if_neg h1]
    by_cases h2 : k > 0
    · have e3 : rd (l.getD j []) ((k : Int) - 1) = P_ l j (k - 1) := by
        unfold rd P_
        rw [show ((k : Int) - 1).toNat = k - 1 by omega]
      rw [if_pos (show (k : Int) > 0 by omega), wrap64_id (x := (k : Int) - 1) (by omega) (by omega), if_pos (by omega), if_pos (by omega), e3, if_pos h2]
      by_cases h3 : P_ l j (k - 1) = P_ l i k
      · rw [if_pos h3]
        congr 1
        have h1' : ¬ P_ l i k = P_ l j k := fun h => h1 h.symm
        simp [h1', h2, h3]
        rfl
      · rw [if_neg h3]
        have h1' : ¬ P_ l i k = P_ l j k := fun h => h1 h.symm
        have h3' : ¬ P_ l i k = P_ l j (k - 1) := fun h => h3 h.symm
        simp [h1', h3']
    · rw [if_neg (show ¬ (k : Int) > 0 by omega)]
      have h1' : ¬ P_ l i k = P_ l j k := fun h => h1 h.symm
      have h2' : ¬ 0 < k := h2
      simp [h1', h2']

theorem spec_m3 (l : List (List Int)) (m : Nat) (hm : Long l m 0) (hn : l.length ≤ 5) (hm2 : m ≤ 1048576) (k i : Nat) (hk : k < m) (hi : i < l.length) (r : Int) (d : Nat) : ∀ j : Nat, j + d = i →
    (Some_ i j (Hit l k i) → r = k) → (¬ Some_ i j (Hit l k i) → Ev (fun q => spec_FirstMeet.l2 q l k m k l (l.length : Int) ((i + 1 : Nat) : Int)) r) →
    Ev (fun q => spec_FirstMeet.l3 q l k i (l.getD i []) j m k l (l.length : Int) i) r := by
  induction d with
  | zero =>
    intro j hj h1 h2
    apply Ev.succ
    simp only [spec_FirstMeet.l3, show ¬ ((j : Int) < (i : Int)) by omega, if_false, succ_w (show i < 35184372088833 by omega)]
    exact h2 (Some_.end_ (by omega))
  | succ d ih =>
    intro j hj h1 h2
    have step := Some_.step (n := i) (i := j) (C := Hit l k i) (by omega)
    have hli : (l.getD i []).length = m := hm i (by omega) hi
    have next := ih (j + 1) (by omega) (fun h => h1 (step.2 (Or.inr h)))
    have he := hits_eq l m hm k i j hk (by omega) hm2
    have e1 : rd (l.getD i []) (k : Int) = P_ l i k := rfl
    apply Ev.succ
    simp only [spec_FirstMeet.l3, hli, show (j : Int) < (i : Int) by omega, show (0 : Int) ≤ (k : Int) by omega, show (k : Int) < (m : Int) by omega, show (0 : Int) ≤ (j : Int) by omega, show (j : Int) < (l.length : Int) by omega, if_true, succ_w (show j < 35184372088833 by omega), e1]
    have fin : ∀ b, b = decide (Hit l k i j) → Ev (fun q => if b = true then some (k : Int) else spec_FirstMeet.l3 q l k i (l.getD i []) ((j + 1 : Nat) : Int) m k l (l.length : Int) i) r := by
      intro b hb
      subst hb
      refine Ev.ite (fun h => Ev.some (h1 (step.2 (Or.inl (by simpa using h)))).symm) (fun h => next (fun h' => h2 (fun a => (step.1 a).elim (fun b => h (by simpa using b)) h')))
    by_cases hk0 : k > 0
    · have e3 : rd (l.getD i []) ((k : Int) - 1) = P_ l i (k - 1) := by
        unfold rd P_
        rw [show ((k : Int) - 1).toNat = k - 1 by omega]
      rw [if_pos hk0] at he
      simp only [wrap64_id (x := (k : Int) - 1) (by omega) (by omega), e3]
      exact Ev.pos (by omega) (Ev.pos (by omega) (Ev.pos (by omega) (Ev.bnd0 he (fin _ rfl))))
    · rw [if_neg hk0] at he
      exact Ev.neg (by omega) (Ev.bnd0 he (fin _ rfl))

theorem impl_m3 (l : List (List Int)) (m : Nat) (hm : Long l m 0) (hn : l.length ≤ 5) (hm2 : m ≤ 1048576) (k i : Nat) (hk : k < m) (hi : i < l.length) (r : Int) (d : Nat) : ∀ j : Nat, j + d = i →
    (Some_ i j (Hit l k i) → r = k) → (¬ Some_ i j (Hit l k i) → Ev (fun q => impl_FirstMeet.l2 q l k m k l (l.length : Int) ((i + 1 : Nat) : Int)) r) →
    Ev (fun q => impl_FirstMeet.l3 q l k (l.getD i []) m k l (l.length : Int) i (l.take i) (((l.take i).length : Nat) : Int) j) r := by
  have htl : (l.take i).length = i := by simp; omega
  induction d with
  | zero =>
    intro j hj h1 h2
    apply Ev.succ
    simp only [impl_FirstMeet.l3, htl, show ¬ ((j : Int) < (i : Int)) by omega, if_false, succ_w (show i < 35184372088833 by omega)]
    exact h2 (Some_.end_ (by omega))
  | succ d ih =>
    intro j hj h1 h2
    have step := Some_.step (n := i) (i := j) (C := Hit l k i) (by omega)
    have hli : (l.getD i []).length = m := hm i (by omega) hi
    have hlj : (l.getD j []).length = m := hm j (by omega) (by omega)
    have next := ih (j + 1) (by omega) (fun h => h1 (step.2 (Or.inr h)))
    have e1 : rd (l.getD i []) (k : Int) = P_ l i k := rfl
    have e2 : rd (l.getD j []) (k : Int) = P_ l j k := rfl
    have e0 : rd_L1 (l.take i) (j : Int) = l.getD j [] := by
      unfold rd_L1
      simp [List.getD_eq_getElem?_getD, show j < i by omega]
    apply Ev.succ
    rw [htl] at next
    simp only [impl_FirstMeet.l3, htl, e0, hli, hlj, show (j : Int) < (i : Int) by omega, show (0 : Int) ≤ (k : Int) by omega, show (k : Int) < (m : Int) by omega, show (0 : Int) ≤ (j : Int) by omega, if_true, succ_w (show j < 35184372088833 by omega), e1, e2]
    have no : (¬ Hit l k i j) → Ev (fun q => impl_FirstMeet.l3 q l k (l.getD i []) m k l (l.length : Int) i (l.take i) (i : Int) ((j + 1 : Nat) : Int)) r := fun h => next (fun h' => h2 (fun a => (step.1 a).elim h h'))
    have yes : Hit l k i j → Ev (fun _ => some (k : Int)) r := fun h => Ev.some (h1 (step.2 (Or.inl h))).symm
    unfold Hit at no yes
    refine Ev.ite (fun h => yes (Or.inl h)) (fun h => Ev.ite (fun hk0 => ?_) (fun hk0 => no (fun a => a.elim h (fun b => hk0 (by omega)))))
    have e3 : rd (l.getD i []) ((k : Int) - 1) = P_ l i (k - 1) := by
      unfold rd P_
      rw [show ((k : Int) - 1).toNat = k - 1 by omega]
    have e4 : rd (l.getD j []) ((k : Int) - 1) = P_ l j (k - 1) := by
      unfold rd P_
      rw [show ((k : Int) - 1).toNat = k - 1 by omega]
    simp only [wrap64_id (x := (k : Int) - 1) (by omega) (by omega), e3, e4]
    refine Ev.pos (by omega) (Ev.pos (by omega) (Ev.ite (fun h3 => Ev.pos (by omega) (Ev.ite (fun h4 => yes (Or.inr ⟨by omega, h3, h4⟩)) (fun h4 => no (fun a => a.elim h (fun b => h4 b.2.2))))) (fun h3 => no (fun a => a.elim h (fun b => h3 b.2.1)))))

/-- At the tick k two meet, the later one from i on. -/
def Two (l : List (List Int)) (k i : Nat) : Prop := Some_ l.length i fun p => Some_ p 0 (Hit l k p)

theorem both_m2 (l : List (List Int)) (m : Nat) (hm : Long l m 0) (hn : l.length ≤ 5) (hm2 : m ≤ 1048576) (k : Nat) (hk : k < m) (r : Int) (d : Nat) : ∀ i : Nat, i + d = l.length → (Two l k i → r = k) →
    (¬ Two l k i → Ev (fun q => spec_FirstMeet.l1 q l m ((k + 1 : Nat) : Int)) r ∧ Ev (fun q => impl_FirstMeet.l1 q l m ((k + 1 : Nat) : Int)) r) →
    Ev (fun q => spec_FirstMeet.l2 q l k m k l (l.length : Int) i) r ∧ Ev (fun q => impl_FirstMeet.l2 q l k m k l (l.length : Int) i) r := by
  induction d with
  | zero =>
    intro i hi h1 h2
    obtain ⟨a, b⟩ := h2 (Some_.end_ (by omega))
    refine ⟨Ev.succ ?_, Ev.succ ?_⟩
    · simp only [spec_FirstMeet.l2, show ¬ ((i : Int) < (l.length : Int)) by omega, if_false, succ_w (show k < 35184372088833 by omega)]
      exact a
    · simp only [impl_FirstMeet.l2, show ¬ ((i : Int) < (l.length : Int)) by omega, if_false, succ_w (show k < 35184372088833 by omega)]
      exact b
  | succ d ih =>
    intro i hi h1 h2
    have step := Some_.step (n := l.length) (i := i) (C := fun p => Some_ p 0 (Hit l k p)) (by omega)
    have next := fun h => ih (i + 1) (by omega) (fun a => h1 (step.2 (Or.inr a))) (fun a => h2 (fun b => (step.1 b).elim h a))
    refine ⟨Ev.succ ?_, Ev.succ ?_⟩
    · simp only [spec_FirstMeet.l2]
      exact Ev.pos (by omega) (Ev.pos (by omega) (Ev.pos (by omega) (spec_m3 l m hm hn hm2 k i hk (by omega) r i 0 (by omega) (fun a => h1 (step.2 (Or.inl a))) (fun a => (next a).1))))
    · simp only [impl_FirstMeet.l2, Option.bind_some, Int.toNat_natCast]
      exact Ev.pos (by omega) (Ev.pos (by omega) (Ev.pos (by omega) (Ev.pos (by omega) (impl_m3 l m hm hn hm2 k i hk (by omega) r i 0 (by omega) (fun a => h1 (step.2 (Or.inl a))) (fun a => (next a).2)))))

theorem both_m1 (l : List (List Int)) (m : Nat) (hm : Long l m 0) (hn : l.length ≤ 5) (hm2 : m ≤ 1048576) (d : Nat) : ∀ k : Nat, k + d = m →
    ∃ r : Int, (r = -1 ∨ (k ≤ r ∧ r < m)) ∧ (∀ q : Nat, k ≤ q → q < m → Two l q 0 → r ≠ -1 ∧ r ≤ q) ∧ (∀ q : Nat, r = q → Two l q 0) ∧
      Ev (fun q => spec_FirstMeet.l1 q l m k) r ∧ Ev (fun q => impl_FirstMeet.l1 q l m k) r := by
  induction d with
  | zero =>
    intro k hk
    refine ⟨-1, Or.inl rfl, fun q h1 h2 _ => by omega, fun q h => by omega, Ev.succ ?_, Ev.succ ?_⟩
    · simp only [spec_FirstMeet.l1, show ¬ ((k : Int) < (m : Int)) by omega, if_false]
      exact Ev.some rfl
    · simp only [impl_FirstMeet.l1, show ¬ ((k : Int) < (m : Int)) by omega, if_false]
      exact Ev.some rfl
  | succ d ih =>
    intro k hk
    obtain ⟨r, p1, p2, p3, p4, p5⟩ := ih (k + 1) (by omega)
    by_cases ht : Two l k 0
    · obtain ⟨a, b⟩ := both_m2 l m hm hn hm2 k (by omega) k l.length 0 (by omega) (fun _ => rfl) (fun h => absurd ht h)
      refine ⟨k, Or.inr ⟨by omega, by omega⟩, fun q h1 h2 _ => ⟨by omega, by omega⟩, fun q h => by rw [show q = k by omega]; exact ht, Ev.succ ?_, Ev.succ ?_⟩
      · simp only [spec_FirstMeet.l1]
        exact Ev.pos (by omega) a
      · simp only [impl_FirstMeet.l1]
        exact Ev.pos (by omega) b
    · obtain ⟨a, b⟩ := both_m2 l m hm hn hm2 k (by omega) r l.length 0 (by omega) (fun h => absurd h ht) (fun _ => ⟨p4, p5⟩)
      refine ⟨r, p1.imp id (fun h => ⟨by omega, h.2⟩), fun q h1 h2 h3 => ?_, p3, Ev.succ ?_, Ev.succ ?_⟩
      · by_cases e : q = k
        · subst e; exact absurd h3 ht
        · exact p2 q (by omega) h2 h3
      · simp only [spec_FirstMeet.l1]
        exact Ev.pos (by omega) a
      · simp only [impl_FirstMeet.l1]
        exact Ev.pos (by omega) b

theorem both_m0 (l : List (List Int)) (hn : l.length ≤ 5) (m : Nat) (hm : m = (l.getD 0 []).length) (r : Int) (d : Nat) : ∀ i : Nat, i + d = l.length →
    (Long l m i → (l.length = 0 → r = -1) ∧ (l.length ≠ 0 → Ev (fun q => spec_FirstMeet.l1 q l m 0) r ∧ Ev (fun q => impl_FirstMeet.l1 q l m 0) r)) → (¬ Long l m i → r = -1) →
    Ev (fun q => spec_FirstMeet.l0 q l l (l.length : Int) i) r ∧ Ev (fun q => impl_FirstMeet.l0 q l l (l.length : Int) i) r := by
  have e0 : ∀ i : Nat, rd_L1 l (i : Int) = l.getD i [] := fun i => rfl
  have e00 : rd_L1 l 0 = l.getD 0 [] := rfl
  induction d with
  | zero =>
    intro i hi h1 h2
    obtain ⟨h3, h4⟩ := h1 (From.end_ (by omega))
    by_cases hz : l.length = 0
    · have e : r = -1 := h3 hz
      refine ⟨Ev.succ ?_, Ev.succ ?_⟩
      · simp only [spec_FirstMeet.l0]
        exact Ev.neg (by omega) (Ev.pos (by omega) (Ev.some e.symm))
      · simp only [impl_FirstMeet.l0]
        exact Ev.neg (by omega) (Ev.pos (by omega) (Ev.some e.symm))
    · obtain ⟨a, b⟩ := h4 hz
      refine ⟨Ev.succ ?_, Ev.succ ?_⟩
      · simp only [spec_FirstMeet.l0, e00, ← hm]
        exact Ev.neg (by omega) (Ev.neg (by omega) (Ev.pos (by omega) a))
      · simp only [impl_FirstMeet.l0, e00, ← hm]
        exact Ev.neg (by omega) (Ev.neg (by omega) (Ev.pos (by omega) b))
  | succ d ih =>
    intro i hi h1 h2
    have step := From.step (n := l.length) (i := i) (C := fun j => (l.getD j []).length = m) (by omega)
    by_cases he : (l.getD i []).length = m
    · obtain ⟨a, b⟩ := ih (i + 1) (by omega) (fun h => h1 (step.2 ⟨he, h⟩)) (fun h => h2 (fun a => h (step.1 a).2))
      refine ⟨Ev.succ ?_, Ev.succ ?_⟩
      · simp only [spec_FirstMeet.l0, e0, e00, ← hm, succ_w (show i < 35184372088833 by omega)]
        exact Ev.pos (by omega) (Ev.pos (by omega) (Ev.pos (by omega) (Ev.pos (by omega) (Ev.pos (by omega) a))))
      · simp only [impl_FirstMeet.l0, e0, e00, ← hm, succ_w (show i < 35184372088833 by omega)]
        exact Ev.pos (by omega) (Ev.pos (by omega) (Ev.pos (by omega) (Ev.pos (by omega) (Ev.pos (by omega) b))))
    · have e : r = -1 := h2 (fun a => he (step.1 a).1)
      refine ⟨Ev.succ ?_, Ev.succ ?_⟩
      · simp only [spec_FirstMeet.l0, e0, e00, ← hm]
        exact Ev.pos (by omega) (Ev.pos (by omega) (Ev.pos (by omega) (Ev.pos (by omega) (Ev.neg (by omega) (Ev.some e.symm)))))
      · simp only [impl_FirstMeet.l0, e0, e00, ← hm]
        exact Ev.pos (by omega) (Ev.pos (by omega) (Ev.pos (by omega) (Ev.pos (by omega) (Ev.neg (by omega) (Ev.some e.symm)))))

/-- FirstMeet, both: -1, or the first tick at which two meet. -/
theorem meet_both (l : List (List Int)) (hr : ∀ x ∈ l, x.length ≤ 1048576) : ∃ r : Int,
    (l.length ≤ 5 → l.length ≠ 0 → Long l (l.getD 0 []).length 0 → (∀ q : Nat, q < (l.getD 0 []).length → Two l q 0 → r ≠ -1)) ∧ (∀ q : Nat, r = q → Two l q 0) ∧ (r = -1 ∨ 0 ≤ r) ∧
    Ev (fun q => impl_FirstMeet.f q l) r ∧ Ev (fun q => spec_FirstMeet.f q l) r := by
  simp only [impl_FirstMeet.f, spec_FirstMeet.f]
  by_cases h5 : (l.length : Int) > 5
  · exact ⟨-1, by omega, by omega, Or.inl rfl, Ev.pos h5 (Ev.some rfl), Ev.pos h5 (Ev.some rfl)⟩
  · by_cases hz : l.length = 0
    · obtain ⟨a, b⟩ := both_m0 l (by omega) _ rfl (-1) l.length 0 (by omega) (fun _ => ⟨fun _ => rfl, fun h => absurd hz h⟩) (fun _ => rfl)
      exact ⟨-1, by omega, by omega, Or.inl rfl, Ev.neg h5 b, Ev.neg h5 a⟩
    · by_cases hm : Long l (l.getD 0 []).length 0
      · have hb := hr _ (getD_mem l 0 [] (by omega))
        obtain ⟨r, p1, p2, p3, p4, p5⟩ := both_m1 l _ hm (by omega) hb _ 0 (Nat.zero_add _)
        obtain ⟨a, b⟩ := both_m0 l (by omega) _ rfl r l.length 0 (by omega) (fun _ => ⟨fun h => absurd h hz, fun _ => ⟨p4, p5⟩⟩) (fun h => absurd hm h)
        exact ⟨r, fun _ _ _ q hq ht => (p2 q (by omega) hq ht).1, p3, p1.imp id (fun h => by omega), Ev.neg h5 b, Ev.neg h5 a⟩
      · obtain ⟨a, b⟩ := both_m0 l (by omega) _ rfl (-1) l.length 0 (by omega) (fun h => absurd h hm) (fun _ => rfl)
        exact ⟨-1, fun _ _ h => absurd h hm, by omega, Or.inl rfl, Ev.neg h5 b, Ev.neg h5 a⟩
end Go.Proofs.Ytcldlljnaijmhaa.Pure
