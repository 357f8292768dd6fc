/-
Own text: what the laws' own helpers on [][]int come to: their size, a copy, a comparison.
-/
import Derived.Test.YtdihodboopeakaaDoorPureBase
import Derived.Test.YtdihodboopeakaaDoorPureInts
namespace Go.Proofs.YtdihodboopeakaaDoor.Pure
open Go.RowKit Go.Proofs.YtdihodboopeakaaDoorW.PrintWords Go.Proofs.YtdihodboopeakaaDoorW.PrintLast Go.Proofs.YtdihodboopeakaaDoor.Pr Go.Proofs.YtdihodboopeakaaDoor.EvKit

theorem toIntSS_l0 (l : List (List Int)) (hl : l.length ≤ 1048576) (hr : ∀ x ∈ l, x.length ≤ 1048576) (d : Nat) : ∀ i : Nat, i + d = l.length →
    Ev (fun k => laws_toIntSS.l0 k l ((l.take i).map id ++ List.replicate (l.length - i) []) i) (l.map id) := by
  induction d with
  | zero =>
    intro i hi
    apply Ev.succ
    simp only [laws_toIntSS.l0, show ¬ ((i : Int) < (l.length : Int)) by omega, if_false]
    have : i = l.length := by omega
    subst this
    exact Ev.some (copy_done _ _ _)
  | succ d ih =>
    intro i hi
    apply Ev.succ
    have hlen : ((l.take i).map id ++ List.replicate (l.length - i) ([] : List Int)).length = l.length := by simp; omega
    simp only [laws_toIntSS.l0, hlen, show ((i : Int) < (l.length : Int)) by omega, show (0 : Int) ≤ (i : Int) by omega, if_true, Int.toNat_natCast, succ_w (show i < 35184372088833 by omega)]
    have hm := getD_mem l i [] (by omega)
    have := copy_step id ([] : List Int) [] l i (by omega)
    refine Ev.bnd (toIntS_ev (rd_L3 l (i : Int)) (Nat.le_trans (hr _ hm) (by omega))) ?_
    have e : rd_L3 l (i : Int) = id (l.getD i []) := rfl
    simp only [e, this]
    exact ih (i + 1) (by omega)
theorem toIntSS_ev (l : List (List Int)) (hl : l.length ≤ 1048576) (hr : ∀ x ∈ l, x.length ≤ 1048576) : Ev (fun k => laws_toIntSS.f k l) l := by
  simp only [laws_toIntSS.f, Int.toNat_natCast, show (0 : Int) ≤ (l.length : Int) by omega, show l.length ≤ 11728124029610 by omega, if_true]
  have := toIntSS_l0 l hl hr l.length 0 (by omega)
  simpa using this

theorem eqIntSS_l0 (l : List (List Int)) (hl : l.length ≤ 1048576) (hr : ∀ x ∈ l, x.length ≤ 1048576) (d : Nat) : ∀ i : Nat, i + d = l.length → Ev (fun k => laws_eqIntSS.l0 k l l i) true := by
  induction d with
  | zero =>
    intro i hi
    apply Ev.succ
    simp only [laws_eqIntSS.l0, show ¬ ((i : Int) < (l.length : Int)) by omega, if_false]
    exact Ev.some rfl
  | succ d ih =>
    intro i hi
    apply Ev.succ
    simp only [laws_eqIntSS.l0, show ((i : Int) < (l.length : Int)) by omega, show (0 : Int) ≤ (i : Int) by omega, if_true, succ_w (show i < 35184372088833 by omega)]
    have hm := getD_mem l i [] (by omega)
    exact Ev.bnd (eqIntS_ev (rd_L3 l (i : Int)) (Nat.le_trans (hr _ hm) (by omega))) (Ev.pos rfl (ih (i + 1) (by omega)))
theorem eqIntSS_ev (l : List (List Int)) (hl : l.length ≤ 1048576) (hr : ∀ x ∈ l, x.length ≤ 1048576) : Ev (fun k => laws_eqIntSS.f k l l) true := by
  simp only [laws_eqIntSS.f, if_true]
  exact eqIntSS_l0 l hl hr l.length 0 (by omega)

theorem szIntS_eq (l : List Int) (a : Int) (hl : l.length ≤ 9223372036854775807) (h0 : 0 ≤ a) (h1 : a ≤ 1048576) :
    ∃ r, laws_szIntS.f l a = some r ∧ (¬ r < 0 → (l.length : Int) ≤ a ∧ r ≤ a) := by
  simp only [laws_szIntS.f]
  rw [wrap64_id (x := a - (l.length : Int)) (by omega) (by omega)]
  by_cases h : a - (l.length : Int) < 0
  · exact ⟨-1, by simp [h], by omega⟩
  · exact ⟨_, by rw [if_neg h], by omega⟩
theorem szIntSS_l0 (l : List (List Int)) (hl : l.length ≤ 1048576) (hr : ∀ x ∈ l, x.length ≤ 9223372036854775807) (d : Nat) : ∀ (i : Nat) (a : Int), i + d = l.length → 0 ≤ a → a ≤ 1048576 →
    ∃ r, Ev (fun k => laws_szIntSS.l0 k l a i) r ∧ (¬ r < 0 → r ≤ a ∧ ∀ j, i ≤ j → j < l.length → ((l.getD j []).length : Int) ≤ 1048576) := by
  induction d with
  | zero =>
    intro i a hi h0 h1
    refine ⟨a, Ev.succ ?_, fun _ => ⟨Int.le_refl a, fun j a b => by omega⟩⟩
    simp only [laws_szIntSS.l0, show ¬ ((i : Int) < (l.length : Int)) by omega, if_false]
    exact Ev.some rfl
  | succ d ih =>
    intro i a hi h0 h1
    have hm := getD_mem l i [] (by omega)
    obtain ⟨s, hs, hs2⟩ := szIntS_eq (l.getD i []) a (hr _ hm) h0 h1
    by_cases hneg : s < 0
    · refine ⟨-1, Ev.succ ?_, by omega⟩
      simp only [laws_szIntSS.l0, show ((i : Int) < (l.length : Int)) by omega, show (0 : Int) ≤ (i : Int) by omega, if_true]
      exact Ev.bnd0 hs (Ev.pos hneg (Ev.some rfl))
    · obtain ⟨h2, h3⟩ := hs2 hneg
      obtain ⟨r, hr1, hr2⟩ := ih (i + 1) s (by omega) (by omega) (by omega)
      refine ⟨r, Ev.succ ?_, fun h => ⟨by have := (hr2 h).1; omega, fun j a1 b1 => ?_⟩⟩
      · simp only [laws_szIntSS.l0, show ((i : Int) < (l.length : Int)) by omega, show (0 : Int) ≤ (i : Int) by omega, if_true, succ_w (show i < 35184372088833 by omega)]
        exact Ev.bnd0 hs (Ev.neg hneg hr1)
      · by_cases e : j = i
        · subst e; omega
        · exact (hr2 h).2 j (by omega) b1
theorem szIntSS_ev (l : List (List Int)) (a : Int) (h0 : 0 ≤ a) (h1 : a ≤ 1048576) (hl : l.length ≤ 9223372036854775807) (hr : ∀ x ∈ l, x.length ≤ 9223372036854775807) :
    ∃ r, Ev (fun k => laws_szIntSS.f k l a) r ∧ (¬ r < 0 → r ≤ a ∧ l.length ≤ 1048576 ∧ ∀ x ∈ l, x.length ≤ 1048576) := by
  simp only [laws_szIntSS.f]
  rw [wrap64_id (x := a - (l.length : Int)) (by omega) (by omega)]
  by_cases h : a - (l.length : Int) < 0
  · exact ⟨-1, Ev.pos h (Ev.some rfl), by omega⟩
  · obtain ⟨r, e1, e2⟩ := szIntSS_l0 l (by omega) hr l.length 0 (a - l.length) (by omega) (by omega) (by omega)
    refine ⟨r, Ev.neg h e1, fun hn => ⟨by have := (e2 hn).1; omega, by omega, fun x hx => ?_⟩⟩
    obtain ⟨j, hj⟩ := List.getElem?_of_mem hx
    have hj2 := (List.getElem?_eq_some_iff.1 hj).1
    have := (e2 hn).2 j (by omega) hj2
    rw [List.getD_eq_getElem?_getD, hj] at this
    simp at this
    omega
end Go.Proofs.YtdihodboopeakaaDoor.Pure
