/-
Own text: what the laws' own helpers on []int come to: a copy is equal, marks are 1, 2, .., what is held is what was marked.
-/
import Derived.Test.YtkhkgfihodljmaaPrd1
import Derived.Test.YtkhkgfihodljmaaEvKit
namespace Go.Proofs.Ytkhkgfihodljmaa.Pure
open Go.RowKit Go.Proofs.YtkhkgfihodljmaaW.PrintWords Go.Proofs.YtkhkgfihodljmaaW.PrintLast Go.Proofs.Ytkhkgfihodljmaa.Pr Go.Proofs.Ytkhkgfihodljmaa.EvKit

theorem toIntS_l0 (l : List Int) (hl : l.length ≤ 35184372088832) (d : Nat) : ∀ i : Nat, i + d = l.length →
    Ev (fun k => laws_toIntS.l0 k l ((l.take i).map id ++ List.replicate (l.length - i) 0) i) (l.map id) := by
  induction d with
  | zero =>
    intro i hi
    apply Ev.succ
    simp only [laws_toIntS.l0, show ¬ ((i : Int) < (l.length : Int)) by omega, if_false]
    have : i = l.length := by omega
    subst this
    exact Ev.some (copy_done _ _ _)
  | succ d ih =>
    intro i hi
    apply Ev.succ
    have hlen : ((l.take i).map id ++ List.replicate (l.length - i) (0 : Int)).length = l.length := by simp; omega
    simp only [laws_toIntS.l0, hlen, show ((i : Int) < (l.length : Int)) by omega, show (0 : Int) ≤ (i : Int) by omega, if_true, Int.toNat_natCast]
    rw [show wrap64 ((i : Int) + 1) = ((i + 1 : Nat) : Int) by rw [wrap64_id (by omega) (by omega)]; omega]
    have := copy_step id (0 : Int) 0 l i (by omega)
    have e : rd l (i : Int) = id (l.getD i 0) := rfl
    rw [e, this]
    exact ih (i + 1) (by omega)
theorem toIntS_ev (l : List Int) (hl : l.length ≤ 35184372088832) : Ev (fun k => laws_toIntS.f k l) l := by
  simp only [laws_toIntS.f, Int.toNat_natCast, show (0 : Int) ≤ (l.length : Int) by omega, hl, if_true]
  have := toIntS_l0 l hl l.length 0 (by omega)
  simpa using this

theorem eqIntS_l0 (l : List Int) (hl : l.length ≤ 35184372088832) (d : Nat) : ∀ i : Nat, i + d = l.length → Ev (fun k => laws_eqIntS.l0 k l l i) true := by
  induction d with
  | zero =>
    intro i hi
    apply Ev.succ
    simp only [laws_eqIntS.l0, show ¬ ((i : Int) < (l.length : Int)) by omega, if_false]
    exact Ev.some rfl
  | succ d ih =>
    intro i hi
    apply Ev.succ
    simp only [laws_eqIntS.l0, show ((i : Int) < (l.length : Int)) by omega, show (0 : Int) ≤ (i : Int) by omega, if_true]
    rw [show wrap64 ((i : Int) + 1) = ((i + 1 : Nat) : Int) by rw [wrap64_id (by omega) (by omega)]; omega]
    exact ih (i + 1) (by omega)
theorem eqIntS_ev (l : List Int) (hl : l.length ≤ 35184372088832) : Ev (fun k => laws_eqIntS.f k l l) true := by
  simp only [laws_eqIntS.f, if_true]
  exact eqIntS_l0 l hl l.length 0 (by omega)

/-- a, a + 1, .., n of them. -/
def seqI (a : Int) (n : Nat) : List Int := (List.range n).map fun j : Nat => a + (j : Int)
theorem seqI_length (a : Int) (n : Nat) : (seqI a n).length = n := by simp [seqI]
theorem rd_seqI (a : Int) (n i : Nat) (h : i < n) : rd (seqI a n) (i : Int) = a + i := by
  simp [rd, seqI, List.getD_eq_getElem?_getD, h]

theorem markIntS_l0 (n : Nat) (a : Int) (ha : 0 ≤ a) (han : a + n ≤ 9223372036854775806) (d : Nat) : ∀ (i : Nat) (l : List Int), i + d = n → l.length = n → (l.take i = seqI a i) →
    Ev (fun k => laws_markIntS.l0 k l (a + i) i) (a + n, seqI a n) := by
  induction d with
  | zero =>
    intro i l hi hl ht
    apply Ev.succ
    simp only [laws_markIntS.l0, show ¬ ((i : Int) < (l.length : Int)) by omega, if_false]
    have : i = n := by omega
    subst this
    refine Ev.some ?_
    rw [← ht, List.take_of_length_le (by omega)]
  | succ d ih =>
    intro i l hi hl ht
    apply Ev.succ
    simp only [laws_markIntS.l0, show ((i : Int) < (l.length : Int)) by omega, show (0 : Int) ≤ (i : Int) by omega, if_true, Int.toNat_natCast]
    rw [show wrap64 ((i : Int) + 1) = ((i + 1 : Nat) : Int) by rw [wrap64_id (by omega) (by omega)]; omega, show wrap64 (a + (i : Int) + 1) = a + ((i + 1 : Nat) : Int) by rw [wrap64_id (by omega) (by omega)]; omega]
    refine ih (i + 1) _ (by omega) (by simpa using hl) ?_
    rw [List.take_succ_eq_append_getElem (by simp; omega), List.take_set_of_le (by omega), ht]
    simp [seqI, List.range_succ]
theorem markIntS_ev (l : List Int) (a : Int) (ha : 0 ≤ a) (han : a + l.length ≤ 9223372036854775806) : Ev (fun k => laws_markIntS.f k l a) (a + l.length, seqI a l.length) := by
  simp only [laws_markIntS.f]
  have := markIntS_l0 l.length a ha han l.length 0 l (by omega) rfl (by simp [seqI])
  simpa using this

theorem heldIntS_l0 (n : Nat) (a : Int) (ha : 0 ≤ a) (han : a + n ≤ 9223372036854775806) (d : Nat) : ∀ i : Nat, i + d = n → Ev (fun k => laws_heldIntS.l0 k (seqI a n) (a + i) i) (a + n) := by
  induction d with
  | zero =>
    intro i hi
    apply Ev.succ
    simp only [laws_heldIntS.l0, seqI_length, show ¬ ((i : Int) < (n : Int)) by omega, if_false]
    exact Ev.some (by omega)
  | succ d ih =>
    intro i hi
    apply Ev.succ
    simp only [laws_heldIntS.l0, seqI_length, rd_seqI a n i (by omega), show ((i : Int) < (n : Int)) by omega, show (0 : Int) ≤ (i : Int) by omega, if_true]
    rw [show wrap64 ((i : Int) + 1) = ((i + 1 : Nat) : Int) by rw [wrap64_id (by omega) (by omega)]; omega, show wrap64 (a + (i : Int) + 1) = a + ((i + 1 : Nat) : Int) by rw [wrap64_id (by omega) (by omega)]; omega]
    exact ih (i + 1) (by omega)
theorem heldIntS_ev (n : Nat) (a : Int) (ha : 0 ≤ a) (han : a + n ≤ 9223372036854775806) : Ev (fun k => laws_heldIntS.f k (seqI a n) a) (a + n) := by
  simp only [laws_heldIntS.f]
  have := heldIntS_l0 n a ha han n 0 (by omega)
  simpa using this
end Go.Proofs.Ytkhkgfihodljmaa.Pure
