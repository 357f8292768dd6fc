/- markIntSS and heldIntSS, to their ends. -/
import Derived.Test.YtkhkgfihodljmaaMss
import Derived.Test.YtkhkgfihodljmaaPureInts
namespace Go.Proofs.Ytkhkgfihodljmaa.Pure
open Go.RowKit Go.Proofs.YtkhkgfihodljmaaW.PrintWords Go.Proofs.YtkhkgfihodljmaaW.PrintLast Go.Proofs.Ytkhkgfihodljmaa.Pr Go.Proofs.Ytkhkgfihodljmaa.EvKit
set_option linter.unusedVariables false
def mk : List (List Int) → Int → List (List Int)
  | [], _ => []
  | y :: Y, a => seqI a y.length :: mk Y (a + y.length)
def tot : List (List Int) → Nat
  | [] => 0
  | y :: Y => y.length + tot Y
theorem mk_length (Y : List (List Int)) : ∀ a, (mk Y a).length = Y.length := by
  induction Y with
  | nil => intro a; rfl
  | cons y Y ih => intro a; simp [mk, ih]
theorem markIntSS_l0 (Y : List (List Int)) : ∀ (X : List (List Int)) (a : Int), 0 ≤ a → a + tot Y ≤ 9223372036854775806 → X.length + Y.length ≤ 1048576 →
    Ev (fun k => laws_markIntSS.l0 k (X ++ Y) a X.length) (a + tot Y, X ++ mk Y a) := by
  induction Y with
  | nil =>
    intro X a h0 h1 h2
    refine Ev.succ ?_
    simp only [laws_markIntSS.l0, List.append_nil, show ¬ ((X.length : Int) < (X.length : Int)) by omega, if_false]
    exact Ev.some (by simp [tot, mk])
  | cons y Y ih =>
    intro X a h0 h1 h2
    simp only [tot, List.length_cons] at h1 h2
    refine Ev.succ ?_
    have hl : (X ++ y :: Y).length = X.length + Y.length + 1 := by simp; omega
    simp only [laws_markIntSS.l0, hl, show ((X.length : Int) < ((X.length + Y.length + 1 : Nat) : Int)) by omega, show (0 : Int) ≤ (X.length : Int) by omega, if_true, Int.toNat_natCast]
    rw [show (X ++ y :: Y).getD X.length [] = y by rw [List.getD_eq_getElem?_getD, List.getElem?_append_right (Nat.le_refl _)]; simp]
    refine Ev.bnd (markIntS_ev y a h0 (by omega)) ?_
    rw [show (X ++ y :: Y).set X.length (a + (y.length : Int), seqI a y.length).2 = (X ++ [seqI a y.length]) ++ Y by rw [List.set_append, if_neg (by omega), Nat.sub_self]; simp]
    have := ih (X ++ [seqI a y.length]) (a + y.length) (by omega) (by omega) (by simp; omega)
    rw [show ((X ++ [seqI a y.length]).length : Int) = wrap64 ((X.length : Int) + 1) by rw [wrap64_id (by omega) (by omega)]; simp] at this
    refine Ev.eq this ?_
    simp only [tot, mk, List.append_assoc, List.singleton_append, Int.natCast_add, Prod.mk.injEq, and_true]
    omega
theorem markIntSS_ev (l : List (List Int)) (a : Int) (h0 : 0 ≤ a) (h1 : a + tot l ≤ 9223372036854775806) (h2 : l.length ≤ 1048576) : Ev (fun k => laws_markIntSS.f k l a) (a + tot l, mk l a) := by
  simp only [laws_markIntSS.f]
  exact markIntSS_l0 l [] a h0 h1 (by simpa using h2)
theorem heldIntSS_l0 (Y : List (List Int)) : ∀ (X : List (List Int)) (a : Int), 0 ≤ a → a + tot Y ≤ 9223372036854775806 → X.length + Y.length ≤ 1048576 →
    Ev (fun k => laws_heldIntSS.l0 k (X ++ mk Y a) a X.length) (a + tot Y) := by
  induction Y with
  | nil =>
    intro X a h0 h1 h2
    refine Ev.succ ?_
    simp only [laws_heldIntSS.l0, mk, List.append_nil, show ¬ ((X.length : Int) < (X.length : Int)) by omega, if_false]
    exact Ev.some (by simp [tot])
  | cons y Y ih =>
    intro X a h0 h1 h2
    simp only [tot, List.length_cons] at h1 h2
    refine Ev.succ ?_
    have hl : (X ++ mk (y :: Y) a).length = X.length + Y.length + 1 := by simp [mk, mk_length]; omega
    simp only [laws_heldIntSS.l0, hl, show ((X.length : Int) < ((X.length + Y.length + 1 : Nat) : Int)) by omega, show (0 : Int) ≤ (X.length : Int) by omega, if_true]
    rw [show rd_L2 (X ++ mk (y :: Y) a) (X.length : Int) = seqI a y.length by unfold rd_L2; rw [Int.toNat_natCast, List.getD_eq_getElem?_getD, List.getElem?_append_right (Nat.le_refl _)]; simp [mk]]
    refine Ev.bnd (heldIntS_ev y.length a h0 (by omega)) (Ev.neg (by omega) ?_)
    have := ih (X ++ [seqI a y.length]) (a + y.length) (by omega) (by omega) (by simp; omega)
    rw [show ((X ++ [seqI a y.length]).length : Int) = wrap64 ((X.length : Int) + 1) by rw [wrap64_id (by omega) (by omega)]; simp, List.append_assoc, List.singleton_append] at this
    refine Ev.eq this ?_
    simp only [tot, Int.natCast_add]
    omega
theorem heldIntSS_ev (l : List (List Int)) (a : Int) (h0 : 0 ≤ a) (h1 : a + tot l ≤ 9223372036854775806) (h2 : l.length ≤ 1048576) : Ev (fun k => laws_heldIntSS.f k (mk l a) a) (a + tot l) := by
  simp only [laws_heldIntSS.f]
  exact heldIntSS_l0 l [] a h0 h1 (by simpa using h2)
theorem tot_le (l : List (List Int)) (B : Nat) (h : ∀ x ∈ l, x.length ≤ B) : tot l ≤ l.length * B := by
  induction l with
  | nil => simp [tot]
  | cons y Y ih =>
    have h1 := h y (List.mem_cons_self ..)
    have h2 := ih (fun x hx => h x (List.mem_cons_of_mem _ hx))
    simp only [tot, List.length_cons, Nat.succ_mul]
    omega
end Go.Proofs.Ytkhkgfihodljmaa.Pure
