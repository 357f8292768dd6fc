/-
Own text: what the laws' own helpers on []byte come to: a copy, a comparison.
-/
import Derived.Test.YtbdonoeellmeoaaPrd1
import Derived.Test.YtbdonoeellmeoaaEvKit
namespace Go.Proofs.Ytbdonoeellmeoaa.Pure
open Go.RowKit Go.Proofs.YtbdonoeellmeoaaW.PrintWords Go.Proofs.YtbdonoeellmeoaaW.PrintLast Go.Proofs.Ytbdonoeellmeoaa.Pr Go.Proofs.Ytbdonoeellmeoaa.EvKit

theorem toByteS_l0 (l : List Int) (hl : l.length ≤ 281474976710656) (d : Nat) : ∀ i : Nat, i + d = l.length →
    Ev (fun k => laws_toByteS.l0 k l ((l.take i).map id ++ List.replicate (l.length - i) 0) i) (l.map id) := by
  induction d with
  | zero =>
    intro i hi
    apply Ev.succ
    simp only [laws_toByteS.l0, show ¬ ((i : Int) < (l.length : Int)) by omega, if_false]
    have : i = l.length := by omega
    subst this
    exact Ev.some (copy_done _ _ _)
  | succ d ih =>
    intro i hi
    apply Ev.succ
    have hlen : ((l.take i).map id ++ List.replicate (l.length - i) (0 : Int)).length = l.length := by simp; omega
    simp only [laws_toByteS.l0, hlen, show ((i : Int) < (l.length : Int)) by omega, show (0 : Int) ≤ (i : Int) by omega, if_true, Int.toNat_natCast]
    rw [show wrap64 ((i : Int) + 1) = ((i + 1 : Nat) : Int) by rw [wrap64_id (by omega) (by omega)]; omega]
    have := copy_step id (0 : Int) 0 l i (by omega)
    have e : rd l (i : Int) = id (l.getD i 0) := rfl
    rw [e, this]
    exact ih (i + 1) (by omega)
theorem toByteS_ev (l : List Int) (hl : l.length ≤ 281474976710656) : Ev (fun k => laws_toByteS.f k l) l := by
  simp only [laws_toByteS.f, Int.toNat_natCast, show (0 : Int) ≤ (l.length : Int) by omega, hl, if_true]
  have := toByteS_l0 l hl l.length 0 (by omega)
  simpa using this

theorem eqByteS_l0 (l : List Int) (hl : l.length ≤ 281474976710656) (d : Nat) : ∀ i : Nat, i + d = l.length → Ev (fun k => laws_eqByteS.l0 k l l i) true := by
  induction d with
  | zero =>
    intro i hi
    apply Ev.succ
    simp only [laws_eqByteS.l0, show ¬ ((i : Int) < (l.length : Int)) by omega, if_false]
    exact Ev.some rfl
  | succ d ih =>
    intro i hi
    apply Ev.succ
    simp only [laws_eqByteS.l0, show ((i : Int) < (l.length : Int)) by omega, show (0 : Int) ≤ (i : Int) by omega, if_true]
    rw [show wrap64 ((i : Int) + 1) = ((i + 1 : Nat) : Int) by rw [wrap64_id (by omega) (by omega)]; omega]
    exact ih (i + 1) (by omega)
theorem eqByteS_ev (l : List Int) (hl : l.length ≤ 281474976710656) : Ev (fun k => laws_eqByteS.f k l l) true := by
  simp only [laws_eqByteS.f, if_true]
  exact eqByteS_l0 l hl l.length 0 (by omega)

end Go.Proofs.Ytbdonoeellmeoaa.Pure
