/-
Own text: what the laws' own helpers on []int come to: a copy, a comparison.
-/
import Derived.Test.YtdihodboopeakaaDoorPrd1
import Derived.Test.YtdihodboopeakaaDoorEvKit
namespace Go.Proofs.YtdihodboopeakaaDoor.Pure
open Go.RowKit Go.Proofs.YtdihodboopeakaaDoorW.PrintWords Go.Proofs.YtdihodboopeakaaDoorW.PrintLast Go.Proofs.YtdihodboopeakaaDoor.Pr Go.Proofs.YtdihodboopeakaaDoor.EvKit

theorem toIntS_l0 (l : List Int) (hl : l.length ≤ 35184372088832) (d : Nat) : ∀ i : Nat, i + d = l.length →
    Ev (fun k => laws_toIntS.l0 k l ((l.take i).map id ++ List.replicate (l.length - i) 0) i) (l.map id) := by
  induction d with
  | zero =>
    intro i hi
    apply Ev.succ
    simp only [laws_toIntS.l0, show ¬ ((i : Int) < (l.length : Int)) by omega, if_false]
    have : i = l.length := by omega
    subst this
    exact Ev.some (copy_done _ _ _)
  | succ d ih =>
    intro i hi
    apply Ev.succ
    have hlen : ((l.take i).map id ++ List.replicate (l.length - i) (0 : Int)).length = l.length := by simp; omega
    simp only [laws_toIntS.l0, hlen, show ((i : Int) < (l.length : Int)) by omega, show (0 : Int) ≤ (i : Int) by omega, if_true, Int.toNat_natCast]
    rw [show wrap64 ((i : Int) + 1) = ((i + 1 : Nat) : Int) by rw [wrap64_id (by omega) (by omega)]; omega]
    have := copy_step id (0 : Int) 0 l i (by omega)
    have e : rd l (i : Int) = id (l.getD i 0) := rfl
    rw [e, this]
    exact ih (i + 1) (by omega)
theorem toIntS_ev (l : List Int) (hl : l.length ≤ 35184372088832) : Ev (fun k => laws_toIntS.f k l) l := by
  simp only [laws_toIntS.f, Int.toNat_natCast, show (0 : Int) ≤ (l.length : Int) by omega, hl, if_true]
  have := toIntS_l0 l hl l.length 0 (by omega)
  simpa using this

theorem eqIntS_l0 (l : List Int) (hl : l.length ≤ 35184372088832) (d : Nat) : ∀ i : Nat, i + d = l.length → Ev (fun k => laws_eqIntS.l0 k l l i) true := by
  induction d with
  | zero =>
    intro i hi
    apply Ev.succ
    simp only [laws_eqIntS.l0, show ¬ ((i : Int) < (l.length : Int)) by omega, if_false]
    exact Ev.some rfl
  | succ d ih =>
    intro i hi
    apply Ev.succ
    simp only [laws_eqIntS.l0, show ((i : Int) < (l.length : Int)) by omega, show (0 : Int) ≤ (i : Int) by omega, if_true]
    rw [show wrap64 ((i : Int) + 1) = ((i + 1 : Nat) : Int) by rw [wrap64_id (by omega) (by omega)]; omega]
    exact ih (i + 1) (by omega)
theorem eqIntS_ev (l : List Int) (hl : l.length ≤ 35184372088832) : Ev (fun k => laws_eqIntS.f k l l) true := by
  simp only [laws_eqIntS.f, if_true]
  exact eqIntS_l0 l hl l.length 0 (by omega)

end Go.Proofs.YtdihodboopeakaaDoor.Pure
