-- Joined and pruned by wip/tools/prune.py out of this session's own texts (PurePlan)
import Derived.Test.YtdihodboopeakaaDoorZwp14
/-
Own text: winning places, plans and plays: the program's and the reference's are the same.
-/
namespace Go.Proofs.YtdihodboopeakaaDoor.Pure
open Go.RowKit Go.Proofs.YtdihodboopeakaaDoorW.PrintWords Go.Proofs.YtdihodboopeakaaDoorW.PrintLast Go.Proofs.YtdihodboopeakaaDoor.Pr Go.Proofs.YtdihodboopeakaaDoor.EvKit
open Classical
set_option linter.unusedVariables false

/-! Winning places -/
noncomputable def placesTo (r : List Int) (i : Nat) : List Int := ((List.range i).filter fun j : Nat => decide (rd r (j : Int) ≥ 0)).map fun (j : Nat) => (j : Int)
theorem placesTo_succ (r : List Int) (i : Nat) : placesTo r (i + 1) = if rd r (i : Int) ≥ 0 then placesTo r i ++ [(i : Int)] else placesTo r i := by
  unfold placesTo
  rw [List.range_succ, List.filter_append, List.map_append]
  by_cases c : rd r (i : Int) ≥ 0
  · rw [if_pos c]; simp [c]
  · rw [if_neg c]; simp [c]
theorem placesTo_len (r : List Int) (i : Nat) : (placesTo r i).length ≤ i := by
  unfold placesTo
  rw [List.length_map]
  have := List.length_filter_le (fun j : Nat => decide (rd r (j : Int) ≥ 0)) (List.range i)
  rw [List.length_range] at this
  exact this
theorem places_l0 (r : List Int) (hr : r.length ≤ 14) (d : Nat) : ∀ i : Nat, i + d = r.length →
    Ev (fun k => impl_WinningPlaces.l0 k (placesTo r i) r r.length i) (placesTo r r.length, true) ∧ Ev (fun k => spec_WinningPlaces.l0 k (placesTo r i) r r.length i) (placesTo r r.length, true) := by
  induction d with
  | zero =>
    intro i hi
    obtain rfl : i = r.length := by omega
    constructor <;> apply Ev.succ
    · simp only [impl_WinningPlaces.l0, Int.lt_irrefl, if_false]
      exact Ev.some rfl
    · simp only [spec_WinningPlaces.l0, Int.lt_irrefl, if_false]
      exact Ev.some rfl
  | succ d ih =>
    intro i hi
    obtain ⟨a, b⟩ := ih (i + 1) (by omega)
    rw [placesTo_succ] at a b
    have hl := placesTo_len r i
    constructor <;> apply Ev.succ
    · simp only [impl_WinningPlaces.l0, show ((i : Int) < (r.length : Int)) by omega, show (0 : Int) ≤ (i : Int) by omega, if_true, show (placesTo r i).length < 17592186044416 by omega, succ_w2 i (by omega)]
      by_cases c : rd r (i : Int) ≥ 0
      · rw [if_pos c] at a; exact Ev.pos c a
      · rw [if_neg c] at a; exact Ev.neg c a
    · simp only [spec_WinningPlaces.l0, show ((i : Int) < (r.length : Int)) by omega, show (0 : Int) ≤ (i : Int) by omega, if_true, show (placesTo r i).length < 17592186044416 by omega, succ_w2 i (by omega)]
      by_cases c : rd r (i : Int) ≥ 0
      · rw [if_pos c] at b; exact Ev.pos c b
      · rw [if_neg c] at b; exact Ev.neg c b
section
variable (names : List ByteArray) (mine : List Bool) (next : List (List Int)) (reach avoid : List ByteArray)
theorem rounds_length (d : Nat) : ∀ (m : Nat) (r : List Int), r.length = names.length → (rounds names mine next avoid m d r).length = names.length := by
  induction d with
  | zero => intro m r h; exact h
  | succ d ih => intro m r h; exact ih _ _ (upd_length names mine next avoid r m names.length)
theorem ranks_length : (ranks names mine next reach avoid).length = names.length := by
  unfold ranks
  by_cases c : reach.length = 0
  · rw [if_pos c]
    unfold rankSafe
    rw [iter_length, ini_length]
  · rw [if_neg c]
    exact rounds_length names mine next avoid names.length 1 _ (ini2_length names reach avoid _ _)
noncomputable def winAll : List Int × Bool := if Good names mine next ∧ WishOk reach avoid then (placesTo (ranks names mine next reach avoid) names.length, true) else ([], false)
variable (hb : Small names mine next) (hw : SmallW reach avoid)
include hb hw
theorem winning_both : Ev (fun k => impl_WinningPlaces.f k names mine next reach avoid) (winAll names mine next reach avoid) ∧ Ev (fun k => spec_WinningPlaces.f k names mine next reach avoid) (winAll names mine next reach avoid) := by
  obtain ⟨a1, a2⟩ := goodBoard_both names mine next hb.n2 hb.x2
  have b1 := l22Good_ev reach avoid hw.r2 hw.a2
  have b2 := goodWish_eq reach avoid hw.r1 hw.r2 hw.a1 hw.a2
  have no1 (x : Bool) (hx : x = true) (h : ¬ (Good names mine next ∧ WishOk reach avoid)) : Ev (fun k => impl_WinningPlaces.j0 k x names mine next reach avoid) (winAll names mine next reach avoid) := by
    subst hx
    apply Ev.succ
    simp only [impl_WinningPlaces.j0, if_true]
    exact Ev.some (if_neg h).symm
  have no2 (x : Bool) (hx : x = true) (h : ¬ (Good names mine next ∧ WishOk reach avoid)) : Ev (fun k => spec_WinningPlaces.j0 k x names mine next reach avoid) (winAll names mine next reach avoid) := by
    subst hx
    apply Ev.succ
    simp only [spec_WinningPlaces.j0, if_true]
    exact Ev.some (if_neg h).symm
  unfold impl_WinningPlaces.f spec_WinningPlaces.f
  by_cases c1 : Good names mine next
  · by_cases c2 : WishOk reach avoid
    · obtain ⟨r1, r2⟩ := ranks_both names mine next reach avoid c1 hw
      have hl := ranks_length names mine next reach avoid
      have hn := c1.1.2
      obtain ⟨p1, p2⟩ := places_l0 (ranks names mine next reach avoid) (by omega) names.length 0 (by omega)
      have e : winAll names mine next reach avoid = (placesTo (ranks names mine next reach avoid) (ranks names mine next reach avoid).length, true) := by rw [hl]; exact if_pos ⟨c1, c2⟩
      have e0 : placesTo (ranks names mine next reach avoid) 0 = [] := rfl
      rw [e0] at p1 p2
      rw [e]
      constructor
      · refine Ev.bnd a2 (Ev.pos (decide_eq_true c1) (Ev.bnd0 b2 ?_))
        rw [decide_eq_true c2]
        apply Ev.succ
        simp only [impl_WinningPlaces.j0, Bool.not_true, Bool.false_eq_true, if_false]
        exact Ev.bnd r1 p1
      · refine Ev.bnd a1 (Ev.pos (decide_eq_true c1) (Ev.bnd b1 ?_))
        rw [decide_eq_true c2]
        apply Ev.succ
        simp only [spec_WinningPlaces.j0, Bool.not_true, Bool.false_eq_true, if_false]
        exact Ev.bnd r2 p2
    · exact ⟨Ev.bnd a2 (Ev.pos (decide_eq_true c1) (Ev.bnd0 b2 (no1 _ (by simp [c2]) (fun h => c2 h.2)))), Ev.bnd a1 (Ev.pos (decide_eq_true c1) (Ev.bnd b1 (no2 _ (by simp [c2]) (fun h => c2 h.2))))⟩
  · exact ⟨Ev.bnd a2 (Ev.neg (by simpa using c1) (no1 _ rfl (fun h => c1 h.1))), Ev.bnd a1 (Ev.neg (by simpa using c1) (no2 _ rfl (fun h => c1 h.1)))⟩
omit hb hw

/-! Rank 0 is where the wish aims -/
/-! A plan -/
variable (hg : Good names mine next)
include hg
include hw
omit hw
end
end Go.Proofs.YtdihodboopeakaaDoor.Pure
