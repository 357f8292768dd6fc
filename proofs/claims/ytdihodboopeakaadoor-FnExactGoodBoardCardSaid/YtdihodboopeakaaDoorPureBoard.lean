/-
Own text: what a good board is, to the program and to the reference.
-/
import Derived.Test.YtdihodboopeakaaDoorPrd2
import Derived.Test.YtdihodboopeakaaDoorPureName
import Derived.Test.YtdihodboopeakaaDoorPureText
import Derived.Test.YtdihodboopeakaaDoorPureBase
import Derived.Test.YtdihodboopeakaaDoorPureIntSS
namespace Go.Proofs.YtdihodboopeakaaDoor.Pure
open Go.RowKit Go.Proofs.YtdihodboopeakaaDoorW.PrintWords Go.Proofs.YtdihodboopeakaaDoorW.PrintLast Go.Proofs.YtdihodboopeakaaDoor.Pr Go.Proofs.YtdihodboopeakaaDoor.EvKit
open Classical

/-- A row of next places from k on: rising, each a place. -/
def RowOk (n : Nat) (row : List Int) (k : Nat) : Prop := From row.length k fun j => (0 ≤ row.getD j 0 ∧ row.getD j 0 < n) ∧ (0 < j → row.getD (j - 1) 0 < row.getD j 0)
/-- The places from i on. -/
def BoardOk (names : List ByteArray) (next : List (List Int)) (i : Nat) : Prop := From names.length i fun j => ((names.getD j ByteArray.empty).toList = [] ∨ NameOk (names.getD j ByteArray.empty)) ∧ RowOk names.length (next.getD j []) 0
def Good (names : List ByteArray) (mine : List Bool) (next : List (List Int)) : Prop := (1 ≤ names.length ∧ names.length ≤ 14) ∧ (mine.length = names.length ∧ next.length = names.length) ∧ BoardOk names next 0
theorem RowOk.len {n : Nat} {row : List Int} (h : RowOk n row 0) : row.length ≤ n := by
  have key : ∀ j, j < row.length → (j : Int) ≤ row.getD j 0 := by
    intro j
    induction j with
    | zero => intro hj; exact (h 0 (Nat.le_refl _) hj).1.1
    | succ j ih =>
      intro hj
      have h1 := ih (by omega)
      have h2 := (h (j + 1) (by omega) hj).2 (by omega)
      simp only [Nat.add_sub_cancel] at h2
      omega
  rcases Nat.eq_zero_or_pos row.length with e | e
  · omega
  · have h1 := key (row.length - 1) (by omega)
    have h2 := (h (row.length - 1) (by omega) (by omega)).1.2
    omega
theorem rd_get (l : List Int) (j : Nat) : rd l (j : Int) = l.getD j 0 := rfl
section
variable (names : List ByteArray) (mine : List Bool) (next : List (List Int)) (hn : names.length ≤ 14) (hx : next.length = names.length) (hs : ∀ x ∈ names, x.size ≤ 1048576) (hr : ∀ x ∈ next, x.length ≤ 1048576)
include hn hx hr
theorem specRow (i : Nat) (hi : i < names.length) (r : Bool) (d : Nat) : ∀ k : Nat, k + d = (next.getD i []).length →
    (RowOk names.length (next.getD i []) k → Ev (fun q => spec_GoodBoard.l0 q names.length names names.length ((i + 1 : Nat) : Int) names mine next) r) → (¬ RowOk names.length (next.getD i []) k → r = false) →
    Ev (fun q => spec_GoodBoard.l1 q names.length i names names.length i (next.getD i []) (next.getD i []).length k names mine next) r := by
  have hlen : (next.getD i []).length ≤ 1048576 := hr _ (getD_mem next i [] (by omega))
  induction d with
  | zero =>
    intro k hk h1 h2
    apply Ev.succ
    simp only [spec_GoodBoard.l1, show ¬ ((k : Int) < ((next.getD i []).length : Int)) by omega, if_false]
    rw [show wrap64 ((i : Int) + 1) = ((i + 1 : Nat) : Int) by rw [wrap64_id (by omega) (by omega)]; omega]
    exact h1 (From.end_ (by omega))
  | succ d ih =>
    intro k hk h1 h2
    apply Ev.succ
    simp only [spec_GoodBoard.l1, show ((k : Int) < ((next.getD i []).length : Int)) by omega, show (0 : Int) ≤ (k : Int) by omega, if_true, rd_get]
    have hstep := From.step (C := fun j => (0 ≤ (next.getD i []).getD j 0 ∧ (next.getD i []).getD j 0 < names.length) ∧ (0 < j → (next.getD i []).getD (j - 1) 0 < (next.getD i []).getD j 0)) (n := (next.getD i []).length) (i := k) (by omega)
    have e3 : rd_L3 next (i : Int) = next.getD i [] := rfl
    by_cases c1 : (next.getD i []).getD k 0 < 0
    · exact Ev.pos c1 (Ev.some (h2 (fun h => by have := (hstep.1 h).1.1.1; omega)).symm)
    refine Ev.neg c1 ?_
    by_cases c2 : (next.getD i []).getD k 0 ≥ (names.length : Int)
    · exact Ev.pos c2 (Ev.some (h2 (fun h => by have := (hstep.1 h).1.1.2; omega)).symm)
    refine Ev.neg c2 ?_
    have hw : wrap64 ((k : Int) + 1) = ((k + 1 : Nat) : Int) := by rw [wrap64_id (by omega) (by omega)]; omega
    by_cases c3 : 0 < k
    · refine Ev.pos (by omega) (Ev.pos (by omega) (Ev.pos (by omega) ?_))
      have hw1 : wrap64 ((k : Int) - 1) = ((k - 1 : Nat) : Int) := by rw [wrap64_id (by omega) (by omega)]; omega
      rw [hw1, hw, e3]
      refine Ev.pos (by omega) (Ev.pos (by omega) ?_)
      rw [rd_get]
      by_cases c4 : (next.getD i []).getD (k - 1) 0 ≥ (next.getD i []).getD k 0
      · exact Ev.pos c4 (Ev.some (h2 (fun h => by have := (hstep.1 h).1.2 c3; omega)).symm)
      · refine Ev.neg c4 (ih (k + 1) (by omega) (fun h => h1 (hstep.2 ⟨⟨⟨by omega, by omega⟩, fun _ => by omega⟩, h⟩)) (fun h => h2 (fun h' => h (hstep.1 h').2)))
    · rw [hw]
      refine Ev.neg (by omega) (ih (k + 1) (by omega) (fun h => h1 (hstep.2 ⟨⟨⟨by omega, by omega⟩, fun h0 => absurd h0 c3⟩, h⟩)) (fun h => h2 (fun h' => h (hstep.1 h').2)))
theorem implRow (i : Nat) (hi : i < names.length) (r : Bool) (d : Nat) : ∀ k : Nat, k + d = (next.getD i []).length →
    (RowOk names.length (next.getD i []) k → Ev (fun q => impl_GoodBoard.l0 q names.length names names.length ((i + 1 : Nat) : Int) names mine next) r) → (¬ RowOk names.length (next.getD i []) k → r = false) →
    Ev (fun q => impl_GoodBoard.l1 q names.length i names names.length i (next.getD i []) (next.getD i []).length k names mine next) r := by
  have hlen : (next.getD i []).length ≤ 1048576 := hr _ (getD_mem next i [] (by omega))
  induction d with
  | zero =>
    intro k hk h1 h2
    apply Ev.succ
    simp only [impl_GoodBoard.l1, show ¬ ((k : Int) < ((next.getD i []).length : Int)) by omega, if_false]
    rw [show wrap64 ((i : Int) + 1) = ((i + 1 : Nat) : Int) by rw [wrap64_id (by omega) (by omega)]; omega]
    exact h1 (From.end_ (by omega))
  | succ d ih =>
    intro k hk h1 h2
    apply Ev.succ
    simp only [impl_GoodBoard.l1, show ((k : Int) < ((next.getD i []).length : Int)) by omega, show (0 : Int) ≤ (k : Int) by omega, if_true, rd_get]
    have hstep := From.step (C := fun j => (0 ≤ (next.getD i []).getD j 0 ∧ (next.getD i []).getD j 0 < names.length) ∧ (0 < j → (next.getD i []).getD (j - 1) 0 < (next.getD i []).getD j 0)) (n := (next.getD i []).length) (i := k) (by omega)
    have e3 : rd_L3 next (i : Int) = next.getD i [] := rfl
    by_cases c1 : (next.getD i []).getD k 0 < 0
    · exact Ev.pos c1 (Ev.some (h2 (fun h => by have := (hstep.1 h).1.1.1; omega)).symm)
    refine Ev.neg c1 ?_
    by_cases c2 : (next.getD i []).getD k 0 ≥ (names.length : Int)
    · exact Ev.pos c2 (Ev.some (h2 (fun h => by have := (hstep.1 h).1.1.2; omega)).symm)
    refine Ev.neg c2 ?_
    have hw : wrap64 ((k : Int) + 1) = ((k + 1 : Nat) : Int) := by rw [wrap64_id (by omega) (by omega)]; omega
    by_cases c3 : 0 < k
    · refine Ev.pos (by omega) (Ev.pos (by omega) (Ev.pos (by omega) ?_))
      have hw1 : wrap64 ((k : Int) - 1) = ((k - 1 : Nat) : Int) := by rw [wrap64_id (by omega) (by omega)]; omega
      rw [hw1, hw, e3]
      refine Ev.pos (by omega) (Ev.pos (by omega) ?_)
      rw [rd_get]
      by_cases c4 : (next.getD i []).getD k 0 ≤ (next.getD i []).getD (k - 1) 0
      · exact Ev.pos c4 (Ev.some (h2 (fun h => by have := (hstep.1 h).1.2 c3; omega)).symm)
      · refine Ev.neg c4 (ih (k + 1) (by omega) (fun h => h1 (hstep.2 ⟨⟨⟨by omega, by omega⟩, fun _ => by omega⟩, h⟩)) (fun h => h2 (fun h' => h (hstep.1 h').2)))
    · rw [hw]
      refine Ev.neg (by omega) (ih (k + 1) (by omega) (fun h => h1 (hstep.2 ⟨⟨⟨by omega, by omega⟩, fun h0 => absurd h0 c3⟩, h⟩)) (fun h => h2 (fun h' => h (hstep.1 h').2)))
include hs
theorem board_l0 (d : Nat) : ∀ i : Nat, i + d = names.length →
    Ev (fun q => spec_GoodBoard.l0 q names.length names names.length i names mine next) (decide (BoardOk names next i)) ∧ Ev (fun q => impl_GoodBoard.l0 q names.length names names.length i names mine next) (decide (BoardOk names next i)) := by
  induction d with
  | zero =>
    intro i hi
    have e : decide (BoardOk names next i) = true := decide_eq_true (From.end_ (by omega))
    rw [e]
    constructor <;> apply Ev.succ
    · simp only [spec_GoodBoard.l0, show ¬ ((i : Int) < (names.length : Int)) by omega, if_false]
      exact Ev.some rfl
    · simp only [impl_GoodBoard.l0, show ¬ ((i : Int) < (names.length : Int)) by omega, if_false]
      exact Ev.some rfl
  | succ d ih =>
    intro i hi
    obtain ⟨ih1, ih2⟩ := ih (i + 1) (by omega)
    have hsz : (names.getD i ByteArray.empty).size ≤ 1000000000 := Nat.le_trans (hs _ (getD_mem names i _ (by omega))) (by decide)
    have e0 : rdOf ByteArray.empty names (i : Int) = names.getD i ByteArray.empty := rfl
    have e3 : rd_L3 next (i : Int) = next.getD i [] := rfl
    have hstep := From.step (C := fun j => ((names.getD j ByteArray.empty).toList = [] ∨ NameOk (names.getD j ByteArray.empty)) ∧ RowOk names.length (next.getD j []) 0) (n := names.length) (i := i) (by omega)
    have hT : RowOk names.length (next.getD i []) 0 → ((names.getD i ByteArray.empty).toList = [] ∨ NameOk (names.getD i ByteArray.empty)) → decide (BoardOk names next (i + 1)) = decide (BoardOk names next i) := fun a b => decide_eq_decide.2 ⟨fun h => hstep.2 ⟨⟨b, a⟩, h⟩, fun h => (hstep.1 h).2⟩
    have hF : ¬ RowOk names.length (next.getD i []) 0 → decide (BoardOk names next i) = false := fun a => decide_eq_false (fun h => a (hstep.1 h).1.2)
    have hF2 : ¬ ((names.getD i ByteArray.empty).toList = [] ∨ NameOk (names.getD i ByteArray.empty)) → decide (BoardOk names next i) = false := fun a => decide_eq_false (fun h => a (hstep.1 h).1.1)
    have hs2 : ((names.getD i ByteArray.empty).toList = [] ∨ NameOk (names.getD i ByteArray.empty)) → Ev (fun q => spec_GoodBoard.j2 q names.length i names names.length i false names mine next) (decide (BoardOk names next i)) := fun b => by
      apply Ev.succ
      simp only [spec_GoodBoard.j2, Bool.false_eq_true, if_false]
      refine Ev.pos (by omega) (Ev.pos (by omega) ?_)
      rw [e3]
      exact specRow names mine next hn hx hr i (by omega) _ (next.getD i []).length 0 (by omega) (fun a => by rw [← hT a b]; exact ih1) hF
    have hi2 : ((names.getD i ByteArray.empty).toList = [] ∨ NameOk (names.getD i ByteArray.empty)) → Ev (fun q => impl_GoodBoard.j2 q names.length i names names.length i (decide (((next.getD i []).length : Int) > 14)) names mine next) (decide (BoardOk names next i)) := fun b => by
      apply Ev.succ
      simp only [impl_GoodBoard.j2]
      by_cases c : ((next.getD i []).length : Int) > 14
      · refine Ev.pos (decide_eq_true c) (Ev.some (hF (fun a => by have := a.len; omega)).symm)
      · refine Ev.neg (by simpa using c) (Ev.pos (by omega) (Ev.pos (by omega) ?_))
        rw [e3]
        exact implRow names mine next hn hx hr i (by omega) _ (next.getD i []).length 0 (by omega) (fun a => by rw [← hT a b]; exact ih2) hF
    constructor <;> apply Ev.succ
    · simp only [spec_GoodBoard.l0, show ((i : Int) < (names.length : Int)) by omega, show (0 : Int) ≤ (i : Int) by omega, if_true, e0]
      by_cases c : (names.getD i ByteArray.empty).toList = []
      · exact Ev.pos c (hs2 (Or.inl c))
      · refine Ev.neg c (Ev.bnd (l22Name_ev _ hsz) ?_)
        by_cases c2 : NameOk (names.getD i ByteArray.empty)
        · rw [decide_eq_true c2]
          exact hs2 (Or.inr c2)
        · rw [decide_eq_false c2]
          apply Ev.succ
          simp only [spec_GoodBoard.j2, Bool.not_false, if_true]
          exact Ev.some (hF2 (fun h => h.elim c c2)).symm
    · simp only [impl_GoodBoard.l0, show ((i : Int) < (names.length : Int)) by omega, show (0 : Int) ≤ (i : Int) by omega, if_true, e0, e3, show ((i : Int) < (next.length : Int)) by omega]
      by_cases c : (names.getD i ByteArray.empty).toList = []
      · exact Ev.pos c (hi2 (Or.inl c))
      · refine Ev.neg c (Ev.bnd0 (goodName_eq _ hsz) ?_)
        by_cases c2 : NameOk (names.getD i ByteArray.empty)
        · exact Ev.pos (decide_eq_true c2) (hi2 (Or.inr c2))
        · refine Ev.neg (by simpa using c2) ?_
          apply Ev.succ
          simp only [impl_GoodBoard.j2, if_true]
          exact Ev.some (hF2 (fun h => h.elim c c2)).symm
end
theorem goodBoard_both (names : List ByteArray) (mine : List Bool) (next : List (List Int)) (hs : ∀ x ∈ names, x.size ≤ 1048576) (hr : ∀ x ∈ next, x.length ≤ 1048576) :
    Ev (fun q => spec_GoodBoard.f q names mine next) (decide (Good names mine next)) ∧ Ev (fun q => impl_GoodBoard.f q names mine next) (decide (Good names mine next)) := by
  have js (x : Bool) (hx : x = true) (hg : ¬ Good names mine next) : Ev (fun q => spec_GoodBoard.j0 q names.length x names mine next) (decide (Good names mine next)) := by
    subst hx
    apply Ev.succ
    simp only [spec_GoodBoard.j0, if_true]
    exact Ev.some (decide_eq_false hg).symm
  have ji (x : Bool) (hx : x = true) (hg : ¬ Good names mine next) : Ev (fun q => impl_GoodBoard.j0 q names.length x names mine next) (decide (Good names mine next)) := by
    subst hx
    apply Ev.succ
    simp only [impl_GoodBoard.j0, if_true]
    exact Ev.some (decide_eq_false hg).symm
  unfold spec_GoodBoard.f impl_GoodBoard.f
  by_cases c1 : names.length < 1
  · have hg : ¬ Good names mine next := fun h => by have := h.1.1; omega
    exact ⟨Ev.pos (by omega) (js _ rfl hg), Ev.pos (by omega) (ji _ rfl hg)⟩
  by_cases c2 : names.length > 14
  · have hg : ¬ Good names mine next := fun h => by have := h.1.2; omega
    exact ⟨Ev.neg (by omega) (Ev.pos (by omega) (js _ rfl hg)), Ev.neg (by omega) (Ev.pos (by omega) (ji _ rfl hg))⟩
  by_cases c3 : mine.length = names.length
  · by_cases c4 : next.length = names.length
    · have e : ((next.length : Int) != (names.length : Int)) = false := by rw [bne_eq_false_iff_eq]; omega
      obtain ⟨a, b⟩ := board_l0 names mine next (by omega) c4 hs hr names.length 0 (by omega)
      have ed : decide (BoardOk names next 0) = decide (Good names mine next) := decide_eq_decide.2 ⟨fun h => ⟨⟨by omega, by omega⟩, ⟨c3, c4⟩, h⟩, fun h => h.2.2⟩
      rw [ed] at a b
      refine ⟨Ev.neg (by omega) (Ev.neg (by omega) (Ev.pos (by omega) ?_)), Ev.neg (by omega) (Ev.neg (by omega) (Ev.pos (by omega) ?_))⟩
      · rw [e]
        apply Ev.succ
        simp only [spec_GoodBoard.j0, Bool.false_eq_true, if_false]
        exact a
      · rw [e]
        apply Ev.succ
        simp only [impl_GoodBoard.j0, Bool.false_eq_true, if_false]
        exact b
    · have e : ((next.length : Int) != (names.length : Int)) = true := by rw [bne_iff_ne]; omega
      have hg : ¬ Good names mine next := fun h => c4 h.2.1.2
      exact ⟨Ev.neg (by omega) (Ev.neg (by omega) (Ev.pos (by omega) (js _ e hg))), Ev.neg (by omega) (Ev.neg (by omega) (Ev.pos (by omega) (ji _ e hg)))⟩
  · have hg : ¬ Good names mine next := fun h => c3 h.2.1.1
    exact ⟨Ev.neg (by omega) (Ev.neg (by omega) (Ev.neg (by omega) (js _ rfl hg))), Ev.neg (by omega) (Ev.neg (by omega) (Ev.neg (by omega) (ji _ rfl hg)))⟩

/-! The law's helpers on a board -/
/-- A board whose size is held. -/
structure Small (names : List ByteArray) (mine : List Bool) (next : List (List Int)) : Prop where
  n1 : names.length ≤ 1048576
  n2 : ∀ x ∈ names, x.size ≤ 1048576
  m1 : mine.length ≤ 1048576
  x1 : next.length ≤ 1048576
  x2 : ∀ x ∈ next, x.length ≤ 1048576
theorem szBoard_ev (names : List ByteArray) (mine : List Bool) (next : List (List Int)) (a : Int) (h0 : 0 ≤ a) (h1 : a ≤ 1048576) (b1 : names.length ≤ 9223372036854775807) (b2 : ∀ x ∈ names, x.size ≤ 140737488351232) (b3 : mine.length ≤ 9223372036854775807) (b4 : next.length ≤ 9223372036854775807) (b5 : ∀ x ∈ next, x.length ≤ 9223372036854775807) :
    ∃ r, Ev (fun k => laws_szBoard.f k names mine next a) r ∧ (¬ r < 0 → r ≤ a ∧ Small names mine next) := by
  unfold laws_szBoard.f
  obtain ⟨r1, e1, f1⟩ := szStringS_ev names a h0 h1 b1 b2
  by_cases c1 : r1 < 0
  · exact ⟨-1, Ev.bnd e1 (Ev.pos c1 (Ev.some rfl)), fun h => absurd (by decide) h⟩
  obtain ⟨g1, g2, g3⟩ := f1 c1
  obtain ⟨r2, e2, f2⟩ := szBoolS_eq mine r1 b3 (by omega) (by omega)
  by_cases c2 : r2 < 0
  · exact ⟨-1, Ev.bnd e1 (Ev.neg c1 (Ev.bnd0 e2 (Ev.pos c2 (Ev.some rfl)))), fun h => absurd (by decide) h⟩
  obtain ⟨g4, g5⟩ := f2 c2
  obtain ⟨r3, e3, f3⟩ := szIntSS_ev next r2 (by omega) (by omega) b4 b5
  by_cases c3 : r3 < 0
  · exact ⟨-1, Ev.bnd e1 (Ev.neg c1 (Ev.bnd0 e2 (Ev.neg c2 (Ev.bnd e3 (Ev.pos c3 (Ev.some rfl)))))), fun h => absurd (by decide) h⟩
  obtain ⟨g6, g7, g8⟩ := f3 c3
  exact ⟨r3, Ev.bnd e1 (Ev.neg c1 (Ev.bnd0 e2 (Ev.neg c2 (Ev.bnd e3 (Ev.neg c3 (Ev.some rfl)))))), fun _ => ⟨by omega, g2, g3, by omega, g7, g8⟩⟩
theorem toBoard_ev {names : List ByteArray} {mine : List Bool} {next : List (List Int)} (h : Small names mine next) : Ev (fun k => laws_toBoard.f k names mine next) (names, mine, next) := by
  unfold laws_toBoard.f
  exact Ev.bnd (toStringS_ev _ h.n1) (Ev.bnd (toBoolS_ev _ h.m1) (Ev.bnd (toIntSS_ev _ h.x1 h.x2) (Ev.some rfl)))
theorem eqBoard_ev {names : List ByteArray} {mine : List Bool} {next : List (List Int)} (h : Small names mine next) : Ev (fun k => laws_eqBoard.f k names mine next names mine next) true := by
  unfold laws_eqBoard.f
  exact Ev.bnd (eqStringS_ev _ h.n1) (Ev.pos rfl (Ev.bnd (eqBoolS_ev _ h.m1) (Ev.pos rfl (Ev.bnd (eqIntSS_ev _ h.x1 h.x2) (Ev.pos rfl (Ev.some rfl))))))
end Go.Proofs.YtdihodboopeakaaDoor.Pure
