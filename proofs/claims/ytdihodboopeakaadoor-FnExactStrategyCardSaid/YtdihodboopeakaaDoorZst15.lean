-- Joined and pruned by wip/tools/prune.py out of this session's own texts (PureBoard, PureWish, PureMk, PureRank, PureRank2, PureRank3, PureMet, PurePlan, Sts)
import Derived.Test.YtdihodboopeakaaDoorZst14
/-
Own text: what a good board is, to the program and to the reference.
-/
namespace Go.Proofs.YtdihodboopeakaaDoor.Pure
open Go.RowKit Go.Proofs.YtdihodboopeakaaDoorW.PrintWords Go.Proofs.YtdihodboopeakaaDoorW.PrintLast Go.Proofs.YtdihodboopeakaaDoor.Pr Go.Proofs.YtdihodboopeakaaDoor.EvKit
open Classical

/-- A row of next places from k on: rising, each a place. -/
def RowOk (n : Nat) (row : List Int) (k : Nat) : Prop := From row.length k fun j => (0 ≤ row.getD j 0 ∧ row.getD j 0 < n) ∧ (0 < j → row.getD (j - 1) 0 < row.getD j 0)
/-- The places from i on. -/
def BoardOk (names : List ByteArray) (next : List (List Int)) (i : Nat) : Prop := From names.length i fun j => ((names.getD j ByteArray.empty).toList = [] ∨ NameOk (names.getD j ByteArray.empty)) ∧ RowOk names.length (next.getD j []) 0
def Good (names : List ByteArray) (mine : List Bool) (next : List (List Int)) : Prop := (1 ≤ names.length ∧ names.length ≤ 14) ∧ (mine.length = names.length ∧ next.length = names.length) ∧ BoardOk names next 0
theorem RowOk.len {n : Nat} {row : List Int} (h : RowOk n row 0) : row.length ≤ n := by
  have key : ∀ j, j < row.length → (j : Int) ≤ row.getD j 0 := by
    intro j
    induction j with
    | zero => intro hj; exact (h 0 (Nat.le_refl _) hj).1.1
    | succ j ih =>
      intro hj; have h1 := ih (by omega); have h2 := (h (j + 1) (by omega) hj).2 (by omega); simp only [Nat.add_sub_cancel] at h2
      omega
  rcases Nat.eq_zero_or_pos row.length with e | e
  · omega
  · have h1 := key (row.length - 1) (by omega)
    have h2 := (h (row.length - 1) (by omega) (by omega)).1.2
    omega
theorem rd_get (l : List Int) (j : Nat) : rd l (j : Int) = l.getD j 0 := rfl
section
variable (names : List ByteArray) (mine : List Bool) (next : List (List Int)) (hn : names.length ≤ 14) (hx : next.length = names.length) (hs : ∀ x ∈ names, x.size ≤ 1048576) (hr : ∀ x ∈ next, x.length ≤ 1048576)
include hn hx hr
theorem specRow (i : Nat) (hi : i < names.length) (r : Bool) (d : Nat) : ∀ k : Nat, k + d = (next.getD i []).length →
    (RowOk names.length (next.getD i []) k → Ev (fun q => spec_GoodBoard.l0 q names.length names names.length ((i + 1 : Nat) : Int) names mine next) r) → (¬ RowOk names.length (next.getD i []) k → r = false) →
    Ev (fun q => spec_GoodBoard.l1 q names.length i names names.length i (next.getD i []) (next.getD i []).length k names mine next) r := by
  have hlen : (next.getD i []).length ≤ 1048576 := hr _ (getD_mem next i [] (by omega))
  induction d with
  | zero =>
    intro k hk h1 h2; apply Ev.succ; simp only [spec_GoodBoard.l1, show ¬ ((k : Int) < ((next.getD i []).length : Int)) by omega, if_false]; rw [show wrap64 ((i : Int) + 1) = ((i + 1 : Nat) : Int) by rw [wrap64_id (by omega) (by omega)]; omega]; exact h1 (From.end_ (by omega))
  | succ d ih =>
    intro k hk h1 h2; apply Ev.succ; simp only [spec_GoodBoard.l1, show ((k : Int) < ((next.getD i []).length : Int)) by omega, show (0 : Int) ≤ (k : Int) by omega, if_true, rd_get]; have hstep := From.step (C := fun j => (0 ≤ (next.getD i []).getD j 0 ∧ (next.getD i []).getD j 0 < names.length) ∧ (0 < j → (next.getD i []).getD (j - 1) 0 < (next.getD i []).getD j 0)) (n := (next.getD i []).length) (i := k) (by omega); have e3 : rd_L3 next (i : Int) = next.getD i [] := rfl; by_cases c1 : (next.getD i []).getD k 0 < 0
    · exact Ev.pos c1 (Ev.some (h2 (fun h => by have := (hstep.1 h).1.1.1; omega)).symm)
    refine Ev.neg c1 ?_; by_cases c2 : (next.getD i []).getD k 0 ≥ (names.length : Int)
    · exact Ev.pos c2 (Ev.some (h2 (fun h => by have := (hstep.1 h).1.1.2; omega)).symm)
    refine Ev.neg c2 ?_; (have hw : wrap64 ((k : Int) + 1) = ((k + 1 : Nat) : Int) := by rw [wrap64_id (by omega) (by omega)]; omega); by_cases c3 : 0 < k
    · refine Ev.pos (by omega) (Ev.pos (by omega) (Ev.pos (by omega) ?_))
      (have hw1 : wrap64 ((k : Int) - 1) = ((k - 1 : Nat) : Int) := by rw [wrap64_id (by omega) (by omega)]; omega); rw [hw1, hw, e3]; refine Ev.pos (by omega) (Ev.pos (by omega) ?_); rw [rd_get]; by_cases c4 : (next.getD i []).getD (k - 1) 0 ≥ (next.getD i []).getD k 0
      · exact Ev.pos c4 (Ev.some (h2 (fun h => by have := (hstep.1 h).1.2 c3; omega)).symm)
      · refine Ev.neg c4 (ih (k + 1) (by omega) (fun h => h1 (hstep.2 ⟨⟨⟨by omega, by omega⟩, fun _ => by omega⟩, h⟩)) (fun h => h2 (fun h' => h (hstep.1 h').2)))
    · rw [hw]
      refine Ev.neg (by omega) (ih (k + 1) (by omega) (fun h => h1 (hstep.2 ⟨⟨⟨by omega, by omega⟩, fun h0 => absurd h0 c3⟩, h⟩)) (fun h => h2 (fun h' => h (hstep.1 h').2)))
theorem implRow (i : Nat) (hi : i < names.length) (r : Bool) (d : Nat) : ∀ k : Nat, k + d = (next.getD i []).length →
    (RowOk names.length (next.getD i []) k → Ev (fun q => impl_GoodBoard.l0 q names.length names names.length ((i + 1 : Nat) : Int) names mine next) r) → (¬ RowOk names.length (next.getD i []) k → r = false) →
    Ev (fun q => impl_GoodBoard.l1 q names.length i names names.length i (next.getD i []) (next.getD i []).length k names mine next) r := by
  have hlen : (next.getD i []).length ≤ 1048576 := hr _ (getD_mem next i [] (by omega))
  induction d with
  | zero =>
    intro k hk h1 h2; apply Ev.succ; simp only [impl_GoodBoard.l1, show ¬ ((k : Int) < ((next.getD i []).length : Int)) by omega, if_false]; rw [show wrap64 ((i : Int) + 1) = ((i + 1 : Nat) : Int) by rw [wrap64_id (by omega) (by omega)]; omega]; exact h1 (From.end_ (by omega))
  | succ d ih =>
    intro k hk h1 h2; apply Ev.succ; simp only [impl_GoodBoard.l1, show ((k : Int) < ((next.getD i []).length : Int)) by omega, show (0 : Int) ≤ (k : Int) by omega, if_true, rd_get]; have hstep := From.step (C := fun j => (0 ≤ (next.getD i []).getD j 0 ∧ (next.getD i []).getD j 0 < names.length) ∧ (0 < j → (next.getD i []).getD (j - 1) 0 < (next.getD i []).getD j 0)) (n := (next.getD i []).length) (i := k) (by omega); have e3 : rd_L3 next (i : Int) = next.getD i [] := rfl; by_cases c1 : (next.getD i []).getD k 0 < 0
    · exact Ev.pos c1 (Ev.some (h2 (fun h => by have := (hstep.1 h).1.1.1; omega)).symm)
    refine Ev.neg c1 ?_; by_cases c2 : (next.getD i []).getD k 0 ≥ (names.length : Int)
    · exact Ev.pos c2 (Ev.some (h2 (fun h => by have := (hstep.1 h).1.1.2; omega)).symm)
    refine Ev.neg c2 ?_; (have hw : wrap64 ((k : Int) + 1) = ((k + 1 : Nat) : Int) := by rw [wrap64_id (by omega) (by omega)]; omega); by_cases c3 : 0 < k
    · refine Ev.pos (by omega) (Ev.pos (by omega) (Ev.pos (by omega) ?_))
      (have hw1 : wrap64 ((k : Int) - 1) = ((k - 1 : Nat) : Int) := by rw [wrap64_id (by omega) (by omega)]; omega); rw [hw1, hw, e3]; refine Ev.pos (by omega) (Ev.pos (by omega) ?_); rw [rd_get]; by_cases c4 : (next.getD i []).getD k 0 ≤ (next.getD i []).getD (k - 1) 0
      · exact Ev.pos c4 (Ev.some (h2 (fun h => by have := (hstep.1 h).1.2 c3; omega)).symm)
      · refine Ev.neg c4 (ih (k + 1) (by omega) (fun h => h1 (hstep.2 ⟨⟨⟨by omega, by omega⟩, fun _ => by omega⟩, h⟩)) (fun h => h2 (fun h' => h (hstep.1 h').2)))
    · rw [hw]
      refine Ev.neg (by omega) (ih (k + 1) (by omega) (fun h => h1 (hstep.2 ⟨⟨⟨by omega, by omega⟩, fun h0 => absurd h0 c3⟩, h⟩)) (fun h => h2 (fun h' => h (hstep.1 h').2)))
include hs
theorem board_l0 (d : Nat) : ∀ i : Nat, i + d = names.length →
    Ev (fun q => spec_GoodBoard.l0 q names.length names names.length i names mine next) (decide (BoardOk names next i)) ∧ Ev (fun q => impl_GoodBoard.l0 q names.length names names.length i names mine next) (decide (BoardOk names next i)) := by
  induction d with
  | zero =>
    intro i hi; have e : decide (BoardOk names next i) = true := decide_eq_true (From.end_ (by omega)); rw [e]
    constructor <;> apply Ev.succ
    · simp only [spec_GoodBoard.l0, show ¬ ((i : Int) < (names.length : Int)) by omega, if_false]
      exact Ev.some rfl
    · simp only [impl_GoodBoard.l0, show ¬ ((i : Int) < (names.length : Int)) by omega, if_false]
      exact Ev.some rfl
  | succ d ih =>
    intro i hi; obtain ⟨ih1, ih2⟩ := ih (i + 1) (by omega); have hsz : (names.getD i ByteArray.empty).size ≤ 1000000000 := Nat.le_trans (hs _ (getD_mem names i _ (by omega))) (by decide); have e0 : rdOf ByteArray.empty names (i : Int) = names.getD i ByteArray.empty := rfl; have e3 : rd_L3 next (i : Int) = next.getD i [] := rfl; have hstep := From.step (C := fun j => ((names.getD j ByteArray.empty).toList = [] ∨ NameOk (names.getD j ByteArray.empty)) ∧ RowOk names.length (next.getD j []) 0) (n := names.length) (i := i) (by omega); (have hT : RowOk names.length (next.getD i []) 0 → ((names.getD i ByteArray.empty).toList = [] ∨ NameOk (names.getD i ByteArray.empty)) → decide (BoardOk names next (i + 1)) = decide (BoardOk names next i) := fun a b => decide_eq_decide.2 ⟨fun h => hstep.2 ⟨⟨b, a⟩, h⟩, fun h => (hstep.1 h).2⟩); (have hF : ¬ RowOk names.length (next.getD i []) 0 → decide (BoardOk names next i) = false := fun a => decide_eq_false (fun h => a (hstep.1 h).1.2)); (have hF2 : ¬ ((names.getD i ByteArray.empty).toList = [] ∨ NameOk (names.getD i ByteArray.empty)) → decide (BoardOk names next i) = false := fun a => decide_eq_false (fun h => a (hstep.1 h).1.1))
    have hs2 : ((names.getD i ByteArray.empty).toList = [] ∨ NameOk (names.getD i ByteArray.empty)) → Ev (fun q => spec_GoodBoard.j2 q names.length i names names.length i false names mine next) (decide (BoardOk names next i)) := fun b => by
      apply Ev.succ; simp only [spec_GoodBoard.j2, Bool.false_eq_true, if_false]; refine Ev.pos (by omega) (Ev.pos (by omega) ?_); rw [e3]; exact specRow names mine next hn hx hr i (by omega) _ (next.getD i []).length 0 (by omega) (fun a => by rw [← hT a b]; exact ih1) hF
    have hi2 : ((names.getD i ByteArray.empty).toList = [] ∨ NameOk (names.getD i ByteArray.empty)) → Ev (fun q => impl_GoodBoard.j2 q names.length i names names.length i (decide (((next.getD i []).length : Int) > 14)) names mine next) (decide (BoardOk names next i)) := fun b => by
      apply Ev.succ; simp only [impl_GoodBoard.j2]; by_cases c : ((next.getD i []).length : Int) > 14
      · refine Ev.pos (decide_eq_true c) (Ev.some (hF (fun a => by have := a.len; omega)).symm)
      · refine Ev.neg (by simpa using c) (Ev.pos (by omega) (Ev.pos (by omega) ?_))
        rw [e3]; exact implRow names mine next hn hx hr i (by omega) _ (next.getD i []).length 0 (by omega) (fun a => by rw [← hT a b]; exact ih2) hF
    constructor <;> apply Ev.succ
    · simp only [spec_GoodBoard.l0, show ((i : Int) < (names.length : Int)) by omega, show (0 : Int) ≤ (i : Int) by omega, if_true, e0]
      by_cases c : (names.getD i ByteArray.empty).toList = []
      · exact Ev.pos c (hs2 (Or.inl c))
      · refine Ev.neg c (Ev.bnd (l22Name_ev _ hsz) ?_)
        by_cases c2 : NameOk (names.getD i ByteArray.empty)
        · rw [decide_eq_true c2]
          exact hs2 (Or.inr c2)
        · rw [decide_eq_false c2]
          apply Ev.succ; simp only [spec_GoodBoard.j2, Bool.not_false, if_true]; exact Ev.some (hF2 (fun h => h.elim c c2)).symm
    · simp only [impl_GoodBoard.l0, show ((i : Int) < (names.length : Int)) by omega, show (0 : Int) ≤ (i : Int) by omega, if_true, e0, e3, show ((i : Int) < (next.length : Int)) by omega]
      by_cases c : (names.getD i ByteArray.empty).toList = []
      · exact Ev.pos c (hi2 (Or.inl c))
      · refine Ev.neg c (Ev.bnd0 (goodName_eq _ hsz) ?_)
        by_cases c2 : NameOk (names.getD i ByteArray.empty)
        · exact Ev.pos (decide_eq_true c2) (hi2 (Or.inr c2))
        · refine Ev.neg (by simpa using c2) ?_
          apply Ev.succ; simp only [impl_GoodBoard.j2, if_true]; exact Ev.some (hF2 (fun h => h.elim c c2)).symm
end
theorem goodBoard_both (names : List ByteArray) (mine : List Bool) (next : List (List Int)) (hs : ∀ x ∈ names, x.size ≤ 1048576) (hr : ∀ x ∈ next, x.length ≤ 1048576) :
    Ev (fun q => spec_GoodBoard.f q names mine next) (decide (Good names mine next)) ∧ Ev (fun q => impl_GoodBoard.f q names mine next) (decide (Good names mine next)) := by
  have js (x : Bool) (hx : x = true) (hg : ¬ Good names mine next) : Ev (fun q => spec_GoodBoard.j0 q names.length x names mine next) (decide (Good names mine next)) := by
    subst hx; apply Ev.succ; simp only [spec_GoodBoard.j0, if_true]; exact Ev.some (decide_eq_false hg).symm
  have ji (x : Bool) (hx : x = true) (hg : ¬ Good names mine next) : Ev (fun q => impl_GoodBoard.j0 q names.length x names mine next) (decide (Good names mine next)) := by
    subst hx; apply Ev.succ; simp only [impl_GoodBoard.j0, if_true]; exact Ev.some (decide_eq_false hg).symm
  unfold spec_GoodBoard.f impl_GoodBoard.f; by_cases c1 : names.length < 1
  · have hg : ¬ Good names mine next := fun h => by have := h.1.1; omega
    exact ⟨Ev.pos (by omega) (js _ rfl hg), Ev.pos (by omega) (ji _ rfl hg)⟩
  by_cases c2 : names.length > 14
  · have hg : ¬ Good names mine next := fun h => by have := h.1.2; omega
    exact ⟨Ev.neg (by omega) (Ev.pos (by omega) (js _ rfl hg)), Ev.neg (by omega) (Ev.pos (by omega) (ji _ rfl hg))⟩
  by_cases c3 : mine.length = names.length
  · by_cases c4 : next.length = names.length
    · have e : ((next.length : Int) != (names.length : Int)) = false := by rw [bne_eq_false_iff_eq]; omega
      obtain ⟨a, b⟩ := board_l0 names mine next (by omega) c4 hs hr names.length 0 (by omega); have ed : decide (BoardOk names next 0) = decide (Good names mine next) := decide_eq_decide.2 ⟨fun h => ⟨⟨by omega, by omega⟩, ⟨c3, c4⟩, h⟩, fun h => h.2.2⟩; rw [ed] at a b; refine ⟨Ev.neg (by omega) (Ev.neg (by omega) (Ev.pos (by omega) ?_)), Ev.neg (by omega) (Ev.neg (by omega) (Ev.pos (by omega) ?_))⟩
      · rw [e]
        apply Ev.succ; simp only [spec_GoodBoard.j0, Bool.false_eq_true, if_false]; exact a
      · rw [e]
        apply Ev.succ; simp only [impl_GoodBoard.j0, Bool.false_eq_true, if_false]; exact b
    · have e : ((next.length : Int) != (names.length : Int)) = true := by rw [bne_iff_ne]; omega
      (have hg : ¬ Good names mine next := fun h => c4 h.2.1.2); exact ⟨Ev.neg (by omega) (Ev.neg (by omega) (Ev.pos (by omega) (js _ e hg))), Ev.neg (by omega) (Ev.neg (by omega) (Ev.pos (by omega) (ji _ e hg)))⟩
  · have hg : ¬ Good names mine next := fun h => c3 h.2.1.1
    exact ⟨Ev.neg (by omega) (Ev.neg (by omega) (Ev.neg (by omega) (js _ rfl hg))), Ev.neg (by omega) (Ev.neg (by omega) (Ev.neg (by omega) (ji _ rfl hg)))⟩

/-! The law's helpers on a board -/
/-- A board whose size is held. -/
structure Small (names : List ByteArray) (mine : List Bool) (next : List (List Int)) : Prop where
  n1 : names.length ≤ 1048576
  n2 : ∀ x ∈ names, x.size ≤ 1048576
  m1 : mine.length ≤ 1048576
  x1 : next.length ≤ 1048576
  x2 : ∀ x ∈ next, x.length ≤ 1048576
theorem szBoard_ev (names : List ByteArray) (mine : List Bool) (next : List (List Int)) (a : Int) (h0 : 0 ≤ a) (h1 : a ≤ 1048576) (b1 : names.length ≤ 9223372036854775807) (b2 : ∀ x ∈ names, x.size ≤ 140737488351232) (b3 : mine.length ≤ 9223372036854775807) (b4 : next.length ≤ 9223372036854775807) (b5 : ∀ x ∈ next, x.length ≤ 9223372036854775807) :
    ∃ r, Ev (fun k => laws_szBoard.f k names mine next a) r ∧ (¬ r < 0 → r ≤ a ∧ Small names mine next) := by
  unfold laws_szBoard.f; obtain ⟨r1, e1, f1⟩ := szStringS_ev names a h0 h1 b1 b2; by_cases c1 : r1 < 0
  · exact ⟨-1, Ev.bnd e1 (Ev.pos c1 (Ev.some rfl)), fun h => absurd (by decide) h⟩
  obtain ⟨g1, g2, g3⟩ := f1 c1; obtain ⟨r2, e2, f2⟩ := szBoolS_eq mine r1 b3 (by omega) (by omega); by_cases c2 : r2 < 0
  · exact ⟨-1, Ev.bnd e1 (Ev.neg c1 (Ev.bnd0 e2 (Ev.pos c2 (Ev.some rfl)))), fun h => absurd (by decide) h⟩
  obtain ⟨g4, g5⟩ := f2 c2; obtain ⟨r3, e3, f3⟩ := szIntSS_ev next r2 (by omega) (by omega) b4 b5; by_cases c3 : r3 < 0
  · exact ⟨-1, Ev.bnd e1 (Ev.neg c1 (Ev.bnd0 e2 (Ev.neg c2 (Ev.bnd e3 (Ev.pos c3 (Ev.some rfl)))))), fun h => absurd (by decide) h⟩
  obtain ⟨g6, g7, g8⟩ := f3 c3; exact ⟨r3, Ev.bnd e1 (Ev.neg c1 (Ev.bnd0 e2 (Ev.neg c2 (Ev.bnd e3 (Ev.neg c3 (Ev.some rfl)))))), fun _ => ⟨by omega, g2, g3, by omega, g7, g8⟩⟩
theorem toBoard_ev {names : List ByteArray} {mine : List Bool} {next : List (List Int)} (h : Small names mine next) : Ev (fun k => laws_toBoard.f k names mine next) (names, mine, next) := by
  unfold laws_toBoard.f; exact Ev.bnd (toStringS_ev _ h.n1) (Ev.bnd (toBoolS_ev _ h.m1) (Ev.bnd (toIntSS_ev _ h.x1 h.x2) (Ev.some rfl)))
theorem eqBoard_ev {names : List ByteArray} {mine : List Bool} {next : List (List Int)} (h : Small names mine next) : Ev (fun k => laws_eqBoard.f k names mine next names mine next) true := by
  unfold laws_eqBoard.f; exact Ev.bnd (eqStringS_ev _ h.n1) (Ev.pos rfl (Ev.bnd (eqBoolS_ev _ h.m1) (Ev.pos rfl (Ev.bnd (eqIntSS_ev _ h.x1 h.x2) (Ev.pos rfl (Ev.some rfl))))))
end Go.Proofs.YtdihodboopeakaaDoor.Pure
/-
Own text: what a good wish is, which places it aims at and which it shuns, to the program and to the reference.
-/
namespace Go.Proofs.YtdihodboopeakaaDoor.Pure
open Go.RowKit Go.Proofs.YtdihodboopeakaaDoorW.PrintWords Go.Proofs.YtdihodboopeakaaDoorW.PrintLast Go.Proofs.YtdihodboopeakaaDoor.Pr Go.Proofs.YtdihodboopeakaaDoor.EvKit
open Classical

theorem text_eq (a b : ByteArray) : a.toList = b.toList ↔ a = b := by
  constructor
  · intro h
    rw [Lib.toList_data, Lib.toList_data] at h; exact ByteArray.ext (Array.toList_inj.1 h)
  · intro h; rw [h]
theorem succ_w2 (i : Nat) (h : i ≤ 1048576) : wrap64 ((i : Int) + 1) = ((i + 1 : Nat) : Int) := by rw [wrap64_id (by omega) (by omega)]; omega
theorem drop_get {α : Type} (l : List α) (i : Nat) (d : α) (h : i < l.length) : l.drop i = l.getD i d :: l.drop (i + 1) := by
  rw [List.drop_eq_getElem_cons h]
  congr 1
  simp [List.getD_eq_getElem?_getD, List.getElem?_eq_getElem h]
theorem mem_drop_step {α : Type} (l : List α) (i : Nat) (d s : α) (h : i < l.length) : s ∈ l.drop i ↔ s = l.getD i d ∨ s ∈ l.drop (i + 1) := by rw [drop_get l i d h]; exact List.mem_cons
theorem l22In_l0 (l : List ByteArray) (s : ByteArray) (hl : l.length ≤ 1048576) (d : Nat) : ∀ i : Nat, i + d = l.length → Ev (fun k => spec_l22In.l0 k s l l.length i) (decide (s ∈ l.drop i)) := by
  induction d with
  | zero =>
    intro i hi; apply Ev.succ; rw [List.drop_of_length_le (by omega)]; simp only [spec_l22In.l0, show ¬ ((i : Int) < (l.length : Int)) by omega, if_false]; exact Ev.some (decide_eq_false (by simp)).symm
  | succ d ih =>
    intro i hi; apply Ev.succ; have hm := mem_drop_step l i ByteArray.empty s (by omega); have e : rdOf ByteArray.empty l (i : Int) = l.getD i ByteArray.empty := rfl; simp only [spec_l22In.l0, show ((i : Int) < (l.length : Int)) by omega, show (0 : Int) ≤ (i : Int) by omega, if_true, e, text_eq, succ_w2 i (by omega)]; by_cases c : l.getD i ByteArray.empty = s
    · exact Ev.pos c (Ev.some (decide_eq_true (hm.2 (Or.inl c.symm))).symm)
    · refine Ev.neg c (Ev.eq (ih (i + 1) (by omega)) (decide_eq_decide.2 ⟨fun h => hm.2 (Or.inr h), fun h => (hm.1 h).elim (fun h => absurd h.symm c) id⟩))
theorem l22In_ev (l : List ByteArray) (s : ByteArray) (hl : l.length ≤ 1048576) : Ev (fun k => spec_l22In.f k l s) (decide (s ∈ l)) := by
  unfold spec_l22In.f
  simpa using l22In_l0 l s hl l.length 0 (by omega)
theorem contains_l0 (l : List ByteArray) (s : ByteArray) (hl : l.length ≤ 1048576) (d : Nat) : ∀ i : Nat, i + d = l.length → ∃ r : Int, Ev (fun k => slices_Index_string_string.l0 k l s l.length i) r ∧ (r ≥ 0 ↔ s ∈ l.drop i) := by
  induction d with
  | zero =>
    intro i hi; refine ⟨-1, ?_, ?_⟩
    · apply Ev.succ
      simp only [slices_Index_string_string.l0, show ¬ ((i : Int) < (l.length : Int)) by omega, if_false]; exact Ev.some rfl
    · rw [List.drop_of_length_le (by omega)]
      simp
  | succ d ih =>
    intro i hi; have hm := mem_drop_step l i ByteArray.empty s (by omega); have e : rdOf ByteArray.empty l (i : Int) = l.getD i ByteArray.empty := rfl; by_cases c : s = l.getD i ByteArray.empty
    · refine ⟨i, ?_, ⟨fun _ => hm.2 (Or.inl c), fun _ => by omega⟩⟩
      apply Ev.succ; simp only [slices_Index_string_string.l0, show ((i : Int) < (l.length : Int)) by omega, show (0 : Int) ≤ (i : Int) by omega, if_true, e, text_eq]; exact Ev.pos c (Ev.some rfl)
    · obtain ⟨r, h1, h2⟩ := ih (i + 1) (by omega)
      refine ⟨r, ?_, ⟨fun h => hm.2 (Or.inr (h2.1 h)), fun h => h2.2 ((hm.1 h).elim (fun h => absurd h c) id)⟩⟩; apply Ev.succ; simp only [slices_Index_string_string.l0, show ((i : Int) < (l.length : Int)) by omega, show (0 : Int) ≤ (i : Int) by omega, if_true, e, text_eq, succ_w2 i (by omega)]; exact Ev.neg c h1
theorem contains_ev (l : List ByteArray) (s : ByteArray) (hl : l.length ≤ 1048576) : Ev (fun k => slices_Contains_string_string.f k l s) (decide (s ∈ l)) := by
  unfold slices_Contains_string_string.f slices_Index_string_string.f; obtain ⟨r, h1, h2⟩ := contains_l0 l s hl l.length 0 (by omega); exact Ev.bnd (by simpa using h1) (Ev.some (decide_eq_decide.2 (by simpa using h2)))
/-! A wish -/
def NamesFrom (l : List ByteArray) (i : Nat) : Prop := From l.length i fun j => NameOk (l.getD j ByteArray.empty) ∧ l.getD j ByteArray.empty ∉ l.take j
def ListOk (l : List ByteArray) : Prop := l.length ≤ 6 ∧ NamesFrom l 0
def WishOk (reach avoid : List ByteArray) : Prop := ListOk reach ∧ ListOk avoid
theorem l22Names_l0 (l : List ByteArray) (hl : l.length ≤ 6) (hs : ∀ x ∈ l, x.size ≤ 1048576) (d : Nat) : ∀ i : Nat, i + d = l.length → Ev (fun k => spec_l22Names.l0 k l l l.length i) (decide (NamesFrom l i)) := by
  induction d with
  | zero =>
    intro i hi; apply Ev.succ; simp only [spec_l22Names.l0, show ¬ ((i : Int) < (l.length : Int)) by omega, if_false]; exact Ev.some (decide_eq_true (From.end_ (by omega))).symm
  | succ d ih =>
    intro i hi; apply Ev.succ; have hsz : (l.getD i ByteArray.empty).size ≤ 1000000000 := Nat.le_trans (hs _ (getD_mem l i _ (by omega))) (by decide); have e : rdOf ByteArray.empty l (i : Int) = l.getD i ByteArray.empty := rfl; have hstep := From.step (C := fun j => NameOk (l.getD j ByteArray.empty) ∧ l.getD j ByteArray.empty ∉ l.take j) (n := l.length) (i := i) (by omega); simp only [spec_l22Names.l0, show ((i : Int) < (l.length : Int)) by omega, show (0 : Int) ≤ (i : Int) by omega, if_true, e, show ((i : Int) ≤ (l.length : Int)) by omega, Int.toNat_natCast, succ_w2 i (by omega)]; refine Ev.bnd (l22Name_ev _ hsz) ?_; by_cases c : NameOk (l.getD i ByteArray.empty)
    · refine Ev.pos (decide_eq_true c) (Ev.bnd (l22In_ev _ _ (by rw [List.length_take]; omega)) ?_)
      by_cases c2 : l.getD i ByteArray.empty ∈ l.take i
      · exact Ev.pos (decide_eq_true c2) (Ev.some (decide_eq_false (fun h => (hstep.1 h).1.2 c2)).symm)
      · exact Ev.neg (by simpa using c2) (Ev.eq (ih (i + 1) (by omega)) (decide_eq_decide.2 ⟨fun h => hstep.2 ⟨⟨c, c2⟩, h⟩, fun h => (hstep.1 h).2⟩))
    · exact Ev.neg (by simpa using c) (Ev.some (decide_eq_false (fun h => c (hstep.1 h).1.1)).symm)
theorem l22Names_ev (l : List ByteArray) (hs : ∀ x ∈ l, x.size ≤ 1048576) : Ev (fun k => spec_l22Names.f k l) (decide (ListOk l)) := by
  unfold spec_l22Names.f; by_cases c : l.length ≤ 6
  · refine Ev.neg (by omega) (Ev.eq (l22Names_l0 l c hs l.length 0 (by omega)) (decide_eq_decide.2 ⟨fun h => ⟨c, h⟩, fun h => h.2⟩))
  · exact Ev.pos (by omega) (Ev.some (decide_eq_false (fun h => c h.1)).symm)
theorem l22Good_ev (reach avoid : List ByteArray) (h1 : ∀ x ∈ reach, x.size ≤ 1048576) (h2 : ∀ x ∈ avoid, x.size ≤ 1048576) : Ev (fun k => spec_l22Good.f k reach avoid) (decide (WishOk reach avoid)) := by
  unfold spec_l22Good.f; refine Ev.bnd (l22Names_ev reach h1) ?_; by_cases c : ListOk reach
  · exact Ev.pos (decide_eq_true c) (Ev.bnd (l22Names_ev avoid h2) (Ev.some (decide_eq_decide.2 ⟨fun h => ⟨c, h⟩, fun h => h.2⟩)))
  · exact Ev.neg (by simpa using c) (Ev.some (decide_eq_false (fun h => c h.1)).symm)
theorem inB_eq (l : List ByteArray) (s : ByteArray) : inB l s = decide (s ∈ l) := by
  rw [Bool.eq_iff_iff]; unfold inB; rw [List.any_eq_true]; simp only [decide_eq_true_eq]; exact ⟨fun ⟨x, h1, h2⟩ => (text_eq x s).1 h2 ▸ h1, fun h => ⟨s, h, rfl⟩⟩
theorem gwFrom_eq (l : List ByteArray) (d : Nat) : d ≤ l.length → gwFrom l d = decide (NamesFrom l (l.length - d)) := by
  induction d with
  | zero => intro _; exact (decide_eq_true (From.end_ (by omega))).symm
  | succ d ih =>
    intro hd; have hstep := From.step (C := fun j => NameOk (l.getD j ByteArray.empty) ∧ l.getD j ByteArray.empty ∉ l.take j) (n := l.length) (i := l.length - (d + 1)) (by omega); unfold gwFrom; rw [ih (by omega), inB_eq, show l.length - d = l.length - (d + 1) + 1 by omega, Bool.eq_iff_iff]; simp only [Bool.and_eq_true, Bool.not_eq_true', decide_eq_false_iff_not, decide_eq_true_eq, nameB]; exact hstep.symm
theorem gwB_eq (l : List ByteArray) : gwB l = decide (ListOk l) := by
  unfold gwB; rw [gwFrom_eq l l.length (Nat.le_refl _), Nat.sub_self, Bool.eq_iff_iff]; simp only [Bool.and_eq_true, decide_eq_true_eq]; exact Iff.rfl
theorem goodWish_eq (reach avoid : List ByteArray) (a1 : reach.length ≤ 1048576) (h1 : ∀ x ∈ reach, x.size ≤ 1048576) (a2 : avoid.length ≤ 1048576) (h2 : ∀ x ∈ avoid, x.size ≤ 1048576) : impl_goodWish.f reach avoid = some (decide (WishOk reach avoid)) := by
  have ok (l : List ByteArray) (a : l.length ≤ 1048576) (h : ∀ x ∈ l, x.size ≤ 1048576) : okT l = true := by
    unfold okT; rw [decide_eq_true a, Bool.true_and, List.all_eq_true]; (exact fun x hx => decide_eq_true (h x hx))
  unfold impl_goodWish.f; rw [if_pos (ok reach a1 h1), if_pos (ok avoid a2 h2), gwB_eq, gwB_eq]
  congr 1
  rw [Bool.eq_iff_iff]; simp only [Bool.and_eq_true, decide_eq_true_eq]; exact Iff.rfl
section
variable (names : List ByteArray) (mine : List Bool) (next : List (List Int)) (reach avoid : List ByteArray)
/-- The name of a place. -/
def nm (at_ : Int) : ByteArray := names.getD at_.toNat ByteArray.empty
theorem shuns_ev (ha : avoid.length ≤ 1048576) (i : Int) (h0 : 0 ≤ i) (h1 : i < names.length) : Ev (fun k => impl_Board_shuns.f k names mine next reach avoid i) (decide (nm names i ∈ avoid)) := by
  unfold impl_Board_shuns.f; exact Ev.pos h0 (Ev.pos h1 (Ev.bnd (contains_ev avoid _ ha) (Ev.some rfl)))
theorem aims_ev (hr : reach.length ≤ 1048576) (ha : avoid.length ≤ 1048576) (i : Int) (h0 : 0 ≤ i) (h1 : i < names.length) : Ev (fun k => impl_Board_aims.f k names mine next reach avoid i) (decide (nm names i ∈ reach ∧ nm names i ∉ avoid)) := by
  unfold impl_Board_aims.f; refine Ev.pos h0 (Ev.pos h1 (Ev.bnd (contains_ev reach _ hr) ?_)); have e : rdOf ByteArray.empty names i = nm names i := rfl; rw [e]; by_cases c : nm names i ∈ reach
  · refine Ev.pos (decide_eq_true c) (Ev.bnd (shuns_ev names mine next reach avoid ha i h0 h1) (Ev.some ?_))
    rw [Bool.eq_iff_iff]
    simp [c]
  · exact Ev.neg (by simpa using c) (Ev.some (decide_eq_false (fun h => c h.1)).symm)
end

/-! The law's helpers on a wish -/
structure SmallW (reach avoid : List ByteArray) : Prop where
  r1 : reach.length ≤ 1048576
  r2 : ∀ x ∈ reach, x.size ≤ 1048576
  a1 : avoid.length ≤ 1048576
  a2 : ∀ x ∈ avoid, x.size ≤ 1048576
theorem szWish_ev (reach avoid : List ByteArray) (a : Int) (h0 : 0 ≤ a) (h1 : a ≤ 1048576) (b1 : reach.length ≤ 9223372036854775807) (b2 : ∀ x ∈ reach, x.size ≤ 140737488351232) (b3 : avoid.length ≤ 9223372036854775807) (b4 : ∀ x ∈ avoid, x.size ≤ 140737488351232) :
    ∃ r, Ev (fun k => laws_szWish.f k reach avoid a) r ∧ (¬ r < 0 → r ≤ a ∧ SmallW reach avoid) := by
  unfold laws_szWish.f; obtain ⟨r1, e1, f1⟩ := szStringS_ev reach a h0 h1 b1 b2; by_cases c1 : r1 < 0
  · exact ⟨-1, Ev.bnd e1 (Ev.pos c1 (Ev.some rfl)), fun h => absurd (by decide) h⟩
  obtain ⟨g1, g2, g3⟩ := f1 c1; obtain ⟨r2, e2, f2⟩ := szStringS_ev avoid r1 (by omega) (by omega) b3 b4; by_cases c2 : r2 < 0
  · exact ⟨-1, Ev.bnd e1 (Ev.neg c1 (Ev.bnd e2 (Ev.pos c2 (Ev.some rfl)))), fun h => absurd (by decide) h⟩
  obtain ⟨g4, g5, g6⟩ := f2 c2; exact ⟨r2, Ev.bnd e1 (Ev.neg c1 (Ev.bnd e2 (Ev.neg c2 (Ev.some rfl)))), fun _ => ⟨by omega, g2, g3, g5, g6⟩⟩
theorem toWish_ev {reach avoid : List ByteArray} (h : SmallW reach avoid) : Ev (fun k => laws_toWish.f k reach avoid) (reach, avoid) := by
  unfold laws_toWish.f; exact Ev.bnd (toStringS_ev _ h.r1) (Ev.bnd (toStringS_ev _ h.a1) (Ev.some rfl))
theorem eqWish_ev {reach avoid : List ByteArray} (h : SmallW reach avoid) : Ev (fun k => laws_eqWish.f k reach avoid reach avoid) true := by
  unfold laws_eqWish.f; exact Ev.bnd (eqStringS_ev _ h.r1) (Ev.pos rfl (Ev.bnd (eqStringS_ev _ h.a1) (Ev.pos rfl (Ev.some rfl))))
end Go.Proofs.YtdihodboopeakaaDoor.Pure
/-
Own text: what is marked in a board and in a wish: the counts alone.
-/
namespace Go.Proofs.YtdihodboopeakaaDoor.Pure
open Go.RowKit Go.Proofs.YtdihodboopeakaaDoorW.PrintWords Go.Proofs.YtdihodboopeakaaDoorW.PrintLast Go.Proofs.YtdihodboopeakaaDoor.Pr Go.Proofs.YtdihodboopeakaaDoor.EvKit
set_option linter.unusedVariables false
theorem one_size (c : Int) : (strOfNums [c]).size = 1 := rfl
theorem markText_l0 (n : Nat) : ∀ (x : Int) (s : ByteArray), 0 ≤ x → x ≤ 9223372036854775807 → x < 10 ^ n → s.size + n ≤ 1000 → ∃ r, Ev (fun k => laws_markText.l0 k x s) r := by
  induction n with
  | zero =>
    intro x s h0 hx h1 h2; refine ⟨(⟨#[109]⟩ : ByteArray) ++ s, Ev.succ ?_⟩; simp only [laws_markText.l0, show ¬ (x > 0) by simp at h1; omega, if_false, show 1 + s.size ≤ 9223372036854775807 by omega, if_true]; exact Ev.some rfl
  | succ n ih =>
    intro x s h0 hx h1 h2; by_cases c : x > 0
    · have hd : 0 ≤ Int.tdiv x 10 ∧ Int.tdiv x 10 < 10 ^ n ∧ Int.tdiv x 10 ≤ 9223372036854775807 := by
        rw [Int.tdiv_eq_ediv_of_nonneg h0]; rw [Int.pow_succ] at h1; refine ⟨by omega, by omega, by omega⟩
      obtain ⟨r, hr⟩ := ih (Int.tdiv x 10) (strOfNums [(wrap64 (48 + (Int.tmod x 10))) % 256] ++ s) hd.1 hd.2.2 hd.2.1 (by rw [ByteArray.size_append, one_size]; omega); refine ⟨r, Ev.succ ?_⟩; simp only [laws_markText.l0, c, if_true, Option.bind_some, one_size, show 1 + s.size ≤ 9223372036854775807 by omega]; rw [wrap64_id (by omega) (by omega)]; exact hr
    · refine ⟨(⟨#[109]⟩ : ByteArray) ++ s, Ev.succ ?_⟩
      simp only [laws_markText.l0, c, if_false, show 1 + s.size ≤ 9223372036854775807 by omega, if_true]; exact Ev.some rfl
theorem markText_ev (a : Int) (h1 : a ≤ 9223372036854775807) : ∃ r, Ev (fun k => laws_markText.f k a) r := by
  unfold laws_markText.f; by_cases c : a ≤ 0
  · exact ⟨_, Ev.pos c (Ev.some rfl)⟩
  · obtain ⟨r, h⟩ := markText_l0 19 a ⟨#[]⟩ (by omega) (by omega) (by omega) (by show (0 : Nat) + 19 ≤ 1000; omega)
    exact ⟨r, Ev.neg c h⟩
theorem markStringS_l0 (n : Nat) (a : Int) (ha : 0 ≤ a) (han : a + n ≤ 9223372036854775806) (d : Nat) : ∀ (i : Nat) (l : List ByteArray), i + d = n → l.length = n → ∃ t : List ByteArray, t.length = n ∧ Ev (fun k => laws_markStringS.l0 k l (a + i) i) (a + n, t) := by
  induction d with
  | zero =>
    intro i l hi hl; refine ⟨l, hl, Ev.succ ?_⟩; simp only [laws_markStringS.l0, show ¬ ((i : Int) < (l.length : Int)) by omega, if_false]
    obtain rfl : i = n := by omega
    exact Ev.some rfl
  | succ d ih =>
    intro i l hi hl; obtain ⟨r, hr⟩ := markText_ev (a + i) (by omega); obtain ⟨t, ht, he⟩ := ih (i + 1) (l.set i r) (by omega) (by simpa using hl); refine ⟨t, ht, Ev.succ ?_⟩; simp only [laws_markStringS.l0, show ((i : Int) < (l.length : Int)) by omega, show (0 : Int) ≤ (i : Int) by omega, if_true, Int.toNat_natCast]; rw [show wrap64 ((i : Int) + 1) = ((i + 1 : Nat) : Int) by rw [wrap64_id (by omega) (by omega)]; omega, show wrap64 (a + (i : Int) + 1) = a + ((i + 1 : Nat) : Int) by rw [wrap64_id (by omega) (by omega)]; omega]; exact Ev.bnd hr he
theorem markStringS_ev (l : List ByteArray) (a : Int) (ha : 0 ≤ a) (han : a + l.length ≤ 9223372036854775806) : ∃ t, Ev (fun k => laws_markStringS.f k l a) (a + l.length, t) := by
  unfold laws_markStringS.f; obtain ⟨t, _, h⟩ := markStringS_l0 l.length a ha han l.length 0 l (by omega) rfl; exact ⟨t, by simpa using h⟩
theorem markBoolS_l0 (n : Nat) (a : Int) (ha : 0 ≤ a) (han : a + n ≤ 9223372036854775806) (d : Nat) : ∀ (i : Nat) (l : List Bool), i + d = n → l.length = n → ∃ t : List Bool, Ev (fun k => laws_markBoolS.l0 k l (a + i) i) (a + n, t) := by
  induction d with
  | zero =>
    intro i l hi hl; refine ⟨l, Ev.succ ?_⟩; simp only [laws_markBoolS.l0, show ¬ ((i : Int) < (l.length : Int)) by omega, if_false]
    obtain rfl : i = n := by omega
    exact Ev.some rfl
  | succ d ih =>
    intro i l hi hl; obtain ⟨t, he⟩ := ih (i + 1) (l.set i ((Int.tmod (a + i) 3) == 0)) (by omega) (by simpa using hl); refine ⟨t, Ev.succ ?_⟩; simp only [laws_markBoolS.l0, show ((i : Int) < (l.length : Int)) by omega, show (0 : Int) ≤ (i : Int) by omega, if_true, Int.toNat_natCast]; rw [show wrap64 ((i : Int) + 1) = ((i + 1 : Nat) : Int) by rw [wrap64_id (by omega) (by omega)]; omega, show wrap64 (a + (i : Int) + 1) = a + ((i + 1 : Nat) : Int) by rw [wrap64_id (by omega) (by omega)]; omega]; exact he
theorem markBoolS_ev (l : List Bool) (a : Int) (ha : 0 ≤ a) (han : a + l.length ≤ 9223372036854775806) : ∃ t, Ev (fun k => laws_markBoolS.f k l a) (a + l.length, t) := by
  unfold laws_markBoolS.f; obtain ⟨t, h⟩ := markBoolS_l0 l.length a ha han l.length 0 l (by omega) rfl; exact ⟨t, by simpa using h⟩
/-- The three rows of a board, marked one after the other. -/
theorem markBoard_parts {names : List ByteArray} {mine : List Bool} {next : List (List Int)} (h : Small names mine next) :
    ∃ (t0 : List ByteArray) (t1 : List Bool) (t2 : List (List Int)) (m0 m1 m2 : Int), Ev (fun k => laws_markStringS.f k names 1) (m0, t0) ∧ Ev (fun k => laws_markBoolS.f k mine m0) (m1, t1) ∧ Ev (fun k => laws_markIntSS.f k next m1) (m2, t2) ∧ 0 ≤ m2 ∧ m2 ≤ 1200000000000 := by
  have ht := tot_le next 1048576 h.x2; have h1 := h.n1; have h2 := h.m1; have h3 := h.x1; have h4 : tot next ≤ 1048576 * 1048576 := Nat.le_trans ht (Nat.mul_le_mul_right _ h3); obtain ⟨t0, e0⟩ := markStringS_ev names 1 (by omega) (by omega); obtain ⟨t1, e1⟩ := markBoolS_ev mine (1 + names.length) (by omega) (by omega); have e2 := markIntSS_ev next (1 + names.length + mine.length) (by omega) (by omega) h3; exact ⟨t0, t1, _, _, _, _, e0, e1, e2, by omega, by omega⟩
theorem markWish_ev {reach avoid : List ByteArray} (h : SmallW reach avoid) (a : Int) (h0 : 0 ≤ a) (h1 : a ≤ 1200000000000) :
    ∃ (t0 t1 : List ByteArray) (m : Int), Ev (fun k => laws_markWish.f k reach avoid a) (m, t0, t1) ∧ 0 ≤ m := by
  have g1 := h.r1; have g2 := h.a1; obtain ⟨t0, e0⟩ := markStringS_ev reach a h0 (by omega); obtain ⟨t1, e1⟩ := markStringS_ev avoid (a + reach.length) (by omega) (by omega); refine ⟨t0, t1, a + reach.length + avoid.length, ?_, by omega⟩; unfold laws_markWish.f; exact Ev.bnd e0 (Ev.bnd e1 (Ev.some rfl))
end Go.Proofs.YtdihodboopeakaaDoor.Pure
/-
Own text: after how many choices the wish is met: the program's and the reference's ranks are the same.
-/
namespace Go.Proofs.YtdihodboopeakaaDoor.Pure
open Go.RowKit Go.Proofs.YtdihodboopeakaaDoorW.PrintWords Go.Proofs.YtdihodboopeakaaDoorW.PrintLast Go.Proofs.YtdihodboopeakaaDoor.Pr Go.Proofs.YtdihodboopeakaaDoor.EvKit
open Classical

theorem if_congr_prop' {α : Sort _} {p q : Prop} [Decidable p] [Decidable q] {a b : α} (h : p ↔ q) : (if p then a else b) = (if q then a else b) := by
  by_cases c : p
  · rw [if_pos c, if_pos (h.1 c)]
  · rw [if_neg c, if_neg (fun d => c (h.2 d))]
def anyGe (r row : List Int) : Prop := ∃ p ∈ row, rd r p ≥ 0
def anyLt (r row : List Int) : Prop := ∃ p ∈ row, rd r p < 0
theorem anyGe_step (r row : List Int) (j : Nat) (h : j < row.length) : anyGe r (row.drop j) ↔ rd r (row.getD j 0) ≥ 0 ∨ anyGe r (row.drop (j + 1)) := by
  unfold anyGe; rw [drop_get row j 0 h]
  simp
theorem anyLt_step (r row : List Int) (j : Nat) (h : j < row.length) : anyLt r (row.drop j) ↔ rd r (row.getD j 0) < 0 ∨ anyLt r (row.drop (j + 1)) := by
  unfold anyLt; rw [drop_get row j 0 h]
  simp
theorem anyGe_nil (r : List Int) : ¬ anyGe r [] := by rintro ⟨p, h, _⟩; cases h
theorem anyLt_nil (r : List Int) : ¬ anyLt r [] := by rintro ⟨p, h, _⟩; cases h
section
variable (names : List ByteArray) (mine : List Bool) (next : List (List Int)) (reach avoid : List ByteArray)
def mn_ (i : Nat) : Bool := mine.getD i false
def nx (i : Nat) : List Int := next.getD i []
/-- A place is lost at these ranks. -/
def lose (r : List Int) (i : Nat) : Prop := ¬ rd r i < 0 ∧ nx next i ≠ [] ∧ ((mn_ mine i = true ∧ ¬ anyGe r (nx next i)) ∨ (mn_ mine i = false ∧ anyLt r (nx next i)))
noncomputable def sw1 (r : List Int) (i : Nat) : List Int := if lose mine next r i then r.set i (-1) else r
noncomputable def sw (r : List Int) (i : Nat) : Nat → List Int
  | 0 => r
  | d + 1 => sw (sw1 mine next r i) (i + 1) d
noncomputable def swc (r : List Int) (i : Nat) : Nat → Bool
  | 0 => false
  | d + 1 => decide (lose mine next r i) || swc (sw1 mine next r i) (i + 1) d
noncomputable def iter (n : Nat) : Nat → List Int → List Int
  | 0, r => r
  | m + 1, r => iter n m (sw mine next r 0 n)
theorem sw1_length (r : List Int) (i : Nat) : (sw1 mine next r i).length = r.length := by unfold sw1; split <;> simp
theorem sw_length (d : Nat) : ∀ (r : List Int) (i : Nat), (sw mine next r i d).length = r.length := by
  induction d with
  | zero => intro r i; rfl
  | succ d ih => intro r i; simp only [sw]; rw [ih, sw1_length]
theorem iter_length (n : Nat) (m : Nat) : ∀ r : List Int, (iter mine next n m r).length = r.length := by
  induction m with
  | zero => intro r; rfl
  | succ m ih => intro r; simp only [iter]; rw [ih, sw_length]
def cnt (r : List Int) : Nat := (r.filter fun x => decide (x ≥ 0)).length
theorem cnt_le (r : List Int) : cnt r ≤ r.length := List.length_filter_le _ _
theorem cnt_set (r : List Int) (i : Nat) (hi : i < r.length) (h : ¬ rd r i < 0) : cnt (r.set i (-1)) + 1 = cnt r := by
  (have e : rd r (i : Int) = r[i] := by unfold rd; simp [List.getD_eq_getElem?_getD, List.getElem?_eq_getElem hi]); rw [e] at h; clear e
  induction r generalizing i with
  | nil => simp at hi
  | cons a r ih =>
    cases i with
    | zero =>
      simp only [List.getElem_cons_zero] at h; simp only [List.set_cons_zero, cnt, List.filter_cons]; rw [if_neg (by decide), if_pos (by simpa using h)]
      simp
    | succ i =>
      simp only [List.getElem_cons_succ] at h; have := ih i (by simpa using hi) h; simp only [cnt, List.set_cons_succ, List.filter_cons] at this ⊢
      split <;> simp <;> omega
theorem sw1_cnt (r : List Int) (i : Nat) (hi : i < r.length) : (lose mine next r i → cnt (sw1 mine next r i) < cnt r) ∧ (¬ lose mine next r i → sw1 mine next r i = r) := by
  unfold sw1
  constructor
  · intro h
    rw [if_pos h]; have := cnt_set r i hi h.1
    omega
  · intro h; rw [if_neg h]
theorem sw_cnt (d : Nat) : ∀ (r : List Int) (i : Nat), i + d = r.length → cnt (sw mine next r i d) ≤ cnt r ∧ (swc mine next r i d = true → cnt (sw mine next r i d) < cnt r) ∧ (swc mine next r i d = false → sw mine next r i d = r) := by
  induction d with
  | zero => intro r i _; exact ⟨Nat.le_refl _, fun h => by simp [swc] at h, fun _ => rfl⟩
  | succ d ih =>
    intro r i hi; obtain ⟨c1, c2⟩ := sw1_cnt mine next r i (by omega); obtain ⟨a, b, c⟩ := ih (sw1 mine next r i) (i + 1) (by rw [sw1_length]; omega); simp only [sw, swc]; by_cases h : lose mine next r i
    · have := c1 h
      refine ⟨by omega, fun _ => by omega, fun h2 => ?_⟩; rw [decide_eq_true h] at h2
      simp at h2
    · have e := c2 h
      rw [e] at a b c ⊢; refine ⟨a, fun h2 => b (by simpa [h] using h2), fun h2 => c (by simpa [h] using h2)⟩
/-- A further sweep turns nothing once one has turned nothing. -/
theorem iter_fix (n : Nat) (m : Nat) (r : List Int) (h : sw mine next r 0 n = r) : iter mine next n m r = r := by
  induction m with
  | zero => rfl
  | succ m ih => simp only [iter]; rw [h]; exact ih

variable (hg : Good names mine next) (hb : Small names mine next) (hw : SmallW reach avoid)
include hg
theorem nx_mem (i : Nat) (hi : i < names.length) (p : Int) (hp : p ∈ nx next i) : 0 ≤ p ∧ p < names.length := by
  obtain ⟨j, hj, rfl⟩ := List.getElem_of_mem hp; have := ((hg.2.2 i (Nat.zero_le i) hi).2 j (Nat.zero_le j) hj).1; (have e : (next.getD i []).getD j 0 = (nx next i)[j] := by unfold nx; rw [List.getD_eq_getElem?_getD (l := next.getD i []), List.getElem?_eq_getElem (by exact hj)]; rfl); rw [e] at this; exact this
theorem nx_get (i : Nat) (hi : i < names.length) (j : Nat) (hj : j < (nx next i).length) : 0 ≤ (nx next i).getD j 0 ∧ (nx next i).getD j 0 < names.length :=
  nx_mem names mine next hg i hi _ (getD_mem _ j 0 hj)
theorem nx_len (i : Nat) (hi : i < names.length) : (nx next i).length ≤ 14 := by
  have := ((hg.2.2 i (Nat.zero_le i) hi).2).len; have h2 := hg.1.2; unfold nx
  omega

/-! Without Reach: the program -/
theorem wi_l3 (r : List Int) (hr : r.length = names.length) (i : Nat) (hi : i < names.length) (x8 : Bool) (res : List Int) (d : Nat) : ∀ (j : Nat) (x10 x11 : Bool), j + d = (nx next i).length →
    (((mn_ mine i = true ∧ ¬ (x10 = true ∨ anyGe r ((nx next i).drop j))) ∨ (mn_ mine i = false ∧ (x11 = true ∨ anyLt r ((nx next i).drop j)))) → Ev (fun k => impl_Board_wins.l2 k (r.set i (-1)) true names.length ((i + 1 : Nat) : Int) names mine next) res) →
    (¬ ((mn_ mine i = true ∧ ¬ (x10 = true ∨ anyGe r ((nx next i).drop j))) ∨ (mn_ mine i = false ∧ (x11 = true ∨ anyLt r ((nx next i).drop j)))) → Ev (fun k => impl_Board_wins.l2 k r x8 names.length ((i + 1 : Nat) : Int) names mine next) res) →
    Ev (fun k => impl_Board_wins.l3 k r x8 i x10 x11 names.length i (nx next i) (nx next i).length j names mine next) res := by
  have hn := hg.1.2; have hnl := nx_len names mine next hg i hi
  induction d with
  | zero =>
    intro j x10 x11 hj h1 h2; apply Ev.succ; rw [List.drop_of_length_le (by omega)] at h1 h2; have em : rdOf false mine (i : Int) = mn_ mine i := rfl; simp only [impl_Board_wins.l3, show ¬ ((j : Int) < ((nx next i).length : Int)) by omega, if_false, em, succ_w2 i (by omega), Int.toNat_natCast]; refine Ev.pos (by omega) (Ev.pos (by have := hg.2.1.1; omega) ?_); by_cases m : mn_ mine i = true
    · refine Ev.pos m ?_
      by_cases c : x10 = true
      · exact Ev.pos c (h2 (by simp [m, c]))
      · exact Ev.neg c (Ev.pos (by omega) (h1 (Or.inl ⟨m, fun h => h.elim c (anyGe_nil r)⟩)))
    · refine Ev.neg m ?_
      (have m' : mn_ mine i = false := by simpa using m); by_cases c : x11 = true
      · exact Ev.pos c (Ev.pos (by omega) (h1 (Or.inr ⟨m', Or.inl c⟩)))
      · exact Ev.neg c (h2 (fun h => h.elim (fun h => m h.1) (fun h => h.2.elim c (anyLt_nil r))))
  | succ d ih =>
    intro j x10 x11 hj h1 h2; apply Ev.succ; obtain ⟨g1, g2⟩ := nx_get names mine next hg i hi j (by omega); have e : rd (nx next i) (j : Int) = (nx next i).getD j 0 := rfl; have a1 := anyGe_step r (nx next i) j (by omega); have a2 := anyLt_step r (nx next i) j (by omega); simp only [impl_Board_wins.l3, show ((j : Int) < ((nx next i).length : Int)) by omega, show (0 : Int) ≤ (j : Int) by omega, if_true, e, g1, show (nx next i).getD j 0 < (r.length : Int) by omega, succ_w2 j (by omega)]
    have key (y10 y11 : Bool) (k1 : (x10 = true ∨ anyGe r ((nx next i).drop j)) ↔ (y10 = true ∨ anyGe r ((nx next i).drop (j + 1)))) (k2 : (x11 = true ∨ anyLt r ((nx next i).drop j)) ↔ (y11 = true ∨ anyLt r ((nx next i).drop (j + 1)))) :
        Ev (fun k => impl_Board_wins.l3 k r x8 i y10 y11 names.length i (nx next i) (nx next i).length ((j + 1 : Nat) : Int) names mine next) res :=
      ih (j + 1) y10 y11 (by omega) (fun h => h1 (by rw [k1, k2]; exact h)) (fun h => h2 (by rw [k1, k2]; exact h))
    by_cases c10 : x10 = true
    · refine Ev.pos c10 ?_
      by_cases c11 : x11 = true
      · exact Ev.pos c11 (key true true (by simp [c10]) (by simp [c11]))
      · exact Ev.neg c11 (key true _ (by simp [c10]) (by rw [a2]; simp [c11]))
    · refine Ev.neg c10 ?_
      by_cases c11 : x11 = true
      · exact Ev.pos c11 (key _ true (by rw [a1]; simp [c10]) (by simp [c11]))
      · exact Ev.neg c11 (key _ _ (by rw [a1]; simp [c10]) (by rw [a2]; simp [c11]))
theorem wi_l2 (res : List Int) (d : Nat) : ∀ (i : Nat) (r : List Int) (x8 : Bool), i + d = names.length → r.length = names.length →
    Ev (fun k => impl_Board_wins.l1 k (sw mine next r i d) (x8 || swc mine next r i d) names mine next) res → Ev (fun k => impl_Board_wins.l2 k r x8 names.length i names mine next) res := by
  have hn := hg.1.2; have hx := hg.2.1.2
  induction d with
  | zero =>
    intro i r x8 hi hr h; apply Ev.succ; simp only [impl_Board_wins.l2, show ¬ ((i : Int) < (names.length : Int)) by omega, if_false]
    simpa [sw, swc] using h
  | succ d ih =>
    intro i r x8 hi hr h; apply Ev.succ; simp only [sw, swc] at h; have e3 : rd_L3 next (i : Int) = nx next i := rfl; simp only [impl_Board_wins.l2, show ((i : Int) < (names.length : Int)) by omega, show (0 : Int) ≤ (i : Int) by omega, show ((i : Int) < (r.length : Int)) by omega, show ((i : Int) < (next.length : Int)) by omega, if_true, e3]
    have skip (x : Bool) (hx' : x = true) (hl : ¬ lose mine next r i) : Ev (fun k => impl_Board_wins.j3 k r x8 i names.length i x names mine next) res := by
      subst hx'; apply Ev.succ; simp only [impl_Board_wins.j3, if_true, succ_w2 i (by omega)]; refine ih (i + 1) r x8 (by omega) hr ?_; rw [show sw1 mine next r i = r by unfold sw1; rw [if_neg hl], decide_eq_false hl, Bool.false_or] at h; exact h
    by_cases c1 : rd r (i : Int) < 0
    · exact Ev.pos c1 (skip true rfl (fun h' => h'.1 c1))
    · refine Ev.neg c1 ?_
      by_cases c2 : nx next i = []
      · exact skip _ (by rw [c2]; rfl) (fun h' => h'.2.1 c2)
      · have hb0 : (((nx next i).length : Int) == 0) = false := by
          rw [beq_eq_false_iff_ne]; intro h0; exact c2 (List.eq_nil_of_length_eq_zero (by omega))
        rw [hb0]; apply Ev.succ; simp only [impl_Board_wins.j3, Bool.false_eq_true, if_false, e3]; refine Ev.pos (by omega) (Ev.pos (by omega) ?_); refine wi_l3 names mine next hg r hr i (by omega) x8 res (nx next i).length 0 false false (by omega) (fun hl => ?_) (fun hl => ?_)
        · have hl' : lose mine next r i := ⟨c1, c2, by simpa using hl⟩
          rw [show sw1 mine next r i = r.set i (-1) by unfold sw1; rw [if_pos hl'], decide_eq_true hl'] at h; refine ih (i + 1) _ true (by omega) (by simp [hr]) ?_
          simpa using h
        · have hl' : ¬ lose mine next r i := fun h' => hl (by simpa using h'.2.2)
          rw [show sw1 mine next r i = r by unfold sw1; rw [if_neg hl'], decide_eq_false hl', Bool.false_or] at h; exact ih (i + 1) r x8 (by omega) hr h
theorem wi_l1 (c : Nat) : ∀ (r : List Int) (m : Nat), cnt r ≤ c → cnt r ≤ m → r.length = names.length → Ev (fun k => impl_Board_wins.l1 k r true names mine next) (iter mine next names.length m r) := by
  induction c with
  | zero =>
    intro r m hc hm hr; obtain ⟨a, b, e⟩ := sw_cnt mine next names.length r 0 (by omega); apply Ev.succ; simp only [impl_Board_wins.l1, if_true, hr]
    have hs : swc mine next r 0 names.length = false := by
      cases h : swc mine next r 0 names.length with
      | false => rfl
      | true => have := b h; omega
    refine wi_l2 names mine next hg _ names.length 0 r false (by omega) hr ?_; rw [hs, e hs, iter_fix mine next names.length m r (e hs)]; apply Ev.succ; simp only [impl_Board_wins.l1, Bool.or_self, Bool.false_eq_true, if_false]; exact Ev.some rfl
  | succ c ih =>
    intro r m hc hm hr; obtain ⟨a, b, e⟩ := sw_cnt mine next names.length r 0 (by omega); apply Ev.succ; simp only [impl_Board_wins.l1, if_true, hr]; refine wi_l2 names mine next hg _ names.length 0 r false (by omega) hr ?_
    cases hs : swc mine next r 0 names.length with
    | false =>
      rw [e hs, iter_fix mine next names.length m r (e hs)]; apply Ev.succ; simp only [impl_Board_wins.l1, Bool.or_self, Bool.false_eq_true, if_false]; exact Ev.some rfl
    | true =>
      have hlt := b hs; obtain ⟨m', rfl⟩ : ∃ m', m = m' + 1 := ⟨m - 1, by omega⟩; simp only [iter, Bool.or_true]; exact ih _ m' (by omega) (by omega) (by rw [sw_length]; exact hr)
/-- The ranks at the beginning, without Reach: from the i-th on still 0. -/
noncomputable def ini (i : Nat) : List Int := (List.range names.length).map fun j => if j < i ∧ nm names (j : Int) ∈ avoid then -1 else 0
omit hg in
theorem ini_length (i : Nat) : (ini names avoid i).length = names.length := by simp [ini]
omit hg in
theorem ini_zero : ini names avoid 0 = List.replicate names.length 0 := by
  apply List.ext_getElem
  · simp [ini]
  · intro j h1 h2; simp [ini]
omit hg in
theorem ini_succ (i : Nat) (hi : i < names.length) : ini names avoid (i + 1) = if nm names (i : Int) ∈ avoid then (ini names avoid i).set i (-1) else ini names avoid i := by
  by_cases c : nm names (i : Int) ∈ avoid
  · rw [if_pos c]
    apply List.ext_getElem
    · simp [ini]
    · intro j h1 h2
      by_cases e : j = i
      · subst e; simp [ini, c]
      · rw [List.getElem_set_ne (fun h => e h.symm)]
        simp only [ini, List.getElem_map, List.getElem_range]; exact if_congr_prop' (by constructor <;> rintro ⟨a, b⟩ <;> exact ⟨by omega, b⟩)
  · rw [if_neg c]
    apply List.ext_getElem
    · simp [ini]
    · intro j h1 h2
      simp only [ini, List.getElem_map, List.getElem_range]; refine if_congr_prop' ⟨fun ⟨a, b⟩ => ⟨?_, b⟩, fun ⟨a, b⟩ => ⟨by omega, b⟩⟩; by_cases e : j = i
      · subst e; exact absurd b c
      · omega
end
end Go.Proofs.YtdihodboopeakaaDoor.Pure
/-
Own text: the ranks: the rest of the two programs.
-/
namespace Go.Proofs.YtdihodboopeakaaDoor.Pure
open Go.RowKit Go.Proofs.YtdihodboopeakaaDoorW.PrintWords Go.Proofs.YtdihodboopeakaaDoorW.PrintLast Go.Proofs.YtdihodboopeakaaDoor.Pr Go.Proofs.YtdihodboopeakaaDoor.EvKit
open Classical
set_option linter.unusedVariables false

section
variable (names : List ByteArray) (mine : List Bool) (next : List (List Int)) (reach avoid : List ByteArray)
variable (hg : Good names mine next) (hb : Small names mine next) (hw : SmallW reach avoid)
include hg hw
theorem wi_l0 (res : List Int) (h : Ev (fun k => impl_Board_wins.l1 k (ini names avoid names.length) true names mine next) res) (d : Nat) : ∀ i : Nat, i + d = names.length →
    Ev (fun k => impl_Board_wins.l0 k (ini names avoid i) names.length i names mine next reach avoid) res := by
  have hn := hg.1.2
  induction d with
  | zero =>
    intro i hi; apply Ev.succ
    obtain rfl : i = names.length := by omega
    simp only [impl_Board_wins.l0, Int.lt_irrefl, if_false]; exact h
  | succ d ih =>
    intro i hi; apply Ev.succ; simp only [impl_Board_wins.l0, show ((i : Int) < (names.length : Int)) by omega, if_true, show (0 : Int) ≤ (i : Int) by omega, ini_length, succ_w2 i (by omega), Int.toNat_natCast]; refine Ev.bnd (shuns_ev names mine next reach avoid hw.a1 i (by omega) (by omega)) ?_; have e := ini_succ names avoid i (by omega); have := ih (i + 1) (by omega); rw [e] at this; by_cases c : nm names (i : Int) ∈ avoid
    · rw [if_pos c] at this
      exact Ev.pos (decide_eq_true c) this
    · rw [if_neg c] at this
      exact Ev.neg (by simpa using c) this
theorem ws_l0 (res : List Int) (h : Ev (fun k => spec_l22Safe.l1 k (ini names avoid names.length) names.length 0 names mine next) res) (d : Nat) : ∀ i : Nat, i + d = names.length →
    Ev (fun k => spec_l22Safe.l0 k (ini names avoid i) names names.length i names mine next reach avoid) res := by
  have hn := hg.1.2
  induction d with
  | zero =>
    intro i hi; apply Ev.succ
    obtain rfl : i = names.length := by omega
    simp only [spec_l22Safe.l0, Int.lt_irrefl, if_false, ini_length]; exact h
  | succ d ih =>
    intro i hi; apply Ev.succ; simp only [spec_l22Safe.l0, show ((i : Int) < (names.length : Int)) by omega, if_true, show (0 : Int) ≤ (i : Int) by omega, ini_length, succ_w2 i (by omega), Int.toNat_natCast]; have en : rdOf ByteArray.empty names (i : Int) = nm names (i : Int) := rfl; rw [en]; refine Ev.bnd (l22In_ev avoid _ hw.a1) ?_; have e := ini_succ names avoid i (by omega); have := ih (i + 1) (by omega); rw [e] at this; by_cases c : nm names (i : Int) ∈ avoid
    · rw [if_pos c] at this
      exact Ev.pos (decide_eq_true c) this
    · rw [if_neg c] at this
      exact Ev.neg (by simpa using c) this
omit hw
/-! Without Reach: the reference -/
theorem ws_l3 (r : List Int) (hr : r.length = names.length) (t : Int) (i : Nat) (hi : i < names.length) (res : List Int) (d : Nat) : ∀ (j : Nat) (x10 x11 : Bool), j + d = (nx next i).length →
    (((mn_ mine i = true ∧ ¬ (x10 = true ∨ anyGe r ((nx next i).drop j))) ∨ (mn_ mine i = false ∧ (x11 = false ∨ anyLt r ((nx next i).drop j)))) → Ev (fun k => spec_l22Safe.l2 k (r.set i (-1)) names.length t names.length ((i + 1 : Nat) : Int) names mine next) res) →
    (¬ ((mn_ mine i = true ∧ ¬ (x10 = true ∨ anyGe r ((nx next i).drop j))) ∨ (mn_ mine i = false ∧ (x11 = false ∨ anyLt r ((nx next i).drop j)))) → Ev (fun k => spec_l22Safe.l2 k r names.length t names.length ((i + 1 : Nat) : Int) names mine next) res) →
    Ev (fun k => spec_l22Safe.l3 k r i x10 x11 names.length t names.length i (nx next i) (nx next i).length j names mine next) res := by
  have hn := hg.1.2; have hnl := nx_len names mine next hg i hi
  induction d with
  | zero =>
    intro j x10 x11 hj h1 h2; apply Ev.succ; rw [List.drop_of_length_le (by omega)] at h1 h2; have em : rdOf false mine (i : Int) = mn_ mine i := rfl; simp only [spec_l22Safe.l3, show ¬ ((j : Int) < ((nx next i).length : Int)) by omega, if_false, em, succ_w2 i (by omega), Int.toNat_natCast]; refine Ev.pos (by omega) (Ev.pos (by have := hg.2.1.1; omega) ?_); by_cases m : mn_ mine i = true
    · refine Ev.pos m ?_
      by_cases c : x10 = true
      · exact Ev.pos c (h2 (by simp [m, c]))
      · exact Ev.neg c (Ev.pos (by omega) (h1 (Or.inl ⟨m, fun h => h.elim c (anyGe_nil r)⟩)))
    · refine Ev.neg m ?_
      (have m' : mn_ mine i = false := by simpa using m); by_cases c : x11 = true
      · exact Ev.pos c (h2 (fun h => h.elim (fun h => m h.1) (fun h => h.2.elim (fun h => by rw [c] at h; cases h) (anyLt_nil r))))
      · exact Ev.neg c (Ev.pos (by omega) (h1 (Or.inr ⟨m', Or.inl (by simpa using c)⟩)))
  | succ d ih =>
    intro j x10 x11 hj h1 h2; apply Ev.succ; obtain ⟨g1, g2⟩ := nx_get names mine next hg i hi j (by omega); have e : rd (nx next i) (j : Int) = (nx next i).getD j 0 := rfl; have a1 := anyGe_step r (nx next i) j (by omega); have a2 := anyLt_step r (nx next i) j (by omega); simp only [spec_l22Safe.l3, show ((j : Int) < ((nx next i).length : Int)) by omega, show (0 : Int) ≤ (j : Int) by omega, if_true, e, g1, show (nx next i).getD j 0 < (r.length : Int) by omega, succ_w2 j (by omega)]
    have key (y10 y11 : Bool) (k1 : (x10 = true ∨ anyGe r ((nx next i).drop j)) ↔ (y10 = true ∨ anyGe r ((nx next i).drop (j + 1)))) (k2 : (x11 = false ∨ anyLt r ((nx next i).drop j)) ↔ (y11 = false ∨ anyLt r ((nx next i).drop (j + 1)))) :
        Ev (fun k => spec_l22Safe.l3 k r i y10 y11 names.length t names.length i (nx next i) (nx next i).length ((j + 1 : Nat) : Int) names mine next) res :=
      ih (j + 1) y10 y11 (by omega) (fun h => h1 (by rw [k1, k2]; exact h)) (fun h => h2 (by rw [k1, k2]; exact h))
    (have q1 : (decide (rd r ((nx next i).getD j 0) ≥ 0) = true ∨ anyGe r ((nx next i).drop (j + 1))) ↔ (rd r ((nx next i).getD j 0) ≥ 0 ∨ anyGe r ((nx next i).drop (j + 1))) := by rw [decide_eq_true_eq])
    have q2 : (decide (rd r ((nx next i).getD j 0) ≥ 0) = false ∨ anyLt r ((nx next i).drop (j + 1))) ↔ (rd r ((nx next i).getD j 0) < 0 ∨ anyLt r ((nx next i).drop (j + 1))) := by
      rw [decide_eq_false_iff_not]; exact ⟨fun h => h.elim (fun h => Or.inl (by omega)) Or.inr, fun h => h.elim (fun h => Or.inl (by omega)) Or.inr⟩
    by_cases c10 : x10 = true
    · refine Ev.pos c10 ?_
      by_cases c11 : x11 = true
      · exact Ev.pos c11 (key true _ (by simp [c10]) (by rw [a2, q2]; simp [c11]))
      · exact Ev.neg c11 (key true false (by simp [c10]) (by simp at c11; simp [c11]))
    · refine Ev.neg c10 ?_
      by_cases c11 : x11 = true
      · exact Ev.pos c11 (key _ _ (by rw [a1, q1]; simp [c10]) (by rw [a2, q2]; simp [c11]))
      · exact Ev.neg c11 (key _ false (by rw [a1, q1]; simp [c10]) (by simp at c11; simp [c11]))
theorem ws_l2 (t : Nat) (ht : t ≤ 100) (res : List Int) (d : Nat) : ∀ (i : Nat) (r : List Int), i + d = names.length → r.length = names.length →
    Ev (fun k => spec_l22Safe.l1 k (sw mine next r i d) names.length ((t + 1 : Nat) : Int) names mine next) res → Ev (fun k => spec_l22Safe.l2 k r names.length t names.length i names mine next) res := by
  have hn := hg.1.2; have hx := hg.2.1.2
  induction d with
  | zero =>
    intro i r hi hr h; apply Ev.succ; simp only [spec_l22Safe.l2, show ¬ ((i : Int) < (names.length : Int)) by omega, if_false, succ_w2 t (by omega)]
    simpa [sw] using h
  | succ d ih =>
    intro i r hi hr h; apply Ev.succ; simp only [sw] at h; have e3 : rd_L3 next (i : Int) = nx next i := rfl; simp only [spec_l22Safe.l2, show ((i : Int) < (names.length : Int)) by omega, show (0 : Int) ≤ (i : Int) by omega, show ((i : Int) < (r.length : Int)) by omega, show ((i : Int) < (next.length : Int)) by omega, if_true, e3]
    have skip (x : Bool) (hx' : x = true) (hl : ¬ lose mine next r i) : Ev (fun k => spec_l22Safe.j3 k r i names.length t names.length i x names mine next) res := by
      subst hx'; apply Ev.succ; simp only [spec_l22Safe.j3, if_true, succ_w2 i (by omega)]; refine ih (i + 1) r (by omega) hr ?_; rw [show sw1 mine next r i = r by unfold sw1; rw [if_neg hl]] at h; exact h
    by_cases c1 : rd r (i : Int) < 0
    · exact Ev.pos c1 (skip true rfl (fun h' => h'.1 c1))
    · refine Ev.neg c1 ?_
      by_cases c2 : nx next i = []
      · exact skip _ (by rw [c2]; rfl) (fun h' => h'.2.1 c2)
      · have hb0 : (((nx next i).length : Int) == 0) = false := by
          rw [beq_eq_false_iff_ne]; intro h0; exact c2 (List.eq_nil_of_length_eq_zero (by omega))
        rw [hb0]; apply Ev.succ; simp only [spec_l22Safe.j3, Bool.false_eq_true, if_false, e3]; refine Ev.pos (by omega) (Ev.pos (by omega) ?_); refine ws_l3 names mine next hg r hr t i (by omega) res (nx next i).length 0 false true (by omega) (fun hl => ?_) (fun hl => ?_)
        · have hl' : lose mine next r i := ⟨c1, c2, by simpa using hl⟩
          rw [show sw1 mine next r i = r.set i (-1) by unfold sw1; rw [if_pos hl']] at h; exact ih (i + 1) _ (by omega) (by simp [hr]) h
        · have hl' : ¬ lose mine next r i := fun h' => hl (by simpa using h'.2.2)
          rw [show sw1 mine next r i = r by unfold sw1; rw [if_neg hl']] at h; exact ih (i + 1) r (by omega) hr h
theorem ws_l1 (d : Nat) : ∀ (t : Nat) (r : List Int), t + d = names.length → r.length = names.length → Ev (fun k => spec_l22Safe.l1 k r names.length t names mine next) (iter mine next names.length d r) := by
  have hn := hg.1.2
  induction d with
  | zero =>
    intro t r ht hr; apply Ev.succ; simp only [spec_l22Safe.l1, show ¬ ((t : Int) < (names.length : Int)) by omega, if_false]; exact Ev.some rfl
  | succ d ih =>
    intro t r ht hr; apply Ev.succ; simp only [spec_l22Safe.l1, show ((t : Int) < (names.length : Int)) by omega, if_true, hr]; exact ws_l2 names mine next hg t (by omega) _ names.length 0 r (by omega) hr (ih (t + 1) _ (by omega) (by rw [sw_length]; exact hr))
end
/-- The ranks without Reach. -/
noncomputable def rankSafe (names : List ByteArray) (mine : List Bool) (next : List (List Int)) (avoid : List ByteArray) : List Int := iter mine next names.length names.length (ini names avoid names.length)

/-! With Reach -/
section
variable (names : List ByteArray) (mine : List Bool) (next : List (List Int)) (reach avoid : List ByteArray)
def aims (i : Nat) : Prop := nm names (i : Int) ∈ reach ∧ nm names (i : Int) ∉ avoid
noncomputable def ini2 (i : Nat) (z : List Int) : List Int := (List.range names.length).map fun j => if j < i then (if aims names reach avoid j then 0 else -1) else z.getD j 0
/-- A place is won in the next round. -/
def gain (r : List Int) (i : Nat) : Prop := rd r i < 0 ∧ nm names (i : Int) ∉ avoid ∧ nx next i ≠ [] ∧ ((mn_ mine i = true ∧ anyGe r (nx next i)) ∨ (mn_ mine i = false ∧ ¬ anyLt r (nx next i)))
noncomputable def upd (r : List Int) (k : Int) (i : Nat) : List Int := (List.range names.length).map fun j => if j < i ∧ gain names mine next avoid r j then k else r.getD j 0
noncomputable def rounds (m : Nat) : Nat → List Int → List Int
  | 0, r => r
  | d + 1, r => rounds (m + 1) d (upd names mine next avoid r (m : Int) names.length)
noncomputable def rankReach : List Int := rounds names mine next avoid 1 names.length (ini2 names reach avoid names.length [])
theorem ini2_length (i : Nat) (z : List Int) : (ini2 names reach avoid i z).length = names.length := by simp [ini2]
theorem upd_length (r : List Int) (k : Int) (i : Nat) : (upd names mine next avoid r k i).length = names.length := by simp [upd]
theorem ini2_zero (z : List Int) (hz : z.length = names.length) : ini2 names reach avoid 0 z = z := by
  apply List.ext_getElem
  · simp [ini2, hz]
  · intro j h1 h2; simp [ini2, List.getD_eq_getElem?_getD, List.getElem?_eq_getElem h2]
theorem ini2_succ (i : Nat) (hi : i < names.length) (z : List Int) (hz : z.length = names.length) : ini2 names reach avoid (i + 1) z = if aims names reach avoid i then ((ini2 names reach avoid i z).set i (-1)).set i 0 else (ini2 names reach avoid i z).set i (-1) := by
  by_cases c : aims names reach avoid i
  · rw [if_pos c]
    apply List.ext_getElem
    · simp [ini2]
    · intro j h1 h2
      by_cases e : j = i
      · subst e; simp [ini2, c]
      · rw [List.getElem_set_ne (fun h => e h.symm), List.getElem_set_ne (fun h => e h.symm)]
        simp only [ini2, List.getElem_map, List.getElem_range]; exact if_congr_prop' (by omega)
  · rw [if_neg c]
    apply List.ext_getElem
    · simp [ini2]
    · intro j h1 h2
      by_cases e : j = i
      · subst e; simp [ini2, c]
      · rw [List.getElem_set_ne (fun h => e h.symm)]
        simp only [ini2, List.getElem_map, List.getElem_range]; exact if_congr_prop' (by omega)
theorem ini2_all (z : List Int) : ini2 names reach avoid names.length z = ini2 names reach avoid names.length [] := by
  unfold ini2; apply List.map_congr_left; intro j hj; have := List.mem_range.1 hj; rw [if_pos this, if_pos this]
theorem upd_zero (r : List Int) (k : Int) (hr : r.length = names.length) : upd names mine next avoid r k 0 = r := by
  apply List.ext_getElem
  · simp [upd, hr]
  · intro j h1 h2; simp [upd, List.getD_eq_getElem?_getD, List.getElem?_eq_getElem h2]
theorem upd_succ (r : List Int) (k : Int) (i : Nat) (hi : i < names.length) : upd names mine next avoid r k (i + 1) = if gain names mine next avoid r i then (upd names mine next avoid r k i).set i k else upd names mine next avoid r k i := by
  by_cases c : gain names mine next avoid r i
  · rw [if_pos c]
    apply List.ext_getElem
    · simp [upd]
    · intro j h1 h2
      by_cases e : j = i
      · subst e; simp [upd, c]
      · rw [List.getElem_set_ne (fun h => e h.symm)]
        simp only [upd, List.getElem_map, List.getElem_range]; exact if_congr_prop' (by constructor <;> rintro ⟨a, b⟩ <;> exact ⟨by omega, b⟩)
  · rw [if_neg c]
    apply List.ext_getElem
    · simp [upd]
    · intro j h1 h2
      simp only [upd, List.getElem_map, List.getElem_range]; refine if_congr_prop' ⟨fun ⟨a, b⟩ => ⟨?_, b⟩, fun ⟨a, b⟩ => ⟨by omega, b⟩⟩; by_cases e : j = i
      · subst e; exact absurd b c
      · omega
end
end Go.Proofs.YtdihodboopeakaaDoor.Pure
/-
Own text: the ranks with Reach; both programs' ranks are the same.
-/
namespace Go.Proofs.YtdihodboopeakaaDoor.Pure
open Go.RowKit Go.Proofs.YtdihodboopeakaaDoorW.PrintWords Go.Proofs.YtdihodboopeakaaDoorW.PrintLast Go.Proofs.YtdihodboopeakaaDoor.Pr Go.Proofs.YtdihodboopeakaaDoor.EvKit
open Classical
set_option linter.unusedVariables false

section
variable (names : List ByteArray) (mine : List Bool) (next : List (List Int)) (reach avoid : List ByteArray)
variable (hg : Good names mine next) (hw : SmallW reach avoid)
include hg
/-! the program -/
theorem wr_l7 (r q : List Int) (hr : r.length = names.length) (hq : q.length = names.length) (k0 : Int) (i : Nat) (hi : i < names.length) (res : List Int) (d : Nat) : ∀ (j : Nat) (x10 x11 : Bool), j + d = (nx next i).length →
    (((mn_ mine i = true ∧ (x10 = true ∨ anyGe r ((nx next i).drop j))) ∨ (mn_ mine i = false ∧ ¬ (x11 = false ∨ anyLt r ((nx next i).drop j)))) → Ev (fun k => impl_Board_wins.l6 k names.length (q.set i k0) k0 r names.length ((i + 1 : Nat) : Int) names mine next reach avoid) res) →
    (¬ ((mn_ mine i = true ∧ (x10 = true ∨ anyGe r ((nx next i).drop j))) ∨ (mn_ mine i = false ∧ ¬ (x11 = false ∨ anyLt r ((nx next i).drop j)))) → Ev (fun k => impl_Board_wins.l6 k names.length q k0 r names.length ((i + 1 : Nat) : Int) names mine next reach avoid) res) →
    Ev (fun k => impl_Board_wins.l7 k names.length q k0 r i x10 x11 names.length i (nx next i) (nx next i).length j names mine next reach avoid) res := by
  have hn := hg.1.2; have hnl := nx_len names mine next hg i hi
  induction d with
  | zero =>
    intro j x10 x11 hj h1 h2; apply Ev.succ; rw [List.drop_of_length_le (by omega)] at h1 h2; have em : rdOf false mine (i : Int) = mn_ mine i := rfl; simp only [impl_Board_wins.l7, show ¬ ((j : Int) < ((nx next i).length : Int)) by omega, if_false, em, succ_w2 i (by omega), Int.toNat_natCast]; refine Ev.pos (by omega) (Ev.pos (by have := hg.2.1.1; omega) ?_); by_cases m : mn_ mine i = true
    · refine Ev.pos m ?_
      by_cases c : x10 = true
      · exact Ev.pos c (Ev.pos (by omega) (h1 (Or.inl ⟨m, Or.inl c⟩)))
      · exact Ev.neg c (h2 (fun h => h.elim (fun h => h.2.elim c (anyGe_nil r)) (fun h => by rw [m] at h; exact absurd h.1 (by decide))))
    · refine Ev.neg m ?_
      (have m' : mn_ mine i = false := by simpa using m); by_cases c : x11 = true
      · exact Ev.pos c (Ev.pos (by omega) (h1 (Or.inr ⟨m', fun h => h.elim (fun h => by rw [c] at h; cases h) (anyLt_nil r)⟩)))
      · exact Ev.neg c (h2 (fun h => h.elim (fun h => m h.1) (fun h => h.2 (Or.inl (by simpa using c)))))
  | succ d ih =>
    intro j x10 x11 hj h1 h2; apply Ev.succ; obtain ⟨g1, g2⟩ := nx_get names mine next hg i hi j (by omega); have e : rd (nx next i) (j : Int) = (nx next i).getD j 0 := rfl; have a1 := anyGe_step r (nx next i) j (by omega); have a2 := anyLt_step r (nx next i) j (by omega); simp only [impl_Board_wins.l7, show ((j : Int) < ((nx next i).length : Int)) by omega, show (0 : Int) ≤ (j : Int) by omega, if_true, e, g1, show (nx next i).getD j 0 < (r.length : Int) by omega, succ_w2 j (by omega)]
    have key (y10 y11 : Bool) (k1 : (x10 = true ∨ anyGe r ((nx next i).drop j)) ↔ (y10 = true ∨ anyGe r ((nx next i).drop (j + 1)))) (k2 : (x11 = false ∨ anyLt r ((nx next i).drop j)) ↔ (y11 = false ∨ anyLt r ((nx next i).drop (j + 1)))) :
        Ev (fun k => impl_Board_wins.l7 k names.length q k0 r i y10 y11 names.length i (nx next i) (nx next i).length ((j + 1 : Nat) : Int) names mine next reach avoid) res :=
      ih (j + 1) y10 y11 (by omega) (fun h => h1 (by rw [k1, k2]; exact h)) (fun h => h2 (by rw [k1, k2]; exact h))
    (have q1 : (decide (rd r ((nx next i).getD j 0) ≥ 0) = true ∨ anyGe r ((nx next i).drop (j + 1))) ↔ (rd r ((nx next i).getD j 0) ≥ 0 ∨ anyGe r ((nx next i).drop (j + 1))) := by rw [decide_eq_true_eq])
    have q2 : (decide (rd r ((nx next i).getD j 0) ≥ 0) = false ∨ anyLt r ((nx next i).drop (j + 1))) ↔ (rd r ((nx next i).getD j 0) < 0 ∨ anyLt r ((nx next i).drop (j + 1))) := by
      rw [decide_eq_false_iff_not]; exact ⟨fun h => h.elim (fun h => Or.inl (by omega)) Or.inr, fun h => h.elim (fun h => Or.inl (by omega)) Or.inr⟩
    by_cases c10 : x10 = true
    · refine Ev.pos c10 ?_
      by_cases c11 : x11 = true
      · exact Ev.pos c11 (key true _ (by simp [c10]) (by rw [a2, q2]; simp [c11]))
      · exact Ev.neg c11 (key true false (by simp [c10]) (by simp at c11; simp [c11]))
    · refine Ev.neg c10 ?_
      by_cases c11 : x11 = true
      · exact Ev.pos c11 (key _ _ (by rw [a1, q1]; simp [c10]) (by rw [a2, q2]; simp [c11]))
      · exact Ev.neg c11 (key _ false (by rw [a1, q1]; simp [c10]) (by simp at c11; simp [c11]))
include hw
theorem wr_l6 (r : List Int) (hr : r.length = names.length) (m : Nat) (hm : m ≤ 100) (res : List Int)
    (h : Ev (fun k => impl_Board_wins.l5 k names.length (upd names mine next avoid r m names.length) ((m + 1 : Nat) : Int) names mine next reach avoid) res) (d : Nat) : ∀ i : Nat, i + d = names.length →
    Ev (fun k => impl_Board_wins.l6 k names.length (upd names mine next avoid r m i) m r names.length i names mine next reach avoid) res := by
  have hn := hg.1.2; have hx := hg.2.1.2
  induction d with
  | zero =>
    intro i hi; apply Ev.succ
    obtain rfl : i = names.length := by omega
    simp only [impl_Board_wins.l6, Int.lt_irrefl, if_false, succ_w2 m (by omega)]; exact h
  | succ d ih =>
    intro i hi; apply Ev.succ; have ihi := ih (i + 1) (by omega); rw [upd_succ names mine next avoid r m i (by omega)] at ihi; have e3 : rd_L3 next (i : Int) = nx next i := rfl; simp only [impl_Board_wins.l6, show ((i : Int) < (names.length : Int)) by omega, show (0 : Int) ≤ (i : Int) by omega, show ((i : Int) < (r.length : Int)) by omega, show ((i : Int) < (next.length : Int)) by omega, if_true, e3]
    have skip (x : Bool) (hx' : x = true) (hl : ¬ gain names mine next avoid r i) : Ev (fun k => impl_Board_wins.j8 k names.length (upd names mine next avoid r m i) m r i names.length i x names mine next reach avoid) res := by
      subst hx'; apply Ev.succ; simp only [impl_Board_wins.j8, if_true, succ_w2 i (by omega)]; rw [if_neg hl] at ihi; exact ihi
    by_cases c1 : rd r (i : Int) ≥ 0
    · exact Ev.pos c1 (skip true rfl (fun h' => by have := h'.1; omega))
    · refine Ev.neg c1 (Ev.bnd (shuns_ev names mine next reach avoid hw.a1 i (by omega) (by omega)) ?_)
      by_cases c0 : nm names (i : Int) ∈ avoid
      · exact Ev.pos (decide_eq_true c0) (skip true rfl (fun h' => h'.2.1 c0))
      refine Ev.neg (by simpa using c0) ?_; by_cases c2 : nx next i = []
      · exact skip _ (by rw [c2]; rfl) (fun h' => h'.2.2.1 c2)
      · have hb0 : (((nx next i).length : Int) == 0) = false := by
          rw [beq_eq_false_iff_ne]; intro h0; exact c2 (List.eq_nil_of_length_eq_zero (by omega))
        rw [hb0]; apply Ev.succ; simp only [impl_Board_wins.j8, Bool.false_eq_true, if_false, e3]; refine Ev.pos (by omega) (Ev.pos (by omega) ?_); refine wr_l7 names mine next reach avoid hg r _ hr (upd_length names mine next avoid r m i) m i (by omega) res (nx next i).length 0 false true (by omega) (fun hl => ?_) (fun hl => ?_)
        · have hl' : gain names mine next avoid r i := ⟨by omega, c0, c2, by simpa using hl⟩
          rw [if_pos hl'] at ihi; exact ihi
        · have hl' : ¬ gain names mine next avoid r i := fun h' => hl (by simpa using h'.2.2.2)
          rw [if_neg hl'] at ihi; exact ihi
theorem wr_l5 (d : Nat) : ∀ (m : Nat) (r : List Int), m + d = names.length + 1 → r.length = names.length → Ev (fun k => impl_Board_wins.l5 k names.length r m names mine next reach avoid) (rounds names mine next avoid m d r) := by
  have hn := hg.1.2
  induction d with
  | zero =>
    intro m r hm hr; apply Ev.succ; simp only [impl_Board_wins.l5, show ¬ ((m : Int) ≤ (names.length : Int)) by omega, if_false]; exact Ev.some rfl
  | succ d ih =>
    intro m r hm hr; apply Ev.succ; simp only [impl_Board_wins.l5, show ((m : Int) ≤ (names.length : Int)) by omega, if_true]; refine Ev.bnd0 (show slices_Clone_int_int.f r = some r by unfold slices_Clone_int_int.f; rw [if_pos (by omega)]) ?_; rw [hr]; have := wr_l6 names mine next reach avoid hg hw r hr m (by omega) _ (ih (m + 1) _ (by omega) (upd_length names mine next avoid r m names.length)) names.length 0 (by omega); rw [upd_zero names mine next avoid r m hr] at this; exact this
theorem wr_l4 (z : List Int) (hz : z.length = names.length) (res : List Int) (h : Ev (fun k => impl_Board_wins.l5 k names.length (ini2 names reach avoid names.length z) 1 names mine next reach avoid) res) (d : Nat) : ∀ i : Nat, i + d = names.length →
    Ev (fun k => impl_Board_wins.l4 k names.length (ini2 names reach avoid i z) names.length i names mine next reach avoid) res := by
  have hn := hg.1.2
  induction d with
  | zero =>
    intro i hi; apply Ev.succ
    obtain rfl : i = names.length := by omega
    simp only [impl_Board_wins.l4, Int.lt_irrefl, if_false]; exact h
  | succ d ih =>
    intro i hi; apply Ev.succ; have ihi := ih (i + 1) (by omega); rw [ini2_succ names reach avoid i (by omega) z hz] at ihi; simp only [impl_Board_wins.l4, show ((i : Int) < (names.length : Int)) by omega, show (0 : Int) ≤ (i : Int) by omega, if_true, ini2_length, succ_w2 i (by omega), Int.toNat_natCast, Option.bind_some]; refine Ev.bnd (aims_ev names mine next reach avoid hw.r1 hw.a1 i (by omega) (by omega)) ?_; by_cases c : aims names reach avoid i
    · rw [if_pos c] at ihi
      exact Ev.pos (decide_eq_true c) ihi
    · rw [if_neg c] at ihi
      exact Ev.neg (by simpa [aims] using c) ihi
/-! the reference -/
omit hw
noncomputable def gained (r : List Int) (i : Nat) : List Int := ((List.range i).filter fun j => decide (gain names mine next avoid r j)).map fun (j : Nat) => (j : Int)
omit hg in
theorem gained_succ (r : List Int) (i : Nat) : gained names mine next avoid r (i + 1) = if gain names mine next avoid r i then gained names mine next avoid r i ++ [(i : Int)] else gained names mine next avoid r i := by
  unfold gained; rw [List.range_succ, List.filter_append, List.map_append]; by_cases c : gain names mine next avoid r i
  · rw [if_pos c]; simp [c]
  · rw [if_neg c]; simp [c]
omit hg in
theorem gained_len (r : List Int) (i : Nat) : (gained names mine next avoid r i).length ≤ i := by
  unfold gained; rw [List.length_map]; have := List.length_filter_le (fun j => decide (gain names mine next avoid r j)) (List.range i); rw [List.length_range] at this; exact this
theorem wq_l3 (r mo : List Int) (hr : r.length = names.length) (hmo : mo.length ≤ 100) (k0 : Int) (i : Nat) (hi : i < names.length) (res : List Int) (d : Nat) : ∀ (j : Nat) (x10 x11 : Bool), j + d = (nx next i).length →
    (((mn_ mine i = true ∧ (x10 = true ∨ anyGe r ((nx next i).drop j))) ∨ (mn_ mine i = false ∧ ¬ (x11 = false ∨ anyLt r ((nx next i).drop j)))) → Ev (fun k => spec_l22Ranks.l2 k names.length r k0 (mo ++ [(i : Int)]) names.length ((i + 1 : Nat) : Int) names mine next reach avoid) res) →
    (¬ ((mn_ mine i = true ∧ (x10 = true ∨ anyGe r ((nx next i).drop j))) ∨ (mn_ mine i = false ∧ ¬ (x11 = false ∨ anyLt r ((nx next i).drop j)))) → Ev (fun k => spec_l22Ranks.l2 k names.length r k0 mo names.length ((i + 1 : Nat) : Int) names mine next reach avoid) res) →
    Ev (fun k => spec_l22Ranks.l3 k names.length r k0 mo i x10 x11 names.length i (nx next i) (nx next i).length j names mine next reach avoid) res := by
  have hn := hg.1.2; have hnl := nx_len names mine next hg i hi
  induction d with
  | zero =>
    intro j x10 x11 hj h1 h2; apply Ev.succ; rw [List.drop_of_length_le (by omega)] at h1 h2; have em : rdOf false mine (i : Int) = mn_ mine i := rfl; simp only [spec_l22Ranks.l3, show ¬ ((j : Int) < ((nx next i).length : Int)) by omega, if_false, em, succ_w2 i (by omega), show mo.length < 17592186044416 by omega, if_true]; refine Ev.pos (by omega) (Ev.pos (by have := hg.2.1.1; omega) ?_); by_cases m : mn_ mine i = true
    · refine Ev.pos m ?_
      by_cases c : x10 = true
      · exact Ev.pos c (h1 (Or.inl ⟨m, Or.inl c⟩))
      · exact Ev.neg c (h2 (fun h => h.elim (fun h => h.2.elim c (anyGe_nil r)) (fun h => by rw [m] at h; exact absurd h.1 (by decide))))
    · refine Ev.neg m ?_
      (have m' : mn_ mine i = false := by simpa using m); by_cases c : x11 = true
      · exact Ev.pos c (h1 (Or.inr ⟨m', fun h => h.elim (fun h => by rw [c] at h; cases h) (anyLt_nil r)⟩))
      · exact Ev.neg c (h2 (fun h => h.elim (fun h => m h.1) (fun h => h.2 (Or.inl (by simpa using c)))))
  | succ d ih =>
    intro j x10 x11 hj h1 h2; apply Ev.succ; obtain ⟨g1, g2⟩ := nx_get names mine next hg i hi j (by omega); have e : rd (nx next i) (j : Int) = (nx next i).getD j 0 := rfl; have a1 := anyGe_step r (nx next i) j (by omega); have a2 := anyLt_step r (nx next i) j (by omega); simp only [spec_l22Ranks.l3, show ((j : Int) < ((nx next i).length : Int)) by omega, show (0 : Int) ≤ (j : Int) by omega, if_true, e, g1, show (nx next i).getD j 0 < (r.length : Int) by omega, succ_w2 j (by omega)]
    have key (y10 y11 : Bool) (k1 : (x10 = true ∨ anyGe r ((nx next i).drop j)) ↔ (y10 = true ∨ anyGe r ((nx next i).drop (j + 1)))) (k2 : (x11 = false ∨ anyLt r ((nx next i).drop j)) ↔ (y11 = false ∨ anyLt r ((nx next i).drop (j + 1)))) :
        Ev (fun k => spec_l22Ranks.l3 k names.length r k0 mo i y10 y11 names.length i (nx next i) (nx next i).length ((j + 1 : Nat) : Int) names mine next reach avoid) res :=
      ih (j + 1) y10 y11 (by omega) (fun h => h1 (by rw [k1, k2]; exact h)) (fun h => h2 (by rw [k1, k2]; exact h))
    (have q1 : (decide (rd r ((nx next i).getD j 0) ≥ 0) = true ∨ anyGe r ((nx next i).drop (j + 1))) ↔ (rd r ((nx next i).getD j 0) ≥ 0 ∨ anyGe r ((nx next i).drop (j + 1))) := by rw [decide_eq_true_eq])
    have q2 : (decide (rd r ((nx next i).getD j 0) ≥ 0) = false ∨ anyLt r ((nx next i).drop (j + 1))) ↔ (rd r ((nx next i).getD j 0) < 0 ∨ anyLt r ((nx next i).drop (j + 1))) := by
      rw [decide_eq_false_iff_not]; exact ⟨fun h => h.elim (fun h => Or.inl (by omega)) Or.inr, fun h => h.elim (fun h => Or.inl (by omega)) Or.inr⟩
    by_cases c10 : x10 = true
    · refine Ev.pos c10 ?_
      by_cases c11 : x11 = true
      · exact Ev.pos c11 (key true _ (by simp [c10]) (by rw [a2, q2]; simp [c11]))
      · exact Ev.neg c11 (key true false (by simp [c10]) (by simp at c11; simp [c11]))
    · refine Ev.neg c10 ?_
      by_cases c11 : x11 = true
      · exact Ev.pos c11 (key _ _ (by rw [a1, q1]; simp [c10]) (by rw [a2, q2]; simp [c11]))
      · exact Ev.neg c11 (key _ false (by rw [a1, q1]; simp [c10]) (by simp at c11; simp [c11]))
/-- Setting all of a list of places. -/
def setAll (k0 : Int) (r : List Int) (l : List Int) : List Int := l.foldl (fun r i => r.set i.toNat k0) r
omit hg in
theorem setAll_length (k0 : Int) (l : List Int) : ∀ r : List Int, (setAll k0 r l).length = r.length := by
  induction l with
  | nil => intro r; rfl
  | cons a l ih => intro r; show (setAll k0 (r.set a.toNat k0) l).length = _; rw [ih]; simp
omit hg in
theorem setAll_get (k0 : Int) (l : List Int) (hl : ∀ a ∈ l, 0 ≤ a) : ∀ (r : List Int) (j : Nat), j < r.length → (setAll k0 r l).getD j 0 = if (j : Int) ∈ l then k0 else r.getD j 0 := by
  induction l with
  | nil => intro r j hj; simp [setAll]
  | cons a l ih =>
    intro r j hj
    show (setAll k0 (r.set a.toNat k0) l).getD j 0 = _
    rw [ih (fun x hx => hl x (by simp [hx])) _ j (by simpa using hj)]; have ha := hl a (by simp); by_cases c : (j : Int) ∈ l
    · rw [if_pos c, if_pos (by simp [c])]
    · rw [if_neg c]
      by_cases e : (j : Int) = a
      · subst e
        rw [if_pos (by simp)]
        simp [List.getD_eq_getElem?_getD, hj]
      · rw [if_neg (by simp [c, e])]
        (have : a.toNat ≠ j := by omega)
        simp [List.getD_eq_getElem?_getD, List.getElem?_set_ne this]
omit hg in
theorem setAll_upd (r : List Int) (hr : r.length = names.length) (k0 : Int) : setAll k0 r (gained names mine next avoid r names.length) = upd names mine next avoid r k0 names.length := by
  have h0 : ∀ a ∈ gained names mine next avoid r names.length, 0 ≤ a := by
    intro a ha; obtain ⟨j, _, rfl⟩ := List.mem_map.1 ha
    omega
  apply List.ext_getElem
  · rw [setAll_length, upd_length, hr]
  · intro j h1 h2
    (have hj : j < r.length := by rw [setAll_length] at h1; exact h1); have e := setAll_get k0 _ h0 r j hj; rw [List.getD_eq_getElem?_getD, List.getElem?_eq_getElem h1, Option.getD_some] at e; rw [e]; simp only [upd, List.getElem_map, List.getElem_range]; refine if_congr_prop' ?_; unfold gained; rw [List.mem_map]
    constructor
    · rintro ⟨x, hx, e2⟩
      obtain rfl : x = j := by omega
      rw [List.mem_filter, decide_eq_true_eq, List.mem_range] at hx; exact hx
    · intro h
      exact ⟨j, by rw [List.mem_filter, decide_eq_true_eq, List.mem_range]; exact h, rfl⟩
omit hg in
theorem wq_l4 (hn : names.length ≤ 14) (m : Nat) (hm : m ≤ 100) (L : List Int) (hL : ∀ a ∈ L, 0 ≤ a ∧ a < names.length) (hLl : L.length ≤ 100) (res : List Int) (d : Nat) : ∀ (i : Nat) (r : List Int), i + d = L.length → r.length = names.length →
    Ev (fun k => spec_l22Ranks.l1 k names.length (setAll m r (L.drop i)) ((m + 1 : Nat) : Int) names mine next reach avoid) res → Ev (fun k => spec_l22Ranks.l4 k names.length r m L L.length i names mine next reach avoid) res := by
  induction d with
  | zero =>
    intro i r hi hr h; apply Ev.succ; rw [List.drop_of_length_le (by omega)] at h; simp only [spec_l22Ranks.l4, show ¬ ((i : Int) < (L.length : Int)) by omega, if_false, succ_w2 m (by omega)]; exact h
  | succ d ih =>
    intro i r hi hr h; apply Ev.succ; rw [drop_get L i 0 (by omega)] at h; have e : rd L (i : Int) = L.getD i 0 := rfl; obtain ⟨g1, g2⟩ := hL (L.getD i 0) (getD_mem L i 0 (by omega)); simp only [spec_l22Ranks.l4, show ((i : Int) < (L.length : Int)) by omega, show (0 : Int) ≤ (i : Int) by omega, if_true, e, g1, show L.getD i 0 < (r.length : Int) by omega, succ_w2 i (by omega)]; exact ih (i + 1) _ (by omega) (by simp [hr]) h
include hw
theorem wq_l2 (r : List Int) (hr : r.length = names.length) (m : Nat) (hm : m ≤ 100) (res : List Int)
    (h : Ev (fun k => spec_l22Ranks.l1 k names.length (upd names mine next avoid r m names.length) ((m + 1 : Nat) : Int) names mine next reach avoid) res) (d : Nat) : ∀ i : Nat, i + d = names.length →
    Ev (fun k => spec_l22Ranks.l2 k names.length r m (gained names mine next avoid r i) names.length i names mine next reach avoid) res := by
  have hn := hg.1.2; have hx := hg.2.1.2
  induction d with
  | zero =>
    intro i hi; apply Ev.succ
    obtain rfl : i = names.length := by omega
    simp only [spec_l22Ranks.l2, Int.lt_irrefl, if_false]; rw [← setAll_upd names mine next avoid r hr m] at h; have hl := gained_len names mine next avoid r names.length
    have := wq_l4 names mine next reach avoid hn m hm (gained names mine next avoid r names.length) (fun a ha => by
      obtain ⟨j, hj, rfl⟩ := List.mem_map.1 ha; rw [List.mem_filter, List.mem_range] at hj
      omega) (by omega) res (gained names mine next avoid r names.length).length 0 r (by omega) hr
    exact this (by simpa using h)
  | succ d ih =>
    intro i hi; apply Ev.succ; have ihi := ih (i + 1) (by omega); rw [gained_succ names mine next avoid r i] at ihi; have hl := gained_len names mine next avoid r i; have e3 : rd_L3 next (i : Int) = nx next i := rfl; have en : rdOf ByteArray.empty names (i : Int) = nm names (i : Int) := rfl; simp only [spec_l22Ranks.l2, show ((i : Int) < (names.length : Int)) by omega, show (0 : Int) ≤ (i : Int) by omega, show ((i : Int) < (r.length : Int)) by omega, show ((i : Int) < (next.length : Int)) by omega, if_true, e3, en]
    have skip (x : Bool) (hx' : x = true) (hl' : ¬ gain names mine next avoid r i) : Ev (fun k => spec_l22Ranks.j3 k names.length r m (gained names mine next avoid r i) i names.length i x names mine next reach avoid) res := by
      subst hx'; apply Ev.succ; simp only [spec_l22Ranks.j3, if_true, succ_w2 i (by omega)]; rw [if_neg hl'] at ihi; exact ihi
    by_cases c1 : rd r (i : Int) ≥ 0
    · exact Ev.pos c1 (skip true rfl (fun h' => by have := h'.1; omega))
    · refine Ev.neg c1 (Ev.bnd (l22In_ev avoid _ hw.a1) ?_)
      by_cases c0 : nm names (i : Int) ∈ avoid
      · exact Ev.pos (decide_eq_true c0) (skip true rfl (fun h' => h'.2.1 c0))
      refine Ev.neg (by simpa using c0) ?_; by_cases c2 : nx next i = []
      · exact skip _ (by rw [c2]; rfl) (fun h' => h'.2.2.1 c2)
      · have hb0 : (((nx next i).length : Int) == 0) = false := by
          rw [beq_eq_false_iff_ne]; intro h0; exact c2 (List.eq_nil_of_length_eq_zero (by omega))
        rw [hb0]; apply Ev.succ; simp only [spec_l22Ranks.j3, Bool.false_eq_true, if_false, e3]; refine Ev.pos (by omega) (Ev.pos (by omega) ?_); refine wq_l3 names mine next reach avoid hg r _ hr (by omega) m i (by omega) res (nx next i).length 0 false true (by omega) (fun hl2 => ?_) (fun hl2 => ?_)
        · have hl' : gain names mine next avoid r i := ⟨by omega, c0, c2, by simpa using hl2⟩
          rw [if_pos hl'] at ihi; exact ihi
        · have hl' : ¬ gain names mine next avoid r i := fun h' => hl2 (by simpa using h'.2.2.2)
          rw [if_neg hl'] at ihi; exact ihi
theorem wq_l1 (d : Nat) : ∀ (m : Nat) (r : List Int), m + d = names.length + 1 → r.length = names.length → Ev (fun k => spec_l22Ranks.l1 k names.length r m names mine next reach avoid) (rounds names mine next avoid m d r) := by
  have hn := hg.1.2
  induction d with
  | zero =>
    intro m r hm hr; apply Ev.succ; simp only [spec_l22Ranks.l1, show ¬ ((m : Int) ≤ (names.length : Int)) by omega, if_false]; exact Ev.some rfl
  | succ d ih =>
    intro m r hm hr; apply Ev.succ; simp only [spec_l22Ranks.l1, show ((m : Int) ≤ (names.length : Int)) by omega, if_true, hr]; have := wq_l2 names mine next reach avoid hg hw r hr m (by omega) _ (ih (m + 1) _ (by omega) (upd_length names mine next avoid r m names.length)) names.length 0 (by omega); have e : gained names mine next avoid r 0 = [] := rfl; rw [e] at this; exact this
theorem wq_l0 (z : List Int) (hz : z.length = names.length) (res : List Int) (h : Ev (fun k => spec_l22Ranks.l1 k names.length (ini2 names reach avoid names.length z) 1 names mine next reach avoid) res) (d : Nat) : ∀ i : Nat, i + d = names.length →
    Ev (fun k => spec_l22Ranks.l0 k names.length (ini2 names reach avoid i z) names names.length i names mine next reach avoid) res := by
  have hn := hg.1.2
  induction d with
  | zero =>
    intro i hi; apply Ev.succ
    obtain rfl : i = names.length := by omega
    simp only [spec_l22Ranks.l0, Int.lt_irrefl, if_false]; exact h
  | succ d ih =>
    intro i hi; apply Ev.succ; have ihi := ih (i + 1) (by omega); rw [ini2_succ names reach avoid i (by omega) z hz] at ihi; have en : rdOf ByteArray.empty names (i : Int) = nm names (i : Int) := rfl; simp only [spec_l22Ranks.l0, show ((i : Int) < (names.length : Int)) by omega, show (0 : Int) ≤ (i : Int) by omega, if_true, ini2_length, succ_w2 i (by omega), Int.toNat_natCast, Option.bind_some, en]; refine Ev.bnd (l22In_ev reach _ hw.r1) ?_; by_cases c1 : nm names (i : Int) ∈ reach
    · refine Ev.pos (decide_eq_true c1) (Ev.bnd (l22In_ev avoid _ hw.a1) ?_)
      by_cases c2 : nm names (i : Int) ∈ avoid
      · rw [if_neg (fun h => h.2 c2)] at ihi
        exact Ev.pos (decide_eq_true c2) ihi
      · rw [if_pos ⟨c1, c2⟩] at ihi
        exact Ev.neg (by simpa using c2) ihi
    · rw [if_neg (fun h => c1 h.1)] at ihi
      exact Ev.neg (by simpa using c1) ihi
/-- The ranks. -/
noncomputable def ranks : List Int := if reach.length = 0 then rankSafe names mine next avoid else rankReach names mine next reach avoid
theorem ranks_both : Ev (fun k => impl_Board_wins.f k names mine next reach avoid) (ranks names mine next reach avoid) ∧ Ev (fun k => spec_l22Ranks.f k names mine next reach avoid) (ranks names mine next reach avoid) := by
  have hn := hg.1.2; unfold impl_Board_wins.f spec_l22Ranks.f ranks; (have e0 : ((names.length : Int)).toNat = names.length := by omega); rw [e0]; (have hrep : (List.replicate names.length (0 : Int)).length = names.length := by simp); by_cases c : reach.length = 0
  · rw [if_pos c]
    constructor
    · refine Ev.pos (by omega) (Ev.pos (by omega) ?_)
      simp only [Option.bind_some, hrep]; refine Ev.pos (by omega) ?_; have := wi_l0 names mine next reach avoid hg hw _ (wi_l1 names mine next hg names.length (ini names avoid names.length) names.length (by have := cnt_le (ini names avoid names.length); rw [ini_length] at this; exact this) (by have := cnt_le (ini names avoid names.length); rw [ini_length] at this; exact this) (ini_length names avoid _)) names.length 0 (by omega); rw [ini_zero] at this; exact this
    · refine Ev.pos (by omega) (Ev.pos (by omega) ?_)
      simp only [Option.bind_some]; refine Ev.pos (by omega) ?_; have := ws_l0 names mine next reach avoid hg hw _ (ws_l1 names mine next hg names.length 0 (ini names avoid names.length) (by omega) (ini_length names avoid _)) names.length 0 (by omega); rw [ini_zero] at this; refine Ev.bnd ?_ (Ev.some rfl); unfold spec_l22Safe.f; exact this
  · rw [if_neg c]
    constructor
    · refine Ev.pos (by omega) (Ev.pos (by omega) ?_)
      simp only [Option.bind_some, hrep]; refine Ev.neg (by omega) ?_; have := wr_l4 names mine next reach avoid hg hw (List.replicate names.length 0) hrep _ (wr_l5 names mine next reach avoid hg hw names.length 1 _ (by omega) (ini2_length names reach avoid _ _)) names.length 0 (by omega); rw [ini2_zero names reach avoid _ hrep, ini2_all] at this; exact this
    · refine Ev.pos (by omega) (Ev.pos (by omega) ?_)
      simp only [Option.bind_some]; refine Ev.neg (by omega) ?_; have := wq_l0 names mine next reach avoid hg hw (List.replicate names.length 0) hrep _ (wq_l1 names mine next reach avoid hg hw names.length 1 _ (by omega) (ini2_length names reach avoid _ _)) names.length 0 (by omega); rw [ini2_zero names reach avoid _ hrep, ini2_all] at this; exact this
end
end Go.Proofs.YtdihodboopeakaaDoor.Pure
/-
Own text: is a wish met along a path: the program and the reference.
-/
namespace Go.Proofs.YtdihodboopeakaaDoor.Pure
open Go.RowKit Go.Proofs.YtdihodboopeakaaDoorW.PrintWords Go.Proofs.YtdihodboopeakaaDoorW.PrintLast Go.Proofs.YtdihodboopeakaaDoor.Pr Go.Proofs.YtdihodboopeakaaDoor.EvKit
open Classical

/-- What is told of the places of a path from here on. -/
noncomputable def met (names : List ByteArray) (reach avoid : List ByteArray) : List Int → Bool × Bool
  | [] => (decide (reach.length = 0), true)
  | p :: ps => if nm names p ∈ avoid then (false, true) else if nm names p ∈ reach then (true, true) else met names reach avoid ps
section
variable (names : List ByteArray) (mine : List Bool) (next : List (List Int)) (reach avoid : List ByteArray) (path : List Int)
variable (hw : SmallW reach avoid) (hp : path.length ≤ 60)
include hw hp
end
end Go.Proofs.YtdihodboopeakaaDoor.Pure
/-
Own text: winning places, plans and plays: the program's and the reference's are the same.
-/
namespace Go.Proofs.YtdihodboopeakaaDoor.Pure
open Go.RowKit Go.Proofs.YtdihodboopeakaaDoorW.PrintWords Go.Proofs.YtdihodboopeakaaDoorW.PrintLast Go.Proofs.YtdihodboopeakaaDoor.Pr Go.Proofs.YtdihodboopeakaaDoor.EvKit
open Classical
set_option linter.unusedVariables false

/-! Winning places -/
section
variable (names : List ByteArray) (mine : List Bool) (next : List (List Int)) (reach avoid : List ByteArray)
theorem rounds_length (d : Nat) : ∀ (m : Nat) (r : List Int), r.length = names.length → (rounds names mine next avoid m d r).length = names.length := by
  induction d with
  | zero => intro m r h; exact h
  | succ d ih => intro m r h; exact ih _ _ (upd_length names mine next avoid r m names.length)
theorem ranks_length : (ranks names mine next reach avoid).length = names.length := by
  unfold ranks; by_cases c : reach.length = 0
  · rw [if_pos c]
    unfold rankSafe; rw [iter_length, ini_length]
  · rw [if_neg c]
    exact rounds_length names mine next avoid names.length 1 _ (ini2_length names reach avoid _ _)
variable (hb : Small names mine next) (hw : SmallW reach avoid)
include hb hw
omit hb hw

/-! Rank 0 is where the wish aims -/
def Zero (r : List Int) : Prop := ∀ i, i < names.length → (rd r (i : Int) = 0 ↔ aims names reach avoid i)
theorem upd_get (r : List Int) (k : Int) (i : Nat) (hi : i < names.length) : rd (upd names mine next avoid r k names.length) (i : Int) = if gain names mine next avoid r i then k else rd r (i : Int) := by
  unfold rd upd; rw [Int.toNat_natCast, List.getD_eq_getElem?_getD, List.getElem?_eq_getElem (by simpa using hi), Option.getD_some]; simp only [List.getElem_map, List.getElem_range]; exact if_congr_prop' ⟨fun h => h.2, fun h => ⟨hi, h⟩⟩
theorem zero_rounds (d : Nat) : ∀ (m : Nat) (r : List Int), 1 ≤ m → Zero names reach avoid r → Zero names reach avoid (rounds names mine next avoid m d r) := by
  induction d with
  | zero => intro m r _ h; exact h
  | succ d ih =>
    intro m r hm h; refine ih (m + 1) _ (by omega) (fun i hi => ?_); rw [upd_get names mine next avoid r m i hi]; by_cases c : gain names mine next avoid r i
    · rw [if_pos c]
      have := h i hi; have h2 := c.1
      constructor
      · intro h3; omega
      · intro h3; have := this.2 h3; omega
    · rw [if_neg c]; exact h i hi
theorem zero_rank (hr : reach.length ≠ 0) : Zero names reach avoid (ranks names mine next reach avoid) := by
  unfold ranks; rw [if_neg hr]; refine zero_rounds names mine next reach avoid _ 1 _ (Nat.le_refl 1) (fun i hi => ?_); unfold rd ini2; rw [Int.toNat_natCast, List.getD_eq_getElem?_getD, List.getElem?_eq_getElem (by simpa using hi), Option.getD_some]; simp only [List.getElem_map, List.getElem_range]; rw [if_pos hi]; by_cases c : aims names reach avoid i
  · simp [c]
  · simp [c]

/-! A plan -/
noncomputable def better (r : List Int) (b p : Int) : Int := if rd r p ≥ 0 ∧ (b < 0 ∨ rd r p < rd r b) then p else b
noncomputable def best (r : List Int) : Int → List Int → Int
  | b, [] => b
  | b, p :: ps => best r (better r b p) ps
noncomputable def planAt (r : List Int) (i : Nat) : Int := if mn_ mine i = true ∧ rd r (i : Int) ≥ 0 ∧ ¬ aims names reach avoid i then best r (-1) (nx next i) else -1
noncomputable def planTo (r : List Int) (i : Nat) : List Int := (List.range i).map (planAt names mine next reach avoid r)
theorem planTo_succ (r : List Int) (i : Nat) : planTo names mine next reach avoid r (i + 1) = planTo names mine next reach avoid r i ++ [planAt names mine next reach avoid r i] := by simp [planTo, List.range_succ]
theorem planTo_len (r : List Int) (i : Nat) : (planTo names mine next reach avoid r i).length = i := by simp [planTo]
variable (hg : Good names mine next)
include hg
theorem best_range (r : List Int) (i : Nat) (hi : i < names.length) (b : Int) (hb' : b = -1 ∨ (0 ≤ b ∧ b < names.length)) (p : Int) (hp : p ∈ nx next i) : better r b p = -1 ∨ (0 ≤ better r b p ∧ better r b p < names.length) := by
  unfold better
  split
  · exact Or.inr (nx_mem names mine next hg i hi p hp)
  · exact hb'
theorem st_l1 (r out : List Int) (hr : r.length = names.length) (ho : out.length ≤ 100) (i : Nat) (hi : i < names.length) (res : List Int × Bool) (d : Nat) : ∀ (j : Nat) (b : Int), j + d = (nx next i).length → (b = -1 ∨ (0 ≤ b ∧ b < names.length)) →
    Ev (fun k => impl_Strategy.l0 k r (out ++ [best r b ((nx next i).drop j)]) r names.length ((i + 1 : Nat) : Int) names mine next reach avoid) res →
    Ev (fun k => impl_Strategy.l1 k r out b r names.length i (nx next i) (nx next i).length j names mine next reach avoid) res := by
  have hn := hg.1.2; have hnl := nx_len names mine next hg i hi
  induction d with
  | zero =>
    intro j b hj hb' h; apply Ev.succ; rw [List.drop_of_length_le (by omega)] at h; simp only [impl_Strategy.l1, show ¬ ((j : Int) < ((nx next i).length : Int)) by omega, if_false, show out.length < 17592186044416 by omega, if_true, succ_w2 i (by omega)]; exact h
  | succ d ih =>
    intro j b hj hb' h; apply Ev.succ; obtain ⟨g1, g2⟩ := nx_get names mine next hg i hi j (by omega); have hm : (nx next i).getD j 0 ∈ nx next i := getD_mem _ j 0 (by omega); rw [drop_get (nx next i) j 0 (by omega)] at h; simp only [best] at h; have hbr := best_range names mine next hg r i hi b hb' _ hm; have ihj := ih (j + 1) _ (by omega) hbr h; have e : rd (nx next i) (j : Int) = (nx next i).getD j 0 := rfl; simp only [impl_Strategy.l1, show ((j : Int) < ((nx next i).length : Int)) by omega, show (0 : Int) ≤ (j : Int) by omega, if_true, e, g1, show (nx next i).getD j 0 < (r.length : Int) by omega, succ_w2 j (by omega)]; generalize (nx next i).getD j 0 = p at ihj g1 g2; by_cases c1 : rd r p ≥ 0
    · refine Ev.pos c1 ?_
      by_cases c2 : b < 0
      · rw [show better r b p = p by unfold better; rw [if_pos ⟨c1, Or.inl c2⟩]] at ihj
        exact Ev.pos c2 ihj
      · refine Ev.neg c2 (Ev.pos (by omega) (Ev.pos (by omega) ?_))
        by_cases c3 : rd r p < rd r b
        · rw [show better r b p = p by unfold better; rw [if_pos ⟨c1, Or.inr c3⟩]] at ihj
          exact Ev.pos c3 ihj
        · rw [show better r b p = b by unfold better; rw [if_neg (fun h => h.2.elim c2 c3)]] at ihj
          exact Ev.neg c3 ihj
    · rw [show better r b p = b by unfold better; rw [if_neg (fun h => c1 h.1)]] at ihj
      exact Ev.neg c1 ihj
theorem sq_l1 (r : List Int) (hr : r.length = names.length) (i : Nat) (hi : i < names.length) (res : List Int × Bool) (d : Nat) : ∀ (j : Nat) (out : List Int), j + d = (nx next i).length → out.length = names.length → (out.getD i 0 = -1 ∨ (0 ≤ out.getD i 0 ∧ out.getD i 0 < names.length)) →
    Ev (fun k => spec_Strategy.l0 k r (out.set i (best r (out.getD i 0) ((nx next i).drop j))) names.length ((i + 1 : Nat) : Int) names mine next reach avoid) res →
    Ev (fun k => spec_Strategy.l1 k r out i names.length i (nx next i) (nx next i).length j names mine next reach avoid) res := by
  have hn := hg.1.2; have hnl := nx_len names mine next hg i hi
  induction d with
  | zero =>
    intro j out hj ho hb' h; apply Ev.succ; rw [List.drop_of_length_le (by omega)] at h; simp only [best] at h
    have es : out.set i (out.getD i 0) = out := by
      apply List.ext_getElem
      · simp
      · intro q h1 h2
        by_cases e : q = i
        · subst e; simp [List.getD_eq_getElem?_getD, List.getElem?_eq_getElem h2]
        · rw [List.getElem_set_ne (fun h => e h.symm)]
    rw [es] at h; simp only [spec_Strategy.l1, show ¬ ((j : Int) < ((nx next i).length : Int)) by omega, if_false, succ_w2 i (by omega)]; exact h
  | succ d ih =>
    intro j out hj ho hb' h; apply Ev.succ; obtain ⟨g1, g2⟩ := nx_get names mine next hg i hi j (by omega); have hm : (nx next i).getD j 0 ∈ nx next i := getD_mem _ j 0 (by omega); rw [drop_get (nx next i) j 0 (by omega)] at h; simp only [best] at h; have hbr := best_range names mine next hg r i hi (out.getD i 0) hb' _ hm; have e : rd (nx next i) (j : Int) = (nx next i).getD j 0 := rfl; have eo : rd out (i : Int) = out.getD i 0 := rfl; simp only [spec_Strategy.l1, show ((j : Int) < ((nx next i).length : Int)) by omega, show (0 : Int) ≤ (j : Int) by omega, if_true, e, g1, show (nx next i).getD j 0 < (r.length : Int) by omega, succ_w2 j (by omega), Int.toNat_natCast, eo]; generalize (nx next i).getD j 0 = p at h g1 g2 hbr
    have keep (hk : better r (out.getD i 0) p = out.getD i 0) : Ev (fun k => spec_Strategy.l1 k r out i names.length i (nx next i) (nx next i).length ((j + 1 : Nat) : Int) names mine next reach avoid) res := by
      rw [hk] at h; exact ih (j + 1) out (by omega) ho hb' h
    have take_ (hk : better r (out.getD i 0) p = p) : Ev (fun k => spec_Strategy.l1 k r (out.set i p) i names.length i (nx next i) (nx next i).length ((j + 1 : Nat) : Int) names mine next reach avoid) res := by
      (have eg : (out.set i p).getD i 0 = p := by simp [List.getD_eq_getElem?_getD, show i < out.length by omega]); rw [hk] at h; refine ih (j + 1) (out.set i p) (by omega) (by simp [ho]) (by rw [eg]; exact Or.inr ⟨g1, g2⟩) ?_; rw [eg, List.set_set]; exact h
    by_cases c1 : rd r p ≥ 0
    · refine Ev.pos c1 (Ev.pos (by omega) (Ev.pos (by omega) ?_))
      by_cases c2 : out.getD i 0 < 0
      · exact Ev.pos c2 (take_ (by unfold better; rw [if_pos ⟨c1, Or.inl c2⟩]))
      · refine Ev.neg c2 (Ev.pos (by omega) (Ev.pos (by omega) ?_))
        by_cases c3 : rd r p < rd r (out.getD i 0)
        · exact Ev.pos c3 (take_ (by unfold better; rw [if_pos ⟨c1, Or.inr c3⟩]))
        · exact Ev.neg c3 (keep (by unfold better; rw [if_neg (fun h => h.2.elim c2 c3)]))
    · exact Ev.neg c1 (keep (by unfold better; rw [if_neg (fun h => c1 h.1)]))
include hw
theorem st_l0 (r : List Int) (hr : r.length = names.length) (d : Nat) : ∀ i : Nat, i + d = names.length →
    Ev (fun k => impl_Strategy.l0 k r (planTo names mine next reach avoid r i) r names.length i names mine next reach avoid) (planTo names mine next reach avoid r names.length, true) := by
  have hn := hg.1.2; have hx := hg.2.1.2; have hm := hg.2.1.1
  induction d with
  | zero =>
    intro i hi
    obtain rfl : i = names.length := by omega
    apply Ev.succ; simp only [impl_Strategy.l0, Int.lt_irrefl, if_false]; exact Ev.some rfl
  | succ d ih =>
    intro i hi; apply Ev.succ; have ihi := ih (i + 1) (by omega); rw [planTo_succ] at ihi; have hl := planTo_len names mine next reach avoid r i; have em : rdOf false mine (i : Int) = mn_ mine i := rfl; have e3 : rd_L3 next (i : Int) = nx next i := rfl; simp only [impl_Strategy.l0, show ((i : Int) < (names.length : Int)) by omega, show (0 : Int) ≤ (i : Int) by omega, show ((i : Int) < (r.length : Int)) by omega, show ((i : Int) < (mine.length : Int)) by omega, if_true, em]
    have no (x : Bool) (hx' : x = false) (h : ¬ (mn_ mine i = true ∧ rd r (i : Int) ≥ 0 ∧ ¬ aims names reach avoid i)) : Ev (fun k => impl_Strategy.j2 k r (planTo names mine next reach avoid r i) i (-1) r names.length i x names mine next reach avoid) (planTo names mine next reach avoid r names.length, true) := by
      subst hx'; rw [show planAt names mine next reach avoid r i = -1 from if_neg h] at ihi; apply Ev.succ; simp only [impl_Strategy.j2, Bool.false_eq_true, if_false, hl, show i < 17592186044416 by omega, if_true, succ_w2 i (by omega)]; exact ihi
    by_cases c1 : mn_ mine i = true
    · refine Ev.pos c1 ?_
      by_cases c2 : rd r (i : Int) ≥ 0
      · refine Ev.pos c2 (Ev.bnd (aims_ev names mine next reach avoid hw.r1 hw.a1 i (by omega) (by omega)) ?_)
        by_cases c3 : aims names reach avoid i
        · exact no _ (by simp [show (nm names (i : Int) ∈ reach ∧ nm names (i : Int) ∉ avoid) from c3]) (fun h => h.2.2 c3)
        · have ed : (!decide (nm names (i : Int) ∈ reach ∧ nm names (i : Int) ∉ avoid)) = true := by rw [decide_eq_false (show ¬ (nm names (i : Int) ∈ reach ∧ nm names (i : Int) ∉ avoid) from c3)]; rfl
          rw [ed]; apply Ev.succ; simp only [impl_Strategy.j2, if_true, e3]; refine Ev.pos (by omega) (Ev.pos (by omega) ?_); refine st_l1 names mine next reach avoid hg r _ hr (by omega) i (by omega) _ (nx next i).length 0 (-1) (by omega) (Or.inl rfl) ?_; rw [show planAt names mine next reach avoid r i = best r (-1) (nx next i) from if_pos ⟨c1, c2, c3⟩] at ihi
          simpa using ihi
      · exact Ev.neg c2 (no _ rfl (fun h => c2 h.2.1))
    · exact Ev.neg c1 (no _ rfl (fun h => c1 h.1))
omit hw
noncomputable def planOut (r : List Int) (i : Nat) : List Int := (List.range names.length).map fun j => if j < i then planAt names mine next reach avoid r j else 0
omit hg in
theorem planOut_len (r : List Int) (i : Nat) : (planOut names mine next reach avoid r i).length = names.length := by simp [planOut]
omit hg in
theorem planOut_succ (r : List Int) (i : Nat) (hi : i < names.length) : planOut names mine next reach avoid r (i + 1) = (planOut names mine next reach avoid r i).set i (planAt names mine next reach avoid r i) := by
  apply List.ext_getElem
  · simp [planOut]
  · intro j h1 h2
    by_cases e : j = i
    · subst e; simp [planOut]
    · rw [List.getElem_set_ne (fun h => e h.symm)]
      simp only [planOut, List.getElem_map, List.getElem_range]; exact if_congr_prop' (by omega)
theorem sq_l0 (r : List Int) (hr : r.length = names.length) (hz : reach.length ≠ 0 → Zero names reach avoid r) (d : Nat) : ∀ i : Nat, i + d = names.length →
    Ev (fun k => spec_Strategy.l0 k r (planOut names mine next reach avoid r i) names.length i names mine next reach avoid) (planTo names mine next reach avoid r names.length, true) := by
  have hn := hg.1.2; have hx := hg.2.1.2; have hm := hg.2.1.1
  induction d with
  | zero =>
    intro i hi
    obtain rfl : i = names.length := by omega
    apply Ev.succ; simp only [spec_Strategy.l0, Int.lt_irrefl, if_false]; refine Ev.some ?_
    congr 1
    apply List.ext_getElem
    · simp [planOut, planTo]
    · intro j h1 h2
      simp only [planOut, planTo, List.getElem_map, List.getElem_range]; rw [if_pos (by simpa [planOut] using h1)]
  | succ d ih =>
    intro i hi; apply Ev.succ; have ihi := ih (i + 1) (by omega); rw [planOut_succ names mine next reach avoid r i (by omega)] at ihi; have hl := planOut_len names mine next reach avoid r i; have em : rdOf false mine (i : Int) = mn_ mine i := rfl; have e3 : rd_L3 next (i : Int) = nx next i := rfl; simp only [spec_Strategy.l0, show ((i : Int) < (names.length : Int)) by omega, show (0 : Int) ≤ (i : Int) by omega, show ((i : Int) < (r.length : Int)) by omega, show ((i : Int) < (mine.length : Int)) by omega, if_true, em, hl, Option.bind_some, Int.toNat_natCast]
    have no (x : Bool) (hx' : x = true) (h : ¬ (mn_ mine i = true ∧ rd r (i : Int) ≥ 0 ∧ ¬ aims names reach avoid i)) : Ev (fun k => spec_Strategy.j2 k r ((planOut names mine next reach avoid r i).set i (-1)) i names.length i x names mine next reach avoid) (planTo names mine next reach avoid r names.length, true) := by
      subst hx'; rw [show planAt names mine next reach avoid r i = -1 from if_neg h] at ihi; apply Ev.succ; simp only [spec_Strategy.j2, if_true, succ_w2 i (by omega)]; exact ihi
    have yes (x : Bool) (hx' : x = false) (h : mn_ mine i = true ∧ rd r (i : Int) ≥ 0 ∧ ¬ aims names reach avoid i) : Ev (fun k => spec_Strategy.j2 k r ((planOut names mine next reach avoid r i).set i (-1)) i names.length i x names mine next reach avoid) (planTo names mine next reach avoid r names.length, true) := by
      subst hx'; apply Ev.succ; simp only [spec_Strategy.j2, Bool.false_eq_true, if_false, e3]; refine Ev.pos (by omega) (Ev.pos (by omega) ?_); (have eg : ((planOut names mine next reach avoid r i).set i (-1)).getD i 0 = -1 := by simp [List.getD_eq_getElem?_getD, show i < (planOut names mine next reach avoid r i).length by omega]); refine sq_l1 names mine next reach avoid hg r hr i (by omega) _ (nx next i).length 0 _ (by omega) (by simp [hl]) (by rw [eg]; exact Or.inl rfl) ?_; rw [show planAt names mine next reach avoid r i = best r (-1) (nx next i) from if_pos h] at ihi; rw [eg, List.set_set]
      simpa using ihi
    by_cases c1 : mn_ mine i = true
    · refine Ev.pos c1 ?_
      by_cases c2 : rd r (i : Int) < 0
      · exact Ev.pos c2 (no _ rfl (fun h => by have := h.2.1; omega))
      · refine Ev.neg c2 ?_
        by_cases c4 : reach.length = 0
        · have ha : ¬ aims names reach avoid i := fun h => by
            have : reach = [] := List.eq_nil_of_length_eq_zero c4; rw [this] at h; exact absurd h.1 (by simp)
          exact Ev.neg (by omega) (yes _ rfl ⟨c1, by omega, ha⟩)
        · refine Ev.pos (by omega) ?_
          have hzi := hz c4 i (by omega); by_cases c5 : rd r (i : Int) = 0
          · exact no _ (by simp [c5]) (fun h => h.2.2 (hzi.1 c5))
          · exact yes _ (by simpa using c5) ⟨c1, by omega, fun h => c5 (hzi.2 h)⟩
    · exact Ev.neg c1 (no _ rfl (fun h => c1 h.1))
end
noncomputable def planAll (names : List ByteArray) (mine : List Bool) (next : List (List Int)) (reach avoid : List ByteArray) : List Int × Bool :=
  if Good names mine next ∧ WishOk reach avoid then (planTo names mine next reach avoid (ranks names mine next reach avoid) names.length, true) else ([], false)
theorem strategy_both (names : List ByteArray) (mine : List Bool) (next : List (List Int)) (reach avoid : List ByteArray) (hb : Small names mine next) (hw : SmallW reach avoid) :
    Ev (fun k => impl_Strategy.f k names mine next reach avoid) (planAll names mine next reach avoid) ∧ Ev (fun k => spec_Strategy.f k names mine next reach avoid) (planAll names mine next reach avoid) := by
  obtain ⟨a1, a2⟩ := goodBoard_both names mine next hb.n2 hb.x2; have b1 := l22Good_ev reach avoid hw.r2 hw.a2; have b2 := goodWish_eq reach avoid hw.r1 hw.r2 hw.a1 hw.a2
  have no1 (x : Bool) (hx : x = true) (h : ¬ (Good names mine next ∧ WishOk reach avoid)) : Ev (fun k => impl_Strategy.j0 k x names mine next reach avoid) (planAll names mine next reach avoid) := by
    subst hx; apply Ev.succ; simp only [impl_Strategy.j0, if_true]; exact Ev.some (if_neg h).symm
  have no2 (x : Bool) (hx : x = true) (h : ¬ (Good names mine next ∧ WishOk reach avoid)) : Ev (fun k => spec_Strategy.j0 k x names mine next reach avoid) (planAll names mine next reach avoid) := by
    subst hx; apply Ev.succ; simp only [spec_Strategy.j0, if_true]; exact Ev.some (if_neg h).symm
  unfold impl_Strategy.f spec_Strategy.f; by_cases c1 : Good names mine next
  · by_cases c2 : WishOk reach avoid
    · obtain ⟨r1, r2⟩ := ranks_both names mine next reach avoid c1 hw
      have hl := ranks_length names mine next reach avoid; have hn := c1.1.2; have e : planAll names mine next reach avoid = (planTo names mine next reach avoid (ranks names mine next reach avoid) names.length, true) := if_pos ⟨c1, c2⟩; rw [e]
      constructor
      · refine Ev.bnd a2 (Ev.pos (decide_eq_true c1) (Ev.bnd0 b2 ?_))
        rw [decide_eq_true c2]; apply Ev.succ; simp only [impl_Strategy.j0, Bool.not_true, Bool.false_eq_true, if_false]; refine Ev.bnd r1 ?_; rw [hl]; exact st_l0 names mine next reach avoid hw c1 (ranks names mine next reach avoid) hl names.length 0 (by omega)
      · refine Ev.bnd a1 (Ev.pos (decide_eq_true c1) (Ev.bnd b1 ?_))
        rw [decide_eq_true c2]; apply Ev.succ; simp only [spec_Strategy.j0, Bool.not_true, Bool.false_eq_true, if_false]; refine Ev.bnd r2 ?_; rw [hl]; refine Ev.pos (by omega) (Ev.pos (by omega) ?_); simp only [Option.bind_some, List.length_replicate, Int.toNat_natCast]; have := sq_l0 names mine next reach avoid c1 (ranks names mine next reach avoid) hl (zero_rank names mine next reach avoid) names.length 0 (by omega)
        have e0 : planOut names mine next reach avoid (ranks names mine next reach avoid) 0 = List.replicate names.length 0 := by
          apply List.ext_getElem
          · simp [planOut]
          · intro j h1 h2; simp [planOut]
        rw [e0] at this; exact this
    · exact ⟨Ev.bnd a2 (Ev.pos (decide_eq_true c1) (Ev.bnd0 b2 (no1 _ (by simp [c2]) (fun h => c2 h.2)))), Ev.bnd a1 (Ev.pos (decide_eq_true c1) (Ev.bnd b1 (no2 _ (by simp [c2]) (fun h => c2 h.2))))⟩
  · exact ⟨Ev.bnd a2 (Ev.neg (by simpa using c1) (no1 _ rfl (fun h => c1 h.1))), Ev.bnd a1 (Ev.neg (by simpa using c1) (no2 _ rfl (fun h => c1 h.1)))⟩
end Go.Proofs.YtdihodboopeakaaDoor.Pure
/-
Own text: THE LAW FnExactStrategy, joined: for every board and wish the law's call says true and changes nothing.
-/
namespace Go.Proofs.YtdihodboopeakaaDoor.Pure
open Go.RowKit Go.Proofs.YtdihodboopeakaaDoorW.PrintWords Go.Proofs.YtdihodboopeakaaDoorW.PrintLast Go.Proofs.YtdihodboopeakaaDoor.Pr Go.Proofs.YtdihodboopeakaaDoor.EvKit
set_option linter.unusedVariables false
theorem strategy_law (A0 : Option Addr) (c0 : Nat) (l0 : List ByteArray) (A1 : Option Addr) (c1 : Nat) (l1 : List Bool) (A2 : Option Addr) (c2 : Nat) (l2 : List (List Int)) (A3 : Option Addr) (c3 : Nat) (l3 : List ByteArray) (A4 : Option Addr) (c4 : Nat) (l4 : List ByteArray) (w : World)
    (hr0 : Kd.C Kd.string w A0 l0.length l0) (hc0 : l0.length ≤ c0) (hr1 : Kd.C Kd.bool w A1 l1.length l1) (hc1 : l1.length ≤ c1) (hr2 : Kd.C (Kd.slice 3 (Kd.int .i64)) w A2 l2.length l2) (hc2 : l2.length ≤ c2) (hr3 : Kd.C Kd.string w A3 l3.length l3) (hc3 : l3.length ≤ c3) (hr4 : Kd.C Kd.string w A4 l4.length l4) (hc4 : l4.length ≤ c4)
    (Q0 : ((l0.length ≤ maxLen ∧ l0.length * 16 ≤ 140737488351232 ∧ ∀ y0 ∈ l0, y0.size ≤ 140737488351232) ∧ (l1.length ≤ maxLen ∧ l1.length * 1 ≤ 140737488351232 ∧ ∀ y0 ∈ l1, True) ∧ (l2.length ≤ maxLen ∧ l2.length * 24 ≤ 140737488351232 ∧ ∀ y0 ∈ l2, (y0.length ≤ maxLen ∧ y0.length * 8 ≤ 140737488351232 ∧ ∀ y1 ∈ y0, (Lit.int .i64 y1).wf = true))))
    (Q1 : ((l3.length ≤ maxLen ∧ l3.length * 16 ≤ 140737488351232 ∧ ∀ y0 ∈ l3, y0.size ≤ 140737488351232) ∧ (l4.length ≤ maxLen ∧ l4.length * 16 ≤ 140737488351232 ∧ ∀ y0 ∈ l4, y0.size ≤ 140737488351232))) (ht : Tabs w) :
    Calls Tryd.prog 4 #[.agg #[.slice A0 l0.length c0, .slice A1 l1.length c1, .slice A2 l2.length c2], .agg #[.slice A3 l3.length c3, .slice A4 l4.length c4]] w fun e w' => e = .returned (.bool true) ∧ Below w.heap.size w w' := by
  obtain ⟨⟨_, n2, n3⟩, ⟨_, m2, _⟩, ⟨_, x2, x3⟩⟩ := Q0; obtain ⟨⟨_, r2, r3⟩, ⟨_, a2, a3⟩⟩ := Q1; obtain ⟨z0, e, f⟩ := szBoard_ev l0 l1 l2 1048576 (by decide) (by decide) (by omega) n3 (by omega) (by omega) (fun x hx => by have := (x3 x hx).2.1; omega); obtain ⟨kz, hz⟩ := Ev.rounds e; by_cases c : z0 < 0
  · exact law_Strategy_z0 A0 c0 l0 A1 c1 l1 A2 c2 l2 A3 c3 l3 A4 c4 l4 w hr0 hc0 hr1 hc1 hr2 hc2 hr3 hc3 hr4 hc4 kz z0 hz c
  obtain ⟨h0, hb⟩ := f c; obtain ⟨z1, e', f'⟩ := szWish_ev l3 l4 z0 (by omega) (by omega) (by omega) r3 (by omega) a3; obtain ⟨kw, hw⟩ := Ev.rounds e'; by_cases c' : z1 < 0
  · exact law_Strategy_z1 A0 c0 l0 A1 c1 l1 A2 c2 l2 A3 c3 l3 A4 c4 l4 w hr0 hc0 hr1 hc1 hr2 hc2 hr3 hc3 hr4 hc4 kz kw z0 z1 hz c hw c'
  obtain ⟨_, hs⟩ := f' c'; obtain ⟨i1, i2⟩ := strategy_both l0 l1 l2 l3 l4 hb hs; obtain ⟨y, b⟩ : ∃ p : List Int × Bool, p = planAll l0 l1 l2 l3 l4 := ⟨_, rfl⟩
  have hyl : (planAll l0 l1 l2 l3 l4).1.length ≤ 1048576 := by
    unfold planAll
    split
    · rw [planTo_len]; exact hb.n1
    · exact Nat.zero_le _
  generalize planAll l0 l1 l2 l3 l4 = p at i1 i2 hyl; obtain ⟨y, b⟩ := p
  simp only at hyl
  obtain ⟨t0, t1, t2, m0, m1, m2', ea, eb, ec, g0, g1⟩ := markBoard_parts hb; obtain ⟨t3, t4, m3, ed, g3⟩ := markWish_ev hs m2' g0 g1; have ee := markIntS_ev y 1 (by omega) (by omega); have ef := heldIntS_ev y.length 1 (by omega) (by omega); obtain ⟨k0, h0'⟩ := Ev.rounds (toBoard_ev hb); obtain ⟨k1, h1'⟩ := Ev.rounds (toWish_ev hs); obtain ⟨k2, h2'⟩ := Ev.rounds i2; obtain ⟨k3, h3'⟩ := Ev.rounds i1; obtain ⟨k4, h4'⟩ := Ev.rounds (eqIntS_ev y (by omega)); obtain ⟨k5, h5'⟩ := Ev.rounds (eqBoard_ev hb); obtain ⟨k6, h6'⟩ := Ev.rounds (eqWish_ev hs); obtain ⟨ka, ha'⟩ := Ev.rounds ea; obtain ⟨kb, hb'⟩ := Ev.rounds eb; obtain ⟨kc, hc'⟩ := Ev.rounds ec; obtain ⟨kd, hd'⟩ := Ev.rounds ed; obtain ⟨ke, he'⟩ := Ev.rounds ee; obtain ⟨kf, hf'⟩ := Ev.rounds ef; exact law_Strategy A0 c0 l0 A1 c1 l1 A2 c2 l2 A3 c3 l3 A4 c4 l4 w hr0 hc0 hr1 hc1 hr2 hc2 hr3 hc3 hr4 hc4 ht y b t0 t1 t2 t3 t4 (seqI 1 y.length) z0 m0 m1 m2' m3 (1 + y.length) z1 kz k0 k2 k3 k4 k5 k6 ka kb kc kd ke kf kw k1 hz hw h0' h1' h2' h3' h4' h5' h6' ha' hb' hc' hd' he' hf' c c' (by omega) (by omega)
end Go.Proofs.YtdihodboopeakaaDoor.Pure
