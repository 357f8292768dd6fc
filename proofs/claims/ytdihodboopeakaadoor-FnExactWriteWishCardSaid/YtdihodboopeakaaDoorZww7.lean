-- Joined and pruned by wip/tools/prune.py out of this session's own texts (PureText, PureBase, PureInts, PureIntSS, PureBoard, PureWish, PureWrite, PureFnExactWriteWish)
import Derived.Test.YtdihodboopeakaaDoorZww6
/-
Own text: what the laws' own helpers on []string and []bool come to: a copy, a comparison, a size.
-/
namespace Go.Proofs.YtdihodboopeakaaDoor.Pure
open Go.RowKit Go.Proofs.YtdihodboopeakaaDoorW.PrintWords Go.Proofs.YtdihodboopeakaaDoorW.PrintLast Go.Proofs.YtdihodboopeakaaDoor.Pr Go.Proofs.YtdihodboopeakaaDoor.EvKit

theorem toStringS_l0 (l : List ByteArray) (hl : l.length ≤ 1048576) (d : Nat) : ∀ i : Nat, i + d = l.length →
    Ev (fun k => laws_toStringS.l0 k l ((l.take i).map id ++ List.replicate (l.length - i) (⟨#[]⟩ : ByteArray)) i) (l.map id) := by
  induction d with
  | zero =>
    intro i hi
    apply Ev.succ
    simp only [laws_toStringS.l0, show ¬ ((i : Int) < (l.length : Int)) by omega, if_false]
    have : i = l.length := by omega
    subst this
    exact Ev.some (copy_done _ _ _)
  | succ d ih =>
    intro i hi
    apply Ev.succ
    have hlen : ((l.take i).map id ++ List.replicate (l.length - i) (⟨#[]⟩ : ByteArray)).length = l.length := by simp; omega
    simp only [laws_toStringS.l0, hlen, show ((i : Int) < (l.length : Int)) by omega, show (0 : Int) ≤ (i : Int) by omega, if_true, Int.toNat_natCast]
    rw [show wrap64 ((i : Int) + 1) = ((i + 1 : Nat) : Int) by rw [wrap64_id (by omega) (by omega)]; omega]
    have := copy_step id (⟨#[]⟩ : ByteArray) ByteArray.empty l i (by omega)
    have e : rdOf ByteArray.empty l (i : Int) = id (l.getD i ByteArray.empty) := rfl
    rw [e, this]
    exact ih (i + 1) (by omega)
theorem toStringS_ev (l : List ByteArray) (hl : l.length ≤ 1048576) : Ev (fun k => laws_toStringS.f k l) l := by
  simp only [laws_toStringS.f, Int.toNat_natCast, show (0 : Int) ≤ (l.length : Int) by omega, show l.length ≤ 17592186044416 by omega, if_true]
  have := toStringS_l0 l hl l.length 0 (by omega)
  simpa using this
theorem eqStringS_l0 (l : List ByteArray) (hl : l.length ≤ 1048576) (d : Nat) : ∀ i : Nat, i + d = l.length → Ev (fun k => laws_eqStringS.l0 k l l i) true := by
  induction d with
  | zero =>
    intro i hi
    apply Ev.succ
    simp only [laws_eqStringS.l0, show ¬ ((i : Int) < (l.length : Int)) by omega, if_false]
    exact Ev.some rfl
  | succ d ih =>
    intro i hi
    apply Ev.succ
    simp only [laws_eqStringS.l0, show ((i : Int) < (l.length : Int)) by omega, show (0 : Int) ≤ (i : Int) by omega, if_true]
    rw [show wrap64 ((i : Int) + 1) = ((i + 1 : Nat) : Int) by rw [wrap64_id (by omega) (by omega)]; omega]
    exact ih (i + 1) (by omega)
theorem eqStringS_ev (l : List ByteArray) (hl : l.length ≤ 1048576) : Ev (fun k => laws_eqStringS.f k l l) true := by
  simp only [laws_eqStringS.f, if_true]
  exact eqStringS_l0 l hl l.length 0 (by omega)
theorem szStringS_l0 (l : List ByteArray) (hl : l.length ≤ 1048576) (hr : ∀ x ∈ l, x.size ≤ 140737488351232) (d : Nat) : ∀ (i : Nat) (a : Int), i + d = l.length → 0 ≤ a → a ≤ 1048576 →
    ∃ r, Ev (fun k => laws_szStringS.l0 k l a i) r ∧ (¬ r < 0 → r ≤ a ∧ ∀ j, i ≤ j → j < l.length → ((l.getD j ByteArray.empty).size : Int) ≤ 1048576) := by
  induction d with
  | zero =>
    intro i a hi h0 h1
    refine ⟨a, ?_, fun _ => ⟨Int.le_refl _, fun j h2 h3 => by omega⟩⟩
    apply Ev.succ
    simp only [laws_szStringS.l0, show ¬ ((i : Int) < (l.length : Int)) by omega, if_false]
    exact Ev.some rfl
  | succ d ih =>
    intro i a hi h0 h1
    have hm := hr _ (getD_mem l i ByteArray.empty (by omega))
    have e : rdOf ByteArray.empty l (i : Int) = l.getD i ByteArray.empty := rfl
    have hw : wrap64 (a - ((rdOf ByteArray.empty l (i : Int)).size : Int)) = a - ((l.getD i ByteArray.empty).size : Int) := by rw [e, wrap64_id (by omega) (by omega)]
    by_cases c : a - ((l.getD i ByteArray.empty).size : Int) < 0
    · refine ⟨-1, ?_, fun h => absurd (by decide) h⟩
      apply Ev.succ
      simp only [laws_szStringS.l0, show ((i : Int) < (l.length : Int)) by omega, show (0 : Int) ≤ (i : Int) by omega, if_true, hw]
      exact Ev.pos c (Ev.some rfl)
    · obtain ⟨r, e1, e2⟩ := ih (i + 1) (a - ((l.getD i ByteArray.empty).size : Int)) (by omega) (by omega) (by omega)
      refine ⟨r, ?_, fun h => ?_⟩
      · apply Ev.succ
        simp only [laws_szStringS.l0, show ((i : Int) < (l.length : Int)) by omega, show (0 : Int) ≤ (i : Int) by omega, if_true, hw]
        refine Ev.neg c ?_
        rw [show wrap64 ((i : Int) + 1) = ((i + 1 : Nat) : Int) by rw [wrap64_id (by omega) (by omega)]; omega]
        exact e1
      · obtain ⟨h2, h3⟩ := e2 h
        refine ⟨by omega, fun j hj hjl => ?_⟩
        by_cases ej : j = i
        · subst ej; omega
        · exact h3 j (by omega) hjl
theorem szStringS_ev (l : List ByteArray) (a : Int) (h0 : 0 ≤ a) (h1 : a ≤ 1048576) (hl : l.length ≤ 9223372036854775807) (hr : ∀ x ∈ l, x.size ≤ 140737488351232) :
    ∃ r, Ev (fun k => laws_szStringS.f k l a) r ∧ (¬ r < 0 → r ≤ a ∧ l.length ≤ 1048576 ∧ ∀ x ∈ l, x.size ≤ 1048576) := by
  simp only [laws_szStringS.f]
  rw [wrap64_id (x := a - (l.length : Int)) (by omega) (by omega)]
  by_cases c : a - (l.length : Int) < 0
  · exact ⟨-1, Ev.pos c (Ev.some rfl), fun h => absurd (by decide) h⟩
  · obtain ⟨r, e1, e2⟩ := szStringS_l0 l (by omega) hr l.length 0 (a - (l.length : Int)) (by omega) (by omega) (by omega)
    refine ⟨r, Ev.neg c e1, fun h => ?_⟩
    obtain ⟨h2, h3⟩ := e2 h
    refine ⟨by omega, by omega, fun x hx => ?_⟩
    obtain ⟨j, hj, rfl⟩ := List.getElem_of_mem hx
    have := h3 j (by omega) hj
    rw [List.getD_eq_getElem?_getD, List.getElem?_eq_getElem hj] at this
    simp only [Option.getD_some] at this
    omega

end Go.Proofs.YtdihodboopeakaaDoor.Pure
/-
Own text: what many of the pure proofs use: 'for all from i on', counters, 'between', the copy and the comparison of slices of bytes.
-/
namespace Go.Proofs.YtdihodboopeakaaDoor.Pure
open Go.RowKit Go.Proofs.YtdihodboopeakaaDoorW.PrintWords Go.Proofs.YtdihodboopeakaaDoor.EvKit

def From (n i : Nat) (C : Nat → Prop) : Prop := ∀ j, i ≤ j → j < n → C j
theorem From.end_ {n i : Nat} {C : Nat → Prop} (h : n ≤ i) : From n i C := fun j h1 h2 => by omega
theorem From.step {n i : Nat} {C : Nat → Prop} (h : i < n) : From n i C ↔ C i ∧ From n (i + 1) C := by
  constructor
  · exact fun a => ⟨a i (Nat.le_refl i) h, fun j h1 h2 => a j (by omega) h2⟩
  · rintro ⟨a, b⟩ j h1 h2
    by_cases e : j = i
    · exact e ▸ a
    · exact b j (by omega) h2
/-- One of those from i on, below n. -/
def Some_ (n i : Nat) (C : Nat → Prop) : Prop := ∃ j, i ≤ j ∧ j < n ∧ C j
theorem Some_.end_ {n i : Nat} {C : Nat → Prop} (h : n ≤ i) : ¬ Some_ n i C := by
  rintro ⟨j, h1, h2, _⟩
  omega
theorem Some_.step {n i : Nat} {C : Nat → Prop} (h : i < n) : Some_ n i C ↔ C i ∨ Some_ n (i + 1) C := by
  constructor
  · rintro ⟨j, h1, h2, h3⟩
    by_cases e : j = i
    · exact Or.inl (e ▸ h3)
    · exact Or.inr ⟨j, by omega, h2, h3⟩
  · rintro (a | ⟨j, h1, h2, h3⟩)
    · exact ⟨i, Nat.le_refl i, h, a⟩
    · exact ⟨j, by omega, h2, h3⟩
end Go.Proofs.YtdihodboopeakaaDoor.Pure
/-
Own text: what the laws' own helpers on []int come to: a copy, a comparison.
-/
namespace Go.Proofs.YtdihodboopeakaaDoor.Pure
open Go.RowKit Go.Proofs.YtdihodboopeakaaDoorW.PrintWords Go.Proofs.YtdihodboopeakaaDoorW.PrintLast Go.Proofs.YtdihodboopeakaaDoor.Pr Go.Proofs.YtdihodboopeakaaDoor.EvKit

end Go.Proofs.YtdihodboopeakaaDoor.Pure
/-
Own text: what the laws' own helpers on [][]int come to: their size, a copy, a comparison.
-/
namespace Go.Proofs.YtdihodboopeakaaDoor.Pure
open Go.RowKit Go.Proofs.YtdihodboopeakaaDoorW.PrintWords Go.Proofs.YtdihodboopeakaaDoorW.PrintLast Go.Proofs.YtdihodboopeakaaDoor.Pr Go.Proofs.YtdihodboopeakaaDoor.EvKit

end Go.Proofs.YtdihodboopeakaaDoor.Pure
/-
Own text: what a good board is, to the program and to the reference.
-/
namespace Go.Proofs.YtdihodboopeakaaDoor.Pure
open Go.RowKit Go.Proofs.YtdihodboopeakaaDoorW.PrintWords Go.Proofs.YtdihodboopeakaaDoorW.PrintLast Go.Proofs.YtdihodboopeakaaDoor.Pr Go.Proofs.YtdihodboopeakaaDoor.EvKit
open Classical

/-- A row of next places from k on: rising, each a place. -/
def RowOk (n : Nat) (row : List Int) (k : Nat) : Prop := From row.length k fun j => (0 ≤ row.getD j 0 ∧ row.getD j 0 < n) ∧ (0 < j → row.getD (j - 1) 0 < row.getD j 0)
theorem RowOk.len {n : Nat} {row : List Int} (h : RowOk n row 0) : row.length ≤ n := by
  have key : ∀ j, j < row.length → (j : Int) ≤ row.getD j 0 := by
    intro j
    induction j with
    | zero => intro hj; exact (h 0 (Nat.le_refl _) hj).1.1
    | succ j ih =>
      intro hj
      have h1 := ih (by omega)
      have h2 := (h (j + 1) (by omega) hj).2 (by omega)
      simp only [Nat.add_sub_cancel] at h2
      omega
  rcases Nat.eq_zero_or_pos row.length with e | e
  · omega
  · have h1 := key (row.length - 1) (by omega)
    have h2 := (h (row.length - 1) (by omega) (by omega)).1.2
    omega
section
variable (names : List ByteArray) (mine : List Bool) (next : List (List Int)) (hn : names.length ≤ 14) (hx : next.length = names.length) (hs : ∀ x ∈ names, x.size ≤ 1048576) (hr : ∀ x ∈ next, x.length ≤ 1048576)
include hn hx hr
include hs
end
/-! The law's helpers on a board -/
end Go.Proofs.YtdihodboopeakaaDoor.Pure
/-
Own text: what a good wish is, which places it aims at and which it shuns, to the program and to the reference.
-/
namespace Go.Proofs.YtdihodboopeakaaDoor.Pure
open Go.RowKit Go.Proofs.YtdihodboopeakaaDoorW.PrintWords Go.Proofs.YtdihodboopeakaaDoorW.PrintLast Go.Proofs.YtdihodboopeakaaDoor.Pr Go.Proofs.YtdihodboopeakaaDoor.EvKit
open Classical

theorem text_eq (a b : ByteArray) : a.toList = b.toList ↔ a = b := by
  constructor
  · intro h
    rw [Lib.toList_data, Lib.toList_data] at h
    exact ByteArray.ext (Array.toList_inj.1 h)
  · intro h; rw [h]
theorem succ_w2 (i : Nat) (h : i ≤ 1048576) : wrap64 ((i : Int) + 1) = ((i + 1 : Nat) : Int) := by rw [wrap64_id (by omega) (by omega)]; omega
theorem drop_get {α : Type} (l : List α) (i : Nat) (d : α) (h : i < l.length) : l.drop i = l.getD i d :: l.drop (i + 1) := by
  rw [List.drop_eq_getElem_cons h]
  congr 1
  simp [List.getD_eq_getElem?_getD, List.getElem?_eq_getElem h]
theorem mem_drop_step {α : Type} (l : List α) (i : Nat) (d s : α) (h : i < l.length) : s ∈ l.drop i ↔ s = l.getD i d ∨ s ∈ l.drop (i + 1) := by rw [drop_get l i d h]; exact List.mem_cons
theorem l22In_l0 (l : List ByteArray) (s : ByteArray) (hl : l.length ≤ 1048576) (d : Nat) : ∀ i : Nat, i + d = l.length → Ev (fun k => spec_l22In.l0 k s l l.length i) (decide (s ∈ l.drop i)) := by
  induction d with
  | zero =>
    intro i hi
    apply Ev.succ
    rw [List.drop_of_length_le (by omega)]
    simp only [spec_l22In.l0, show ¬ ((i : Int) < (l.length : Int)) by omega, if_false]
    exact Ev.some (decide_eq_false (by simp)).symm
  | succ d ih =>
    intro i hi
    apply Ev.succ
    have hm := mem_drop_step l i ByteArray.empty s (by omega)
    have e : rdOf ByteArray.empty l (i : Int) = l.getD i ByteArray.empty := rfl
    simp only [spec_l22In.l0, show ((i : Int) < (l.length : Int)) by omega, show (0 : Int) ≤ (i : Int) by omega, if_true, e, text_eq, succ_w2 i (by omega)]
    by_cases c : l.getD i ByteArray.empty = s
    · exact Ev.pos c (Ev.some (decide_eq_true (hm.2 (Or.inl c.symm))).symm)
    · refine Ev.neg c (Ev.eq (ih (i + 1) (by omega)) (decide_eq_decide.2 ⟨fun h => hm.2 (Or.inr h), fun h => (hm.1 h).elim (fun h => absurd h.symm c) id⟩))
theorem l22In_ev (l : List ByteArray) (s : ByteArray) (hl : l.length ≤ 1048576) : Ev (fun k => spec_l22In.f k l s) (decide (s ∈ l)) := by
  unfold spec_l22In.f
  simpa using l22In_l0 l s hl l.length 0 (by omega)
/-! A wish -/
def NamesFrom (l : List ByteArray) (i : Nat) : Prop := From l.length i fun j => NameOk (l.getD j ByteArray.empty) ∧ l.getD j ByteArray.empty ∉ l.take j
def ListOk (l : List ByteArray) : Prop := l.length ≤ 6 ∧ NamesFrom l 0
def WishOk (reach avoid : List ByteArray) : Prop := ListOk reach ∧ ListOk avoid
theorem l22Names_l0 (l : List ByteArray) (hl : l.length ≤ 6) (hs : ∀ x ∈ l, x.size ≤ 1048576) (d : Nat) : ∀ i : Nat, i + d = l.length → Ev (fun k => spec_l22Names.l0 k l l l.length i) (decide (NamesFrom l i)) := by
  induction d with
  | zero =>
    intro i hi
    apply Ev.succ
    simp only [spec_l22Names.l0, show ¬ ((i : Int) < (l.length : Int)) by omega, if_false]
    exact Ev.some (decide_eq_true (From.end_ (by omega))).symm
  | succ d ih =>
    intro i hi
    apply Ev.succ
    have hsz : (l.getD i ByteArray.empty).size ≤ 1000000000 := Nat.le_trans (hs _ (getD_mem l i _ (by omega))) (by decide)
    have e : rdOf ByteArray.empty l (i : Int) = l.getD i ByteArray.empty := rfl
    have hstep := From.step (C := fun j => NameOk (l.getD j ByteArray.empty) ∧ l.getD j ByteArray.empty ∉ l.take j) (n := l.length) (i := i) (by omega)
    simp only [spec_l22Names.l0, show ((i : Int) < (l.length : Int)) by omega, show (0 : Int) ≤ (i : Int) by omega, if_true, e, show ((i : Int) ≤ (l.length : Int)) by omega, Int.toNat_natCast, succ_w2 i (by omega)]
    refine Ev.bnd (l22Name_ev _ hsz) ?_
    by_cases c : NameOk (l.getD i ByteArray.empty)
    · refine Ev.pos (decide_eq_true c) (Ev.bnd (l22In_ev _ _ (by rw [List.length_take]; omega)) ?_)
      by_cases c2 : l.getD i ByteArray.empty ∈ l.take i
      · exact Ev.pos (decide_eq_true c2) (Ev.some (decide_eq_false (fun h => (hstep.1 h).1.2 c2)).symm)
      · exact Ev.neg (by simpa using c2) (Ev.eq (ih (i + 1) (by omega)) (decide_eq_decide.2 ⟨fun h => hstep.2 ⟨⟨c, c2⟩, h⟩, fun h => (hstep.1 h).2⟩))
    · exact Ev.neg (by simpa using c) (Ev.some (decide_eq_false (fun h => c (hstep.1 h).1.1)).symm)
theorem l22Names_ev (l : List ByteArray) (hs : ∀ x ∈ l, x.size ≤ 1048576) : Ev (fun k => spec_l22Names.f k l) (decide (ListOk l)) := by
  unfold spec_l22Names.f
  by_cases c : l.length ≤ 6
  · refine Ev.neg (by omega) (Ev.eq (l22Names_l0 l c hs l.length 0 (by omega)) (decide_eq_decide.2 ⟨fun h => ⟨c, h⟩, fun h => h.2⟩))
  · exact Ev.pos (by omega) (Ev.some (decide_eq_false (fun h => c h.1)).symm)
theorem l22Good_ev (reach avoid : List ByteArray) (h1 : ∀ x ∈ reach, x.size ≤ 1048576) (h2 : ∀ x ∈ avoid, x.size ≤ 1048576) : Ev (fun k => spec_l22Good.f k reach avoid) (decide (WishOk reach avoid)) := by
  unfold spec_l22Good.f
  refine Ev.bnd (l22Names_ev reach h1) ?_
  by_cases c : ListOk reach
  · exact Ev.pos (decide_eq_true c) (Ev.bnd (l22Names_ev avoid h2) (Ev.some (decide_eq_decide.2 ⟨fun h => ⟨c, h⟩, fun h => h.2⟩)))
  · exact Ev.neg (by simpa using c) (Ev.some (decide_eq_false (fun h => c h.1)).symm)
theorem inB_eq (l : List ByteArray) (s : ByteArray) : inB l s = decide (s ∈ l) := by
  rw [Bool.eq_iff_iff]
  unfold inB
  rw [List.any_eq_true]
  simp only [decide_eq_true_eq]
  exact ⟨fun ⟨x, h1, h2⟩ => (text_eq x s).1 h2 ▸ h1, fun h => ⟨s, h, rfl⟩⟩
theorem gwFrom_eq (l : List ByteArray) (d : Nat) : d ≤ l.length → gwFrom l d = decide (NamesFrom l (l.length - d)) := by
  induction d with
  | zero => intro _; exact (decide_eq_true (From.end_ (by omega))).symm
  | succ d ih =>
    intro hd
    have hstep := From.step (C := fun j => NameOk (l.getD j ByteArray.empty) ∧ l.getD j ByteArray.empty ∉ l.take j) (n := l.length) (i := l.length - (d + 1)) (by omega)
    unfold gwFrom
    rw [ih (by omega), inB_eq, show l.length - d = l.length - (d + 1) + 1 by omega, Bool.eq_iff_iff]
    simp only [Bool.and_eq_true, Bool.not_eq_true', decide_eq_false_iff_not, decide_eq_true_eq, nameB]
    exact hstep.symm
theorem gwB_eq (l : List ByteArray) : gwB l = decide (ListOk l) := by
  unfold gwB
  rw [gwFrom_eq l l.length (Nat.le_refl _), Nat.sub_self, Bool.eq_iff_iff]
  simp only [Bool.and_eq_true, decide_eq_true_eq]
  exact Iff.rfl
theorem goodWish_eq (reach avoid : List ByteArray) (a1 : reach.length ≤ 1048576) (h1 : ∀ x ∈ reach, x.size ≤ 1048576) (a2 : avoid.length ≤ 1048576) (h2 : ∀ x ∈ avoid, x.size ≤ 1048576) : impl_goodWish.f reach avoid = some (decide (WishOk reach avoid)) := by
  have ok (l : List ByteArray) (a : l.length ≤ 1048576) (h : ∀ x ∈ l, x.size ≤ 1048576) : okT l = true := by
    unfold okT
    rw [decide_eq_true a, Bool.true_and, List.all_eq_true]
    exact fun x hx => decide_eq_true (h x hx)
  unfold impl_goodWish.f
  rw [if_pos (ok reach a1 h1), if_pos (ok avoid a2 h2), gwB_eq, gwB_eq]
  congr 1
  rw [Bool.eq_iff_iff]
  simp only [Bool.and_eq_true, decide_eq_true_eq]
  exact Iff.rfl
section
variable (names : List ByteArray) (mine : List Bool) (next : List (List Int)) (reach avoid : List ByteArray)
end

/-! The law's helpers on a wish -/
structure SmallW (reach avoid : List ByteArray) : Prop where
  r1 : reach.length ≤ 1048576
  r2 : ∀ x ∈ reach, x.size ≤ 1048576
  a1 : avoid.length ≤ 1048576
  a2 : ∀ x ∈ avoid, x.size ≤ 1048576
theorem szWish_ev (reach avoid : List ByteArray) (a : Int) (h0 : 0 ≤ a) (h1 : a ≤ 1048576) (b1 : reach.length ≤ 9223372036854775807) (b2 : ∀ x ∈ reach, x.size ≤ 140737488351232) (b3 : avoid.length ≤ 9223372036854775807) (b4 : ∀ x ∈ avoid, x.size ≤ 140737488351232) :
    ∃ r, Ev (fun k => laws_szWish.f k reach avoid a) r ∧ (¬ r < 0 → r ≤ a ∧ SmallW reach avoid) := by
  unfold laws_szWish.f
  obtain ⟨r1, e1, f1⟩ := szStringS_ev reach a h0 h1 b1 b2
  by_cases c1 : r1 < 0
  · exact ⟨-1, Ev.bnd e1 (Ev.pos c1 (Ev.some rfl)), fun h => absurd (by decide) h⟩
  obtain ⟨g1, g2, g3⟩ := f1 c1
  obtain ⟨r2, e2, f2⟩ := szStringS_ev avoid r1 (by omega) (by omega) b3 b4
  by_cases c2 : r2 < 0
  · exact ⟨-1, Ev.bnd e1 (Ev.neg c1 (Ev.bnd e2 (Ev.pos c2 (Ev.some rfl)))), fun h => absurd (by decide) h⟩
  obtain ⟨g4, g5, g6⟩ := f2 c2
  exact ⟨r2, Ev.bnd e1 (Ev.neg c1 (Ev.bnd e2 (Ev.neg c2 (Ev.some rfl)))), fun _ => ⟨by omega, g2, g3, g5, g6⟩⟩
theorem toWish_ev {reach avoid : List ByteArray} (h : SmallW reach avoid) : Ev (fun k => laws_toWish.f k reach avoid) (reach, avoid) := by
  unfold laws_toWish.f
  exact Ev.bnd (toStringS_ev _ h.r1) (Ev.bnd (toStringS_ev _ h.a1) (Ev.some rfl))
theorem eqWish_ev {reach avoid : List ByteArray} (h : SmallW reach avoid) : Ev (fun k => laws_eqWish.f k reach avoid reach avoid) true := by
  unfold laws_eqWish.f
  exact Ev.bnd (eqStringS_ev _ h.r1) (Ev.pos rfl (Ev.bnd (eqStringS_ev _ h.a1) (Ev.pos rfl (Ev.some rfl))))
end Go.Proofs.YtdihodboopeakaaDoor.Pure
/-
Own text: writing a wish: the texts joined by the program are those that the reference adds up.
-/
namespace Go.Proofs.YtdihodboopeakaaDoor.Pure
open Go.RowKit Go.Proofs.YtdihodboopeakaaDoorW.PrintWords Go.Proofs.YtdihodboopeakaaDoorW.PrintLast Go.Proofs.YtdihodboopeakaaDoor.Pr Go.Proofs.YtdihodboopeakaaDoor.EvKit
open Classical

/-- The texts with one blank between two. -/
def jB (l : List ByteArray) : ByteArray := ⟨(joinOf l ⟨#[32]⟩).toArray⟩
theorem ba_ext {a b : ByteArray} (h : a.data.toList = b.data.toList) : a = b := ByteArray.ext (Array.toList_inj.1 h)
theorem ba_app (a b : ByteArray) : (a ++ b).data.toList = a.data.toList ++ b.data.toList := by
  rw [ByteArray.data_append, Array.toList_append]
theorem jB_data (l : List ByteArray) : (jB l).data.toList = joinOf l ⟨#[32]⟩ := rfl
theorem jB_nil : jB [] = ⟨#[]⟩ := rfl
theorem jB_one (s : ByteArray) : jB [s] = s := by
  apply ba_ext
  rw [jB_data]
  unfold joinOf
  exact Lib.join_one _ _
theorem jB_snoc (l : List ByteArray) (s : ByteArray) (h : l ≠ []) : jB (l ++ [s]) = jB l ++ ((⟨#[32]⟩ : ByteArray) ++ s) := by
  cases l with
  | nil => exact absurd rfl h
  | cons x r =>
    apply ba_ext
    rw [ba_app, ba_app, jB_data, jB_data]
    unfold joinOf
    rw [List.cons_append, List.map_cons, List.map_cons, Lib.join_cons, Lib.join_cons]
    simp [Lib.joinTail]
theorem jB_snoc2 (l : List ByteArray) (s : ByteArray) (h : l ≠ []) : jB (l ++ [s]) = (jB l ++ (⟨#[32]⟩ : ByteArray)) ++ s := by
  rw [jB_snoc l s h]
  apply ba_ext
  simp only [ba_app, List.append_assoc]
theorem sz_app (a b : ByteArray) : (a ++ b).size = a.size + b.size := ByteArray.size_append
theorem tl_nil (a : ByteArray) : a.toList = [] ↔ a.size = 0 := by
  rw [Lib.toList_data, List.eq_nil_iff_length_eq_zero]
  exact Iff.rfl
/-- What holds of the texts so far: they are some, not too many and not too long. -/
structure Wr (xs : List ByteArray) (m : Nat) : Prop where
  ne : xs ≠ []
  pos : 0 < (jB xs).size
  len : xs.length ≤ m
  sz : (jB xs).size ≤ xs.length * 1048577
theorem Wr.snoc {xs : List ByteArray} {m : Nat} (h : Wr xs m) {s : ByteArray} (hs : s.size ≤ 1048576) : Wr (xs ++ [s]) (m + 1) := by
  have e := jB_snoc xs s h.ne
  have e2 : (jB (xs ++ [s])).size = (jB xs).size + (1 + s.size) := by rw [e, sz_app, sz_app]; rfl
  have h1 := h.pos
  have h2 := h.len
  have h3 := h.sz
  have e3 : (xs ++ [s]).length = xs.length + 1 := by simp
  refine ⟨by simp, by omega, by omega, ?_⟩
  rw [e2, e3]
  omega
theorem isWord_eq (s : ByteArray) : impl_isWord.f s = some (decide (s.toList = ([114, 101, 97, 99, 104] : List UInt8) ∨ s.toList = ([97, 118, 111, 105, 100] : List UInt8))) := by
  unfold impl_isWord.f
  by_cases c : s.toList = ([114, 101, 97, 99, 104] : List UInt8)
  · rw [if_pos c, decide_eq_true (Or.inl c)]
  · rw [if_neg c]
    congr 1
    rw [Bool.eq_iff_iff]
    simp [c]
theorem write_in (l : List ByteArray) (hl : l.length ≤ 6) (hs : ∀ x ∈ l, x.size ≤ 1048576) (L : List (List ByteArray)) (n j : Int) (m : Nat) (hm : m ≤ 8)
    (H : ∀ xs : List ByteArray, Wr xs (m + l.length) → ∃ r, Ev (fun k => spec_WriteWish.l0 k (jB xs) L n (wrap64 (j + 1))) r ∧ Ev (fun k => impl_WriteWish.l0 k xs L n (wrap64 (j + 1))) r) (d : Nat) :
    ∀ (i : Nat) (xs : List ByteArray), i + d = l.length → Wr xs (m + i) → ∃ r, Ev (fun k => spec_WriteWish.l1 k (jB xs) L n j l l.length i) r ∧ Ev (fun k => impl_WriteWish.l1 k xs L n j l l.length i) r := by
  induction d with
  | zero =>
    intro i xs hi hw
    obtain rfl : i = l.length := by omega
    obtain ⟨r, h1, h2⟩ := H xs hw
    refine ⟨r, Ev.succ ?_, Ev.succ ?_⟩
    · simp only [spec_WriteWish.l1, show ¬ ((l.length : Int) < (l.length : Int)) by omega, if_false]
      exact h1
    · simp only [impl_WriteWish.l1, show ¬ ((l.length : Int) < (l.length : Int)) by omega, if_false]
      exact h2
  | succ d ih =>
    intro i xs hi hw
    have hsz : (l.getD i ByteArray.empty).size ≤ 1048576 := hs _ (getD_mem l i _ (by omega))
    have e : rdOf ByteArray.empty l (i : Int) = l.getD i ByteArray.empty := rfl
    generalize l.getD i ByteArray.empty = s at hsz e
    have w1 := hw.len
    have w2 := hw.sz
    have w3 : (jB xs).size ≤ 100000000 := by omega
    have e5 : ((⟨#[32]⟩ : ByteArray) ++ s).size = 1 + s.size := by rw [sz_app]; rfl
    by_cases c : s.toList = ([114, 101, 97, 99, 104] : List UInt8) ∨ s.toList = ([97, 118, 111, 105, 100] : List UInt8)
    · refine ⟨((⟨#[]⟩ : ByteArray), false), Ev.succ ?_, Ev.succ ?_⟩
      · simp only [spec_WriteWish.l1, show ((i : Int) < (l.length : Int)) by omega, show (0 : Int) ≤ (i : Int) by omega, if_true, e]
        by_cases c1 : s.toList = ([114, 101, 97, 99, 104] : List UInt8)
        · exact Ev.pos c1 (Ev.some rfl)
        · exact Ev.neg c1 (Ev.pos (c.resolve_left c1) (Ev.some rfl))
      · simp only [impl_WriteWish.l1, show ((i : Int) < (l.length : Int)) by omega, show (0 : Int) ≤ (i : Int) by omega, if_true, e]
        exact Ev.bnd0 (isWord_eq s) (Ev.pos (decide_eq_true c) (Ev.some rfl))
    · obtain ⟨r, h1, h2⟩ := ih (i + 1) (xs ++ [s]) (by omega) (hw.snoc hsz)
      rw [jB_snoc xs s hw.ne] at h1
      refine ⟨r, Ev.succ ?_, Ev.succ ?_⟩
      · simp only [spec_WriteWish.l1, show ((i : Int) < (l.length : Int)) by omega, show (0 : Int) ≤ (i : Int) by omega, if_true, e, succ_w2 i (by omega)]
        exact Ev.neg (fun h => c (.inl h)) (Ev.neg (fun h => c (.inr h)) (Ev.pos (by omega) (Ev.pos (by omega) h1)))
      · simp only [impl_WriteWish.l1, show ((i : Int) < (l.length : Int)) by omega, show (0 : Int) ≤ (i : Int) by omega, if_true, e, succ_w2 i (by omega)]
        exact Ev.bnd0 (isWord_eq s) (Ev.neg (by simpa using c) (Ev.pos (by omega) h2))
section
variable (reach avoid : List ByteArray)
theorem write_2 (xs : List ByteArray) (h1 : xs.length ≤ 14) (h2 : (jB xs).size ≤ 100000000) : ∃ r, Ev (fun k => spec_WriteWish.l0 k (jB xs) [reach, avoid] 2 2) r ∧ Ev (fun k => impl_WriteWish.l0 k xs [reach, avoid] 2 2) r := by
  have hj : strings_Join.f xs (⟨#[32]⟩ : ByteArray) = some (jB xs) := by
    have h3 : (joinOf xs ⟨#[32]⟩).length = (jB xs).size := rfl
    unfold strings_Join.f
    rw [if_pos ⟨by omega, by omega⟩]
    rfl
  by_cases c : ((jB xs).size : Int) > 200
  · refine ⟨((⟨#[]⟩ : ByteArray), false), Ev.succ ?_, Ev.succ ?_⟩
    · set_option simprocs false in simp only [spec_WriteWish.l0]
      exact Ev.neg (by decide) (Ev.pos c (Ev.some rfl))
    · set_option simprocs false in simp only [impl_WriteWish.l0]
      exact Ev.neg (by decide) (Ev.bnd0 hj (Ev.pos c (Ev.some rfl)))
  · refine ⟨(jB xs, true), Ev.succ ?_, Ev.succ ?_⟩
    · set_option simprocs false in simp only [spec_WriteWish.l0]
      exact Ev.neg (by decide) (Ev.neg c (Ev.some rfl))
    · set_option simprocs false in simp only [impl_WriteWish.l0]
      exact Ev.neg (by decide) (Ev.bnd0 hj (Ev.neg c (Ev.some rfl)))
variable (hr : reach.length ≤ 6) (hrs : ∀ x ∈ reach, x.size ≤ 1048576) (ha : avoid.length ≤ 6) (has : ∀ x ∈ avoid, x.size ≤ 1048576)
include ha has
theorem write_1 (xs : List ByteArray) (hx : xs = [] ∨ Wr xs 7) : ∃ r, Ev (fun k => spec_WriteWish.l0 k (jB xs) [reach, avoid] 2 1) r ∧ Ev (fun k => impl_WriteWish.l0 k xs [reach, avoid] 2 1) r := by
  have hb : xs.length ≤ 7 ∧ (jB xs).size ≤ 100000000 := by
    rcases hx with rfl | h
    · exact ⟨by simp, by rw [jB_nil]; decide⟩
    · have h1 := h.len
      have h2 := h.sz
      exact ⟨h1, by omega⟩
  have e1 : rd_L4 [reach, avoid] 1 = avoid := rfl
  have g1 : (1 : Int) < (([reach, avoid] : List (List ByteArray)).length : Int) := (by decide : (1 : Int) < ((2 : Nat) : Int))
  have e2 : wrap64 (1 + 1) = 2 := by rw [wrap64_id (by omega) (by omega)]; rfl
  have e3 : rdOf ByteArray.empty [(⟨#[114, 101, 97, 99, 104]⟩ : ByteArray), (⟨#[97, 118, 111, 105, 100]⟩ : ByteArray)] 1 = (⟨#[97, 118, 111, 105, 100]⟩ : ByteArray) := rfl
  by_cases c : (avoid.length : Int) = 0
  · obtain ⟨r, h1, h2⟩ := write_2 reach avoid xs (by omega) hb.2
    have h3 : Ev (fun k => impl_WriteWish.l1 k xs [reach, avoid] 2 1 avoid avoid.length 0) r := by
      refine Ev.succ ?_
      set_option simprocs false in simp only [impl_WriteWish.l1, e2]
      exact Ev.neg (by omega) h2
    refine ⟨r, Ev.succ ?_, Ev.succ ?_⟩
    · set_option simprocs false in simp only [spec_WriteWish.l0, e1, e2]
      exact Ev.pos (by decide) (Ev.pos (by decide) (Ev.pos g1 (Ev.pos c h1)))
    · set_option simprocs false in simp only [impl_WriteWish.l0, e1]
      exact Ev.pos (by decide) (Ev.pos (by decide) (Ev.pos g1 (Ev.neg (by omega) h3)))
  · have hin (ys : List ByteArray) (hy : Wr ys 8) : ∃ r, Ev (fun k => spec_WriteWish.l1 k (jB ys) [reach, avoid] 2 1 avoid avoid.length 0) r ∧ Ev (fun k => impl_WriteWish.l1 k ys [reach, avoid] 2 1 avoid avoid.length 0) r :=
      write_in avoid ha has [reach, avoid] 2 1 8 (by decide) (fun zs hz => by rw [e2]; exact write_2 reach avoid zs (by have := hz.len; omega) (by have := hz.len; have := hz.sz; omega)) avoid.length 0 ys (by omega) hy
    rcases hx with rfl | hx
    · obtain ⟨r, h1, h2⟩ := hin [(⟨#[97, 118, 111, 105, 100]⟩ : ByteArray)] ⟨by simp, by rw [jB_one]; decide, by simp, by rw [jB_one]; decide⟩
      rw [jB_one] at h1
      rw [jB_nil]
      refine ⟨r, Ev.succ ?_, Ev.succ ?_⟩
      · set_option simprocs false in simp only [spec_WriteWish.l0, e1, e2]
        exact Ev.pos (by decide) (Ev.pos (by decide) (Ev.pos g1 (Ev.neg c (Ev.pos (by rw [tl_nil]; rfl) (Ev.neg (by decide) (Ev.pos (by decide) h1))))))
      · set_option simprocs false in simp only [impl_WriteWish.l0, e1]
        exact Ev.pos (by decide) (Ev.pos (by decide) (Ev.pos g1 (Ev.pos (by omega) (Ev.bnd0 rfl (Ev.pos (by decide) (Ev.pos (by decide) h2))))))
    · obtain ⟨r, h1, h2⟩ := hin (xs ++ [(⟨#[97, 118, 111, 105, 100]⟩ : ByteArray)]) (hx.snoc (by decide))
      rw [jB_snoc2 _ _ hx.ne] at h1
      have hp := hx.pos
      have e6 : (jB xs ++ (⟨#[32]⟩ : ByteArray)).size = (jB xs).size + 1 := by rw [sz_app]; rfl
      refine ⟨r, Ev.succ ?_, Ev.succ ?_⟩
      · set_option simprocs false in simp only [spec_WriteWish.l0, e1, e2]
        exact Ev.pos (by decide) (Ev.pos (by decide) (Ev.pos g1 (Ev.neg c (Ev.neg (by rw [tl_nil]; omega) (Ev.pos (by omega) (Ev.neg (by decide) (Ev.pos (by omega) h1)))))))
      · set_option simprocs false in simp only [impl_WriteWish.l0, e1]
        exact Ev.pos (by decide) (Ev.pos (by decide) (Ev.pos g1 (Ev.pos (by omega) (Ev.bnd0 rfl (Ev.pos (by decide) (Ev.pos (by omega) h2))))))
include hr hrs
theorem write_0 : ∃ r, Ev (fun k => spec_WriteWish.l0 k (⟨#[]⟩ : ByteArray) [reach, avoid] 2 0) r ∧ Ev (fun k => impl_WriteWish.l0 k [] [reach, avoid] 2 0) r := by
  have e1 : rd_L4 [reach, avoid] 0 = reach := rfl
  have g1 : (0 : Int) < (([reach, avoid] : List (List ByteArray)).length : Int) := (by decide : (0 : Int) < ((2 : Nat) : Int))
  have e2 : wrap64 (0 + 1) = 1 := by rw [wrap64_id (by omega) (by omega)]; rfl
  by_cases c : (reach.length : Int) = 0
  · obtain ⟨r, h1, h2⟩ := write_1 reach avoid ha has [] (.inl rfl)
    rw [jB_nil] at h1
    have h3 : Ev (fun k => impl_WriteWish.l1 k [] [reach, avoid] 2 0 reach reach.length 0) r := by
      refine Ev.succ ?_
      set_option simprocs false in simp only [impl_WriteWish.l1, e2]
      exact Ev.neg (by omega) h2
    refine ⟨r, Ev.succ ?_, Ev.succ ?_⟩
    · set_option simprocs false in simp only [spec_WriteWish.l0, e1, e2]
      exact Ev.pos (by decide) (Ev.pos (by decide) (Ev.pos g1 (Ev.pos c h1)))
    · set_option simprocs false in simp only [impl_WriteWish.l0, e1]
      exact Ev.pos (by decide) (Ev.pos (by decide) (Ev.pos g1 (Ev.neg (by omega) h3)))
  · obtain ⟨r, h1, h2⟩ := write_in reach hr hrs [reach, avoid] 2 0 1 (by decide) (fun zs hz => by rw [e2]; exact write_1 reach avoid ha has zs (.inr ⟨hz.ne, hz.pos, by have := hz.len; omega, hz.sz⟩)) reach.length 0 [(⟨#[114, 101, 97, 99, 104]⟩ : ByteArray)] (by omega) ⟨by simp, by rw [jB_one]; decide, by simp, by rw [jB_one]; decide⟩
    rw [jB_one] at h1
    refine ⟨r, Ev.succ ?_, Ev.succ ?_⟩
    · set_option simprocs false in simp only [spec_WriteWish.l0, e1, e2]
      exact Ev.pos (by decide) (Ev.pos (by decide) (Ev.pos g1 (Ev.neg c (Ev.pos (by rw [tl_nil]; rfl) (Ev.pos trivial (Ev.pos (by decide) h1))))))
    · set_option simprocs false in simp only [impl_WriteWish.l0, e1]
      exact Ev.pos (by decide) (Ev.pos (by decide) (Ev.pos g1 (Ev.pos (by omega) (Ev.bnd0 rfl (Ev.pos (by decide) (Ev.pos (by decide) h2))))))
end
theorem write_both {reach avoid : List ByteArray} (h : SmallW reach avoid) : ∃ r, Ev (fun k => spec_WriteWish.f k reach avoid) r ∧ Ev (fun k => impl_WriteWish.f k reach avoid) r := by
  have hg := l22Good_ev reach avoid h.r2 h.a2
  have hi := goodWish_eq reach avoid h.r1 h.r2 h.a1 h.a2
  by_cases c : WishOk reach avoid
  · obtain ⟨r, h1, h2⟩ := write_0 reach avoid c.1.1 h.r2 c.2.1 h.a2
    exact ⟨r, Ev.bnd hg (Ev.pos (decide_eq_true c) (Ev.bnd0 rfl h1)), Ev.bnd0 hi (Ev.pos (decide_eq_true c) (Ev.bnd0 rfl h2))⟩
  · exact ⟨((⟨#[]⟩ : ByteArray), false), Ev.bnd hg (Ev.neg (by simpa using c) (Ev.some rfl)), Ev.bnd0 hi (Ev.neg (by simpa using c) (Ev.some rfl))⟩
end Go.Proofs.YtdihodboopeakaaDoor.Pure
/- THE LAW FnExactWriteWish, as a statement over numbers and lists: proved here. -/
namespace Go.Proofs.YtdihodboopeakaaDoor.Pure
open Go.RowKit Go.Proofs.YtdihodboopeakaaDoorW.PrintWords Go.Proofs.YtdihodboopeakaaDoorW.PrintLast Go.Proofs.YtdihodboopeakaaDoor.Pr Go.Proofs.YtdihodboopeakaaDoor.EvKit

theorem FnExactWriteWish : ∀ (l0_0 : List ByteArray) (l0_1 : List ByteArray), ((l0_0.length ≤ maxLen ∧ l0_0.length * 16 ≤ 140737488351232 ∧ ∀ y0 ∈ l0_0, y0.size ≤ 140737488351232) ∧ (l0_1.length ≤ maxLen ∧ l0_1.length * 16 ≤ 140737488351232 ∧ ∀ y0 ∈ l0_1, y0.size ≤ 140737488351232)) → ∃ k, laws_FnExactWriteWish.f k l0_0 l0_1 = some true := by
  intro l0_0 l0_1 ⟨⟨b1, _, b2⟩, ⟨b3, _, b4⟩⟩
  unfold maxLen at b1 b3
  suffices h : Ev (fun k => laws_FnExactWriteWish.f k l0_0 l0_1) true by
    obtain ⟨K, hK⟩ := h
    exact ⟨K, hK K (Nat.le_refl _)⟩
  unfold laws_FnExactWriteWish.f
  obtain ⟨r, e1, f1⟩ := szWish_ev l0_0 l0_1 1048576 (by decide) (by decide) (by omega) b2 (by omega) b4
  refine Ev.bnd e1 ?_
  by_cases c : r < 0
  · exact Ev.pos c (Ev.some rfl)
  obtain ⟨_, hw⟩ := f1 c
  obtain ⟨x, h1, h2⟩ := write_both hw
  refine Ev.neg c (Ev.bnd (toWish_ev hw) (Ev.bnd h1 (Ev.bnd (toWish_ev hw) (Ev.bnd h2 (Ev.pos rfl ?_)))))
  refine Ev.succ ?_
  simp only [laws_FnExactWriteWish.j0]
  refine Ev.neg (by simp) (Ev.bnd (toWish_ev hw) (Ev.bnd (eqWish_ev hw) (Ev.pos rfl (Ev.some rfl))))
end Go.Proofs.YtdihodboopeakaaDoor.Pure
