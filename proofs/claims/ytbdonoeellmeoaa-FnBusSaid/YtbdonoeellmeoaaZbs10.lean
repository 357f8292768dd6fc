-- Joined and pruned by wip/tools/prune.py out of this session's own texts (PureBase, Prd2, Rbp, PureBusM, PureBits, PureArbitrate, PureCur, PureLeast, Rbq, Rch, Rcn, Rbh, PureBfw, Prd3, Pr15)
import Derived.Test.YtbdonoeellmeoaaZbs9
import Derived.Laws.BitsAllLaws
import Derived.Laws.BitsLemmas
import Derived.Laws.CopyRow
import Derived.Outline
/-
Own text: what many of the pure proofs use: 'for all from i on', counters, 'between', the copy and the comparison of slices of bytes.
-/
namespace Go.Proofs.Ytbdonoeellmeoaa.Pure
open Go.RowKit Go.Proofs.YtbdonoeellmeoaaW.PrintWords Go.Proofs.Ytbdonoeellmeoaa.EvKit

def From (n i : Nat) (C : Nat → Prop) : Prop := ∀ j, i ≤ j → j < n → C j
theorem From.end_ {n i : Nat} {C : Nat → Prop} (h : n ≤ i) : From n i C := fun j h1 h2 => by omega
theorem From.step {n i : Nat} {C : Nat → Prop} (h : i < n) : From n i C ↔ C i ∧ From n (i + 1) C := by
  constructor
  · exact fun a => ⟨a i (Nat.le_refl i) h, fun j h1 h2 => a j (by omega) h2⟩
  · rintro ⟨a, b⟩ j h1 h2
    by_cases e : j = i
    · exact e ▸ a
    · exact b j (by omega) h2
/-- One of those from i on, below n. -/
def Some_ (n i : Nat) (C : Nat → Prop) : Prop := ∃ j, i ≤ j ∧ j < n ∧ C j
theorem Some_.end_ {n i : Nat} {C : Nat → Prop} (h : n ≤ i) : ¬ Some_ n i C := by
  rintro ⟨j, h1, h2, _⟩
  omega
theorem Some_.step {n i : Nat} {C : Nat → Prop} (h : i < n) : Some_ n i C ↔ C i ∨ Some_ n (i + 1) C := by
  constructor
  · rintro ⟨j, h1, h2, h3⟩
    by_cases e : j = i
    · exact Or.inl (e ▸ h3)
    · exact Or.inr ⟨j, by omega, h2, h3⟩
  · rintro (a | ⟨j, h1, h2, h3⟩)
    · exact ⟨i, Nat.le_refl i, h, a⟩
    · exact ⟨j, by omega, h2, h3⟩
theorem succ_w {i : Nat} (h : i < 35184372088833) : wrap64 ((i : Int) + 1) = ((i + 1 : Nat) : Int) := by rw [wrap64_id (by omega) (by omega)]; omega
end Go.Proofs.Ytbdonoeellmeoaa.Pure
-- Written by this session's own print (wip/tools/mkmp.py) out of the translation. Lean checks it.
namespace Go.Proofs.Ytbdonoeellmeoaa.Pr
open Go.RowKit Go.Proofs.YtbdonoeellmeoaaW.PrintWords Go.Proofs.YtbdonoeellmeoaaW.PrintLast Go.Proofs.YtbdonoeellmeoaaW.PrintMore
attribute [local go_sem] max2_int min2_int max_two min_two max_three min_three max_four min_four   -- for this text's walks alone
set_option linter.unusedVariables false
set_option linter.unusedSimpArgs false

/-! ### spec_GoodFrame: function 9 -/
def spec_GoodFrame.f (a0_0 : Int) (l0_1 : List Int) : Option (Bool) := if a0_0 ≥ 0 then (if a0_0 ≤ 2047 then (some (decide ((l0_1.length : Int) ≤ 8))) else (some false)) else (some false)

/-! ### spec_l23Talker: function 46 -/
mutual
def spec_l23Talker.j0 : Nat → Bool → List (S27) → Int → Int → Bool → Option (Bool)
  | 0, _, _, _, _, _ => none
  | k + 1, x36, x397000, x397001, x397002, x397003 => if x36 = true then (some false) else (spec_l23Talker.l0 k x397000 (x397000.length : Int) 0)
def spec_l23Talker.l0 : Nat → List (S27) → Int → Int → Option (Bool)
  | 0, _, _, _ => none
  | k + 1, x38, x39, x40 => if x40 < x39 then (if 0 ≤ x40 then (if x40 < (x38.length : Int) then ((spec_GoodFrame.f ((rd_T27 x38 x40).f0) ((rd_T27 x38 x40).f1)).bind fun t399 => (if t399 = true then (spec_l23Talker.l0 k x38 x39 (wrap64 (x40 + 1))) else (some false))) else (none)) else (none)) else (some true)
end
def spec_l23Talker.f (k : Nat) (l0_0 : List (S27)) (a0_1 : Int) (a0_2 : Int) (a0_3 : Bool) : Option (Bool) := if (l0_0.length : Int) > 8 then (spec_l23Talker.j0 k true l0_0 a0_1 a0_2 a0_3) else (if a0_1 < 1 then (spec_l23Talker.j0 k true l0_0 a0_1 a0_2 a0_3) else (if a0_1 > 10 then (spec_l23Talker.j0 k true l0_0 a0_1 a0_2 a0_3) else (if a0_2 < 0 then (spec_l23Talker.j0 k true l0_0 a0_1 a0_2 a0_3) else (if a0_2 > 255 then (spec_l23Talker.j0 k true l0_0 a0_1 a0_2 a0_3) else (spec_l23Talker.j0 k (a0_3 != (a0_2 == 255)) l0_0 a0_1 a0_2 a0_3)))))
/-! ### spec_l23Frames: function 47 -/
def spec_l23Frames.l0 : Nat → List (S27) → List (S27) → Int → Int → Option ((List (S27)))
  | 0, _, _, _, _ => none
  | k + 1, x3, x6, x7, x8 => if x8 < x7 then (if 0 ≤ x8 then (if x8 < (x6.length : Int) then ((some (([] : List Int) : List Int)).bind fun y402 => (if y402.length + ((rd_T27 x6 x8).f1).length < 140737488355328 then (if x3.length < 4398046511104 then (spec_l23Frames.l0 k (x3 ++ [(⟨(rd_T27 x6 x8).f0, (y402 ++ ((rd_T27 x6 x8).f1))⟩ : S27)]) x6 x7 (wrap64 (x8 + 1))) else (none)) else (none))) else (none)) else (none)) else (some x3)
def spec_l23Frames.f (k : Nat) (l0 : List (S27)) : Option ((List (S27))) := spec_l23Frames.l0 k ([] : List (S27)) l0 (l0.length : Int) 0
end Go.Proofs.Ytbdonoeellmeoaa.Pr
/-
Own text: what the talkers' checks answer (plain).
-/
namespace Go.Proofs.Ytbdonoeellmeoaa.Pure
open Go.RowKit Go.Proofs.YtbdonoeellmeoaaW.PrintWords Go.Proofs.YtbdonoeellmeoaaW.PrintLast Go.Proofs.Ytbdonoeellmeoaa.Pr Go.Proofs.Ytbdonoeellmeoaa.EvKit Go.Proofs.Ytbdonoeellmeoaa.Bus
set_option linter.unusedVariables false
theorem btw0 (a lo hi : Int) : impl_between.f a lo hi = some (decide (lo ≤ a ∧ a ≤ hi)) := by
  unfold impl_between.f
  by_cases c : a ≥ lo
  · rw [if_pos c]
    congr 1
    exact decide_eq_decide.2 ⟨fun h => ⟨c, h⟩, fun h => h.2⟩
  · rw [if_neg c]
    congr 1
    exact (decide_eq_false (fun h => c h.1)).symm
theorem gf0 (f : S27) : impl_GoodFrame.f f.f0 f.f1 = some (goodF f) ∧ spec_GoodFrame.f f.f0 f.f1 = some (goodF f) := by
  unfold impl_GoodFrame.f spec_GoodFrame.f goodF
  rw [btw0]
  by_cases h1 : 0 ≤ f.f0
  · by_cases h2 : f.f0 ≤ 2047
    · refine ⟨?_, ?_⟩
      · simp [h1, h2]
        omega
      · simp [h1, h2]
        omega
    · refine ⟨?_, ?_⟩ <;> simp [h2]
  · refine ⟨?_, ?_⟩ <;> simp [h1]
theorem drop_all (q : List S27) (i : Nat) (h : i < q.length) : (q.drop i).all goodF = (goodF (rd_T27 q (i : Int)) && (q.drop (i + 1)).all goodF) := by
  rw [List.drop_eq_getElem_cons h, List.all_cons]
  congr 2
  show q[i] = q.getD i z27
  simp [List.getD_eq_getElem?_getD, List.getElem?_eq_getElem h]
def restT (t : S66) : Bool := decide (t.f0.length ≤ 8) && (decide (1 ≤ t.f1 ∧ t.f1 ≤ 10) && (decide (0 ≤ t.f2 ∧ t.f2 ≤ 255) && (t.f3 == (t.f2 == 255))))
theorem goodT_eq (t : S66) : goodT t = (t.f0.all goodF && restT t) := rfl
theorem succ_b {i : Nat} (h : i < 1048577) : wrap64 ((i : Int) + 1) = ((i + 1 : Nat) : Int) := by rw [wrap64_id (by omega) (by omega)]; omega
theorem goodTalker_l0 (t : S66) (hl : t.f0.length ≤ 1048576) (d : Nat) : ∀ i : Nat, i + d = t.f0.length → Ev (fun k => impl_goodTalker.l0 k t.f0 (t.f0.length : Int) (i : Int) t.f0 t.f1 t.f2 t.f3) ((t.f0.drop i).all goodF && restT t) := by
  induction d with
  | zero =>
    intro i hi
    obtain rfl : i = t.f0.length := by omega
    refine Ev.succ ?_
    simp only [impl_goodTalker.l0]
    refine Ev.neg (by omega) ?_
    rw [List.drop_length]
    unfold restT
    by_cases c1 : t.f0.length ≤ 8
    · refine Ev.pos (by omega) (Ev.bnd0 (btw0 _ _ _) ?_)
      by_cases c2 : 1 ≤ t.f1 ∧ t.f1 ≤ 10
      · refine Ev.pos (decide_eq_true c2) (Ev.bnd0 (btw0 _ _ _) ?_)
        by_cases c3 : 0 ≤ t.f2 ∧ t.f2 ≤ 255
        · exact Ev.pos (decide_eq_true c3) (Ev.some (by simp [c1, c2, c3]))
        · exact Ev.neg (by rw [decide_eq_false c3]; decide) (Ev.some (by rw [decide_eq_false c3]; simp))
      · exact Ev.neg (by rw [decide_eq_false c2]; decide) (Ev.some (by rw [decide_eq_false c2]; simp))
    · exact Ev.neg (by omega) (Ev.some (by rw [decide_eq_false c1]; simp))
  | succ d ih =>
    intro i hi
    refine Ev.succ ?_
    simp only [impl_goodTalker.l0]
    rw [drop_all t.f0 i (by omega)]
    refine Ev.pos (by omega) (Ev.pos (by omega) (Ev.pos (by omega) (Ev.bnd0 (gf0 _).1 ?_)))
    by_cases c : goodF (rd_T27 t.f0 (i : Int)) = true
    · refine Ev.pos c ?_
      rw [c, succ_b (by omega), Bool.true_and]
      exact ih (i + 1) (by omega)
    · refine Ev.neg c (Ev.some ?_)
      rw [Bool.eq_false_iff.2 c]
      rfl
theorem goodTalker_ev (t : S66) (hs : smallT t = true) : Ev (fun k => impl_goodTalker.f k t.f0 t.f1 t.f2 t.f3) (goodT t) := by
  unfold smallT at hs
  simp only [Bool.and_eq_true, decide_eq_true_eq] at hs
  have := goodTalker_l0 t hs.1 t.f0.length 0 (by omega)
  simpa [goodT_eq, impl_goodTalker.f] using this
theorem l23Talker_l0 (t : S66) (hl : t.f0.length ≤ 1048576) (d : Nat) : ∀ i : Nat, i + d = t.f0.length → Ev (fun k => spec_l23Talker.l0 k t.f0 (t.f0.length : Int) (i : Int)) ((t.f0.drop i).all goodF) := by
  induction d with
  | zero =>
    intro i hi
    obtain rfl : i = t.f0.length := by omega
    refine Ev.succ ?_
    simp only [spec_l23Talker.l0]
    exact Ev.neg (by omega) (Ev.some (by rw [List.drop_length]; rfl))
  | succ d ih =>
    intro i hi
    refine Ev.succ ?_
    simp only [spec_l23Talker.l0]
    rw [drop_all t.f0 i (by omega)]
    refine Ev.pos (by omega) (Ev.pos (by omega) (Ev.pos (by omega) (Ev.bnd0 (gf0 _).2 ?_)))
    by_cases c : goodF (rd_T27 t.f0 (i : Int)) = true
    · refine Ev.pos c ?_
      rw [c, succ_b (by omega), Bool.true_and]
      exact ih (i + 1) (by omega)
    · refine Ev.neg c (Ev.some ?_)
      rw [Bool.eq_false_iff.2 c]
      rfl
theorem l23Talker_ev (t : S66) (hs : smallT t = true) : Ev (fun k => spec_l23Talker.f k t.f0 t.f1 t.f2 t.f3) (goodT t) := by
  unfold smallT at hs
  simp only [Bool.and_eq_true, decide_eq_true_eq] at hs
  have hl := l23Talker_l0 t hs.1 t.f0.length 0 (by omega)
  rw [List.drop_zero] at hl
  rw [goodT_eq]
  have no (x : Bool) (hx : x = true) (hf : restT t = false) : Ev (fun k => spec_l23Talker.j0 k x t.f0 t.f1 t.f2 t.f3) (t.f0.all goodF && restT t) := by
    subst hx
    refine Ev.succ ?_
    simp only [spec_l23Talker.j0]
    exact Ev.pos trivial (Ev.some (by rw [hf, Bool.and_false]))
  unfold spec_l23Talker.f
  by_cases c1 : t.f0.length ≤ 8
  · refine Ev.neg (by omega) ?_
    by_cases c2 : t.f1 < 1
    · exact Ev.pos c2 (no true rfl (by unfold restT; rw [decide_eq_false (show ¬ (1 ≤ t.f1 ∧ t.f1 ≤ 10) by omega)]; simp))
    · refine Ev.neg c2 ?_
      by_cases c3 : t.f1 > 10
      · exact Ev.pos c3 (no true rfl (by unfold restT; rw [decide_eq_false (show ¬ (1 ≤ t.f1 ∧ t.f1 ≤ 10) by omega)]; simp))
      · refine Ev.neg c3 ?_
        by_cases c4 : t.f2 < 0
        · exact Ev.pos c4 (no true rfl (by unfold restT; rw [decide_eq_false (show ¬ (0 ≤ t.f2 ∧ t.f2 ≤ 255) by omega)]; simp))
        · refine Ev.neg c4 ?_
          by_cases c5 : t.f2 > 255
          · exact Ev.pos c5 (no true rfl (by unfold restT; rw [decide_eq_false (show ¬ (0 ≤ t.f2 ∧ t.f2 ≤ 255) by omega)]; simp))
          · refine Ev.neg c5 ?_
            by_cases c6 : (t.f3 != (t.f2 == 255)) = true
            · refine no _ c6 ?_
              unfold restT
              rw [show (t.f3 == (t.f2 == 255)) = false by simpa [bne] using c6]
              simp
            · refine Ev.succ ?_
              simp only [spec_l23Talker.j0]
              refine Ev.neg c6 ?_
              have hr : restT t = true := by
                unfold restT
                rw [decide_eq_true c1, decide_eq_true (show 1 ≤ t.f1 ∧ t.f1 ≤ 10 by omega), decide_eq_true (show 0 ≤ t.f2 ∧ t.f2 ≤ 255 by omega), show (t.f3 == (t.f2 == 255)) = true by simpa [bne] using c6]
                rfl
              rw [hr, Bool.and_true]
              exact hl
  · exact Ev.pos (by omega) (no true rfl (by unfold restT; rw [decide_eq_false c1]; rfl))
theorem mem_drop_step' (l : List Int) (i : Nat) (s : Int) (h : i < l.length) : s ∈ l.drop i ↔ s = l.getD i 0 ∨ s ∈ l.drop (i + 1) := by
  rw [List.drop_eq_getElem_cons h, List.mem_cons]
  simp [List.getD_eq_getElem?_getD, List.getElem?_eq_getElem h]
theorem succ_w2 (i : Nat) (h : i ≤ 1048576) : wrap64 ((i : Int) + 1) = ((i + 1 : Nat) : Int) := succ_b (by omega)
theorem containsI_l0 (l : List Int) (s : Int) (hl : l.length ≤ 1048576) (d : Nat) : ∀ i : Nat, i + d = l.length → ∃ r : Int, Ev (fun k => slices_Index_int_int.l0 k l s l.length i) r ∧ (r ≥ 0 ↔ s ∈ l.drop i) := by
  induction d with
  | zero =>
    intro i hi
    refine ⟨-1, ?_, ?_⟩
    · apply Ev.succ
      simp only [slices_Index_int_int.l0, show ¬ ((i : Int) < (l.length : Int)) by omega, if_false]
      exact Ev.some rfl
    · rw [List.drop_of_length_le (by omega)]
      simp
  | succ d ih =>
    intro i hi
    have hm := mem_drop_step' l i s (by omega)
    have e : rd l (i : Int) = l.getD i 0 := rfl
    by_cases c : s = l.getD i 0
    · refine ⟨i, ?_, ⟨fun _ => hm.2 (Or.inl c), fun _ => by omega⟩⟩
      apply Ev.succ
      simp only [slices_Index_int_int.l0, show ((i : Int) < (l.length : Int)) by omega, show (0 : Int) ≤ (i : Int) by omega, if_true, e]
      exact Ev.pos c (Ev.some rfl)
    · obtain ⟨r, h1, h2⟩ := ih (i + 1) (by omega)
      refine ⟨r, ?_, ⟨fun h => hm.2 (Or.inr (h2.1 h)), fun h => h2.2 ((hm.1 h).elim (fun h => absurd h c) id)⟩⟩
      apply Ev.succ
      simp only [slices_Index_int_int.l0, show ((i : Int) < (l.length : Int)) by omega, show (0 : Int) ≤ (i : Int) by omega, if_true, e, succ_w2 i (by omega)]
      exact Ev.neg c h1
theorem containsI_ev (l : List Int) (s : Int) (hl : l.length ≤ 1048576) : Ev (fun k => slices_Contains_int_int.f k l s) (decide (s ∈ l)) := by
  unfold slices_Contains_int_int.f slices_Index_int_int.f
  obtain ⟨r, h1, h2⟩ := containsI_l0 l s hl l.length 0 (by omega)
  exact Ev.bnd (by simpa using h1) (Ev.some (decide_eq_decide.2 (by simpa using h2)))
end Go.Proofs.Ytbdonoeellmeoaa.Pure
/-
Own text: the rounds of the bus, and what BusFine makes of what was sent (plain).
-/
namespace Go.Proofs.Ytbdonoeellmeoaa.Bus
open Go.RowKit Go.Proofs.Ytbdonoeellmeoaa.Pr
theorem busFrom_succ (pk : List Int → Nat) (w : Nat) (sp : List Int) (n r : Nat) (now : List Tk) (used : List Int) (out : List St) : busFrom pk w sp (n + 1) r now used out =
    (if candTo now (if r % w = 0 then List.replicate now.length 0 else used) now.length = [] then busFrom pk w sp n (r + 1) now (if r % w = 0 then List.replicate now.length 0 else used) out
    else busFrom pk w sp n (r + 1) (now.set (stepI pk now (if r % w = 0 then List.replicate now.length 0 else used)) (sentBy (!decide ((r : Int) ∈ sp)) (tkAt now (stepI pk now (if r % w = 0 then List.replicate now.length 0 else used)))))
      ((if r % w = 0 then List.replicate now.length 0 else used).set (stepI pk now (if r % w = 0 then List.replicate now.length 0 else used)) ((if r % w = 0 then List.replicate now.length 0 else used).getD (stepI pk now (if r % w = 0 then List.replicate now.length 0 else used)) 0 + 1))
      (out ++ [⟨(r : Int), (stepI pk now (if r % w = 0 then List.replicate now.length 0 else used) : Int), headId (tkAt now (stepI pk now (if r % w = 0 then List.replicate now.length 0 else used))), !decide ((r : Int) ∈ sp)⟩])) := rfl
theorem ffold_snoc (l : List Tk) (w : Nat) (s : St) : ∀ (o : List St) (S : FS), ffold l w S (o ++ [s]) = (ffold l w S o).bind fun S1 => fstep l w S1 s
  | [], S => by
    show (fstep l w S s).bind (fun S1 => some S1) = fstep l w S s
    cases fstep l w S s <;> rfl
  | a :: o, S => by
    show (fstep l w S a).bind (fun S1 => ffold l w S1 (o ++ [s])) = ((fstep l w S a).bind fun S1 => ffold l w S1 o).bind _
    cases fstep l w S a with
    | none => rfl
    | some S1 => exact ffold_snoc l w s o S1
theorem tk_ext {a b : S66} (h0 : a.f0 = b.f0) (h1 : a.f1 = b.f1) (h2 : a.f2 = b.f2) (h3 : a.f3 = b.f3) : a = b := by
  cases a; cases b; simp only at h0 h1 h2 h3; rw [h0, h1, h2, h3]
structure Rel (l : List Tk) (w r : Nat) (now : List Tk) (used : List Int) (S : FS) : Prop extends Same l now S where
  lt : S.last < (r : Int)
  us : used.length = l.length
  ue : ∀ i, i < l.length → (if r % w = 0 then List.replicate now.length 0 else used).getD i 0 = (useOf w S l.length (r : Int)).getD i 0
theorem getD_set {α : Type} (l : List α) (i j : Nat) (v d : α) (h : i < l.length) : (l.set i v).getD j d = if j = i then v else l.getD j d := by
  simp only [List.getD_eq_getElem?_getD]
  by_cases c : j = i
  · subst c
    simp [h]
  · rw [if_neg c, List.getElem?_set_ne (Ne.symm c)]
theorem getD_map {α β : Type} (l : List α) (f : α → β) (k : Nat) (d : β) (e : α) (h : k < l.length) : (l.map f).getD k d = f (l.getD k e) := by simp [List.getD_eq_getElem?_getD, h]
theorem cand_mem (now : List Tk) (u : List Int) (n i : Nat) : i ∈ candTo now u n ↔ i < n ∧ may now u i = true := by unfold candTo; simp
theorem may_iff (now : List Tk) (u : List Int) (i : Nat) : may now u i = true ↔ (tkAt now i).f3 = false ∧ 0 < (tkAt now i).f0.length ∧ u.getD i 0 < (tkAt now i).f1 := by
  unfold may
  simp [and_assoc]
theorem head_at {l now : List Tk} {S : FS} (h : Same l now S) (i : Nat) (hi : i < l.length) : headId (tkAt now i) = atId l S i := by
  unfold headId atId
  rw [h.tk i hi]
  simp [List.getD_eq_getElem?_getD]
theorem shut_iff {l now : List Tk} {S : FS} (h : Same l now S) (u u' : List Int) (i : Nat) (hi : i < l.length) (hu : u.getD i 0 = u'.getD i 0) : shut l S u' i ↔ may now u i = false := by
  have e := may_iff now u i
  rw [h.tk i hi] at e
  have a0 := h.a0 i hi
  rw [← Bool.not_eq_true, e]
  unfold shut
  rw [hu]
  simp only [List.length_drop, decide_eq_false_iff_not]
  omega
/-- The rounds, and what BusFine makes of what was sent. -/
theorem run_fine (pk : List Int → Nat) (hpk : ∀ xs : List Int, xs ≠ [] → pk xs < xs.length ∧ ∀ x ∈ xs, xs.getD (pk xs) 0 ≤ x) (l : List Tk) (w : Nat) (hw : 0 < w) (sp : List Int) (S0 : FS) (n : Nat) :
    ∀ (r : Nat) (now : List Tk) (used : List Int) (out : List St) (S : FS), Rel l w r now used S → ffold l w S0 out = some S →
      ∃ S', ffold l w S0 (busFrom pk w sp n r now used out).1 = some S' ∧ Same l (busFrom pk w sp n r now used out).2 S' := by
  induction n with
  | zero => intro r now used out S h hf; exact ⟨S, hf, h.toSame⟩
  | succ n ih =>
    intro r now used out S h hf
    rw [busFrom_succ]
    have hue := h.ue
    have hul : (if r % w = 0 then List.replicate now.length (0 : Int) else used).length = l.length := by
      split
      · simp [h.ln]
      · exact h.us
    -- the next round's use
    have next (S2 : FS) (u : List Int) (hl2 : S2.last ≤ (r : Int)) (h1 : -1 ≤ S2.last) (hu : ∀ i, i < l.length → u.getD i 0 = (useOf w S2 l.length (r : Int)).getD i 0) :
        ∀ i, i < l.length → (if (r + 1) % w = 0 then List.replicate now.length (0 : Int) else u).getD i 0 = (useOf w S2 l.length ((r + 1 : Nat) : Int)).getD i 0 := by
      intro i hi
      have z (m : Nat) : (List.replicate m (0 : Int)).getD i 0 = 0 := by
        simp only [List.getD_eq_getElem?_getD, List.getElem?_replicate]
        split <;> rfl
      unfold useOf at hu ⊢
      have td (a : Nat) : Int.tdiv (a : Int) (w : Int) = ((a / w : Nat) : Int) := rfl
      by_cases c0 : S2.last < 0
      · rw [if_pos (Or.inl c0)]
        by_cases c : (r + 1) % w = 0
        · rw [if_pos c, z, z]
        · rw [if_neg c]
          have := hu i hi
          rw [if_pos (Or.inl c0)] at this
          rw [this]
      · obtain ⟨q, hq⟩ : ∃ q : Nat, S2.last = (q : Int) := ⟨S2.last.toNat, by omega⟩
        rw [hq, td, td]
        by_cases c : (r + 1) % w = 0
        · rw [if_pos c, z]
          rw [if_pos (Or.inr ?_), z]
          have h2 : q / w < (r + 1) / w := by
            have h3 : (r + 1) / w * w = r + 1 := by have := Nat.div_add_mod (r + 1) w; rw [c, Nat.mul_comm] at this; omega
            rw [Nat.div_lt_iff_lt_mul hw, h3]
            omega
          omega
        · rw [if_neg c, hu i hi]
          have h4 : (r + 1) / w = r / w := by
            have h5 : (r + 1) / w = r / w + if w ∣ r + 1 then 1 else 0 := Nat.succ_div
            rw [h5, if_neg (fun hd => c (Nat.mod_eq_zero_of_dvd hd))]
            rfl
          rw [h4, hq, td, td]
    generalize (if r % w = 0 then List.replicate now.length (0 : Int) else used) = u at hue hul ⊢
    by_cases c : candTo now u now.length = []
    · rw [if_pos c]
      exact ih (r + 1) now u out S ⟨h.toSame, by have := h.lt; omega, hul, next S u (by have := h.lt; omega) h.la1 hue⟩ hf
    · rw [if_neg c]
      obtain ⟨p1, p2⟩ := hpk (idsTo now u now.length) (by unfold idsTo; simpa using c)
      have p3 : pk (idsTo now u now.length) < (candTo now u now.length).length := by
        have e : (idsTo now u now.length).length = (candTo now u now.length).length := by unfold idsTo; exact List.length_map _
        have p := p1
        rw [e] at p
        exact p
      obtain ⟨i, hi⟩ : ∃ i, stepI pk now u = i := ⟨_, rfl⟩
      have him : i ∈ candTo now u now.length := by
        rw [← hi]
        unfold stepI
        rw [List.getD_eq_getElem?_getD, List.getElem?_eq_getElem p3]
        exact List.getElem_mem p3
      have hid : (idsTo now u now.length).getD (pk (idsTo now u now.length)) 0 = headId (tkAt now i) := by
        rw [← hi]
        unfold stepI
        show ((candTo now u now.length).map fun i => headId (tkAt now i)).getD _ 0 = _
        exact getD_map _ _ _ _ _ p3
      rw [hid] at p2
      obtain ⟨hin, him2⟩ := (cand_mem now u now.length i).1 him
      have hil : i < l.length := by rw [← h.ln]; exact hin
      obtain ⟨g1, g2, g3⟩ := (may_iff now u i).1 him2
      rw [h.tk i hil] at g1 g2 g3
      simp only [decide_eq_false_iff_not, List.length_drop] at g1 g2 g3
      have e0 := h.e0 i hil
      have a0 := h.a0 i hil
      rw [hi]
      generalize hgd : (!decide ((r : Int) ∈ sp)) = good
      -- BusFine's step
      have hall : (List.range l.length).all (fitB l S (useOf w S l.length (r : Int)) (i : Int) (headId (tkAt now i))) = true := by
        rw [List.all_eq_true]
        intro j hj
        have hj := List.mem_range.1 hj
        have hs := shut_iff h.toSame u (useOf w S l.length (r : Int)) j hj (hue j hj)
        unfold fitB
        by_cases cs : shut l S (useOf w S l.length (r : Int)) j
        · rw [if_pos cs]
          have := hs.1 cs
          exact decide_eq_true (fun e => by have e : j = i := by omega
                                            rw [e, him2] at this; cases this)
        · rw [if_neg cs]
          have hm : may now u j = true := by cases hq : may now u j with
            | true => rfl
            | false => exact absurd (hs.2 hq) cs
          refine decide_eq_true ⟨?_, fun e => ?_⟩
          · rw [← head_at h.toSame j hj]
            exact p2 _ (List.mem_map.2 ⟨j, (cand_mem now u now.length j).2 ⟨by rw [h.ln]; exact hj, hm⟩, rfl⟩)
          · have e : j = i := by omega
            rw [e, head_at h.toSame i hil]
      have hst := ffold_snoc l w (⟨(r : Int), (i : Int), headId (tkAt now i), good⟩ : St) out S0
      rw [hf] at hst
      have hst2 : ffold l w S0 (out ++ [(⟨(r : Int), (i : Int), headId (tkAt now i), good⟩ : St)]) = fstep l w S (⟨(r : Int), (i : Int), headId (tkAt now i), good⟩ : St) := hst
      have hlt := h.lt
      unfold fstep at hst2
      rw [if_pos ⟨hlt, (by show (0 : Int) ≤ (i : Int); omega), (by show (i : Int) < (l.length : Int); omega)⟩, if_pos hall] at hst2
      have hlu : (useOf w S l.length (r : Int)).length = l.length := by
        unfold useOf
        split
        · simp
        · exact h.lu
      refine ih (r + 1) _ _ _ _ ?_ hst2
      have hio : ((i : Int)).toNat = i := rfl
      have hu2 (S2 : FS) (hS2 : S2.used = (useOf w S l.length (r : Int)).set i ((useOf w S l.length (r : Int)).getD i 0 + 1)) (hS3 : S2.last = (r : Int)) : ∀ j, j < l.length → (u.set i (u.getD i 0 + 1)).getD j 0 = (useOf w S2 l.length (r : Int)).getD j 0 := by
        intro j hj
        have e : useOf w S2 l.length (r : Int) = S2.used := by
          unfold useOf
          rw [hS3, if_neg (by intro h; rcases h with h | h; · omega
                              · exact h rfl)]
        rw [e, hS2, getD_set _ _ _ _ _ (by rw [hul]; exact hil), getD_set _ _ _ _ _ (by rw [hlu]; exact hil), hue j hj, hue i hil]
      cases good with
      | true =>
        have hSa : Same l (now.set i (sentBy true (tkAt now i))) ⟨S.at_.set i (S.at_.getD i 0 + 1), (if 0 < S.err.getD i 0 then S.err.set i (S.err.getD i 0 - 1) else S.err), (useOf w S l.length (r : Int)).set i ((useOf w S l.length (r : Int)).getD i 0 + 1), (r : Int)⟩ := by
          have he (j : Nat) : (if 0 < S.err.getD i 0 then S.err.set i (S.err.getD i 0 - 1) else S.err).getD j 0 = if j = i then (if S.err.getD i 0 - 1 < 0 then 0 else S.err.getD i 0 - 1) else S.err.getD j 0 := by
            by_cases c1 : 0 < S.err.getD i 0
            · rw [if_pos c1, getD_set _ _ _ _ _ (by rw [h.le]; exact hil), if_neg (by omega : ¬ S.err.getD i 0 - 1 < 0)]
            · rw [if_neg c1]
              by_cases c2 : j = i
              · subst c2
                rw [if_pos rfl, if_pos (by omega)]
                omega
              · rw [if_neg c2]
          refine ⟨by simp [h.ln], by simp [h.la], by show (if _ then _ else _ : List Int).length = _; split <;> simp [h.le], by simp [hlu], fun j hj => ?_, fun j hj => ?_, fun j hj => ?_, fun j hj => ?_, by show (-1 : Int) ≤ (r : Int); omega⟩
          · show 0 ≤ (S.at_.set i (S.at_.getD i 0 + 1)).getD j 0
            rw [getD_set _ _ _ _ _ (by rw [h.la]; exact hil)]
            have := h.a0 j hj
            split <;> omega
          · show (S.at_.set i (S.at_.getD i 0 + 1)).getD j 0 ≤ _
            rw [getD_set _ _ _ _ _ (by rw [h.la]; exact hil)]
            have := h.a1 j hj
            split
            · rename_i hji
              subst hji
              omega
            · exact this
          · show 0 ≤ (if 0 < S.err.getD i 0 then S.err.set i (S.err.getD i 0 - 1) else S.err).getD j 0 ∧ (if 0 < S.err.getD i 0 then S.err.set i (S.err.getD i 0 - 1) else S.err).getD j 0 ≤ 255
            rw [he j]
            have := h.e0 j hj
            split
            · split <;> omega
            · exact this
          · show tkAt (now.set i (sentBy true (tkAt now i))) j = ⟨(tkAt l j).f0.drop ((S.at_.set i (S.at_.getD i 0 + 1)).getD j 0).toNat, (tkAt l j).f1, (if 0 < S.err.getD i 0 then S.err.set i (S.err.getD i 0 - 1) else S.err).getD j 0, decide ((if 0 < S.err.getD i 0 then S.err.set i (S.err.getD i 0 - 1) else S.err).getD j 0 = 255)⟩
            rw [he j, getD_set _ _ _ _ _ (by rw [h.la]; exact hil)]
            show (now.set i (sentBy true (tkAt now i))).getD j tk0 = _
            rw [getD_set _ _ _ _ _ hin]
            by_cases c2 : j = i
            · subst c2
              rw [if_pos rfl, if_pos rfl, if_pos rfl]
              show sentBy true (tkAt now j) = _
              rw [h.tk j hj]
              unfold sentBy
              rw [if_pos rfl]
              simp only [List.drop_drop]
              refine tk_ext ?_ rfl rfl ?_
              · show (tkAt l j).f0.drop ((S.at_.getD j 0).toNat + 1) = _
                congr 1
                omega
              · show decide (S.err.getD j 0 = 255) = decide ((if S.err.getD j 0 - 1 < 0 then 0 else S.err.getD j 0 - 1) = 255)
                rw [decide_eq_false g1, decide_eq_false (by split <;> omega)]
            · rw [if_neg c2, if_neg c2, if_neg c2]
              exact h.tk j hj
        exact ⟨hSa, by show (r : Int) < ((r + 1 : Nat) : Int); omega, by simp [hul], fun j hj => by
          rw [List.length_set]
          exact next _ (u.set i (u.getD i 0 + 1)) (Int.le_refl _) (by show (-1 : Int) ≤ (r : Int); omega) (hu2 ⟨S.at_.set i (S.at_.getD i 0 + 1), (if 0 < S.err.getD i 0 then S.err.set i (S.err.getD i 0 - 1) else S.err), (useOf w S l.length (r : Int)).set i ((useOf w S l.length (r : Int)).getD i 0 + 1), (r : Int)⟩ rfl rfl) j hj⟩
      | false =>
        have hSa : Same l (now.set i (sentBy false (tkAt now i))) ⟨S.at_, S.err.set i (if 255 < S.err.getD i 0 + 8 then 255 else S.err.getD i 0 + 8), (useOf w S l.length (r : Int)).set i ((useOf w S l.length (r : Int)).getD i 0 + 1), (r : Int)⟩ := by
          have he (j : Nat) : (S.err.set i (if 255 < S.err.getD i 0 + 8 then 255 else S.err.getD i 0 + 8)).getD j 0 = if j = i then (if 255 < S.err.getD i 0 + 8 then 255 else S.err.getD i 0 + 8) else S.err.getD j 0 := getD_set _ _ _ _ _ (by rw [h.le]; exact hil)
          refine ⟨by simp [h.ln], h.la, by simp [h.le], by simp [hlu], h.a0, h.a1, fun j hj => ?_, fun j hj => ?_, by show (-1 : Int) ≤ (r : Int); omega⟩
          · show 0 ≤ (S.err.set i (if 255 < S.err.getD i 0 + 8 then 255 else S.err.getD i 0 + 8)).getD j 0 ∧ (S.err.set i (if 255 < S.err.getD i 0 + 8 then 255 else S.err.getD i 0 + 8)).getD j 0 ≤ 255
            rw [he j]
            have := h.e0 j hj
            split
            · split <;> omega
            · exact this
          · show tkAt (now.set i (sentBy false (tkAt now i))) j = ⟨(tkAt l j).f0.drop (S.at_.getD j 0).toNat, (tkAt l j).f1, (S.err.set i (if 255 < S.err.getD i 0 + 8 then 255 else S.err.getD i 0 + 8)).getD j 0, decide ((S.err.set i (if 255 < S.err.getD i 0 + 8 then 255 else S.err.getD i 0 + 8)).getD j 0 = 255)⟩
            rw [he j]
            show (now.set i (sentBy false (tkAt now i))).getD j tk0 = _
            rw [getD_set _ _ _ _ _ hin]
            by_cases c2 : j = i
            · subst c2
              rw [if_pos rfl, if_pos rfl]
              show sentBy false (tkAt now j) = _
              rw [h.tk j hj]
              unfold sentBy
              rw [if_neg (by decide)]
            · rw [if_neg c2, if_neg c2]
              exact h.tk j hj
        exact ⟨hSa, by show (r : Int) < ((r + 1 : Nat) : Int); omega, by simp [hul], fun j hj => by
          rw [List.length_set]
          exact next _ (u.set i (u.getD i 0 + 1)) (Int.le_refl _) (by show (-1 : Int) ≤ (r : Int); omega) (hu2 ⟨S.at_, S.err.set i (if 255 < S.err.getD i 0 + 8 then 255 else S.err.getD i 0 + 8), (useOf w S l.length (r : Int)).set i ((useOf w S l.length (r : Int)).getD i 0 + 1), (r : Int)⟩ rfl rfl) j hj⟩
theorem start_rel (l : List Tk) (w : Nat) (h : ∀ i, i < l.length → 0 ≤ (tkAt l i).f2 ∧ (tkAt l i).f2 ≤ 255 ∧ (tkAt l i).f3 = decide ((tkAt l i).f2 = 255)) : Rel l w 0 l (List.replicate l.length 0) (start l) := by
  have z (i : Nat) : (List.replicate l.length (0 : Int)).getD i 0 = 0 := by
    simp only [List.getD_eq_getElem?_getD, List.getElem?_replicate]
    split <;> rfl
  have e (i : Nat) (hi : i < l.length) : (l.map (fun t => t.f2)).getD i 0 = (tkAt l i).f2 := getD_map l _ i 0 tk0 hi
  refine ⟨⟨rfl, by simp [start], by simp [start], by simp [start], fun i hi => by rw [start, z]; exact Int.le_refl _, fun i hi => by rw [start, z]; omega, fun i hi => ?_, fun i hi => ?_, by show (-1 : Int) ≤ -1; omega⟩, by show (-1 : Int) < ((0 : Nat) : Int); omega, by simp, fun i hi => ?_⟩
  · have := h i hi
    show 0 ≤ (l.map (fun t => t.f2)).getD i 0 ∧ (l.map (fun t => t.f2)).getD i 0 ≤ 255
    rw [e i hi]
    exact ⟨this.1, this.2.1⟩
  · have := h i hi
    show tkAt l i = ⟨(tkAt l i).f0.drop ((List.replicate l.length (0 : Int)).getD i 0).toNat, (tkAt l i).f1, (l.map (fun t => t.f2)).getD i 0, decide ((l.map (fun t => t.f2)).getD i 0 = 255)⟩
    rw [z, e i hi, ← this.2.2]
    rfl
  · rw [if_pos (Nat.zero_mod w)]
    unfold useOf
    rw [if_pos (Or.inl (by show (-1 : Int) < 0; omega))]
end Go.Proofs.Ytbdonoeellmeoaa.Bus
/-
Own text: bits of int64 numbers from 0 on.
-/
namespace Go.Proofs.Ytbdonoeellmeoaa.EvKit
open Go.RowKit Go.Proofs.YtbdonoeellmeoaaW.PrintWords Go.Proofs.YtbdonoeellmeoaaW.PrintMore

theorem ofInt_i64 (a : Nat) (ha : a < 9223372036854775808) : (BitVec.ofInt 64 (a : Int)).toNat = a := by
  rw [BitVec.ofInt_natCast, BitVec.toNat_ofNat]; exact Nat.mod_eq_of_lt (by omega)
theorem i64_and_nat (a b : Nat) (ha : a < 9223372036854775808) (hb : b < 9223372036854775808) : bits .and .i64 (a : Int) (b : Int) = ((a &&& b : Nat) : Int) := by
  have hx : a &&& b < 2 ^ 63 := Nat.and_lt_two_pow _ (by omega)
  show IntKind.i64.wrap ((BitVec.ofInt 64 (a : Int) &&& BitVec.ofInt 64 (b : Int)).toNat : Int) = _
  rw [BitVec.toNat_and, ofInt_i64 a ha, ofInt_i64 b hb, IntKind.wrap_i64]
  omega
theorem shr_nat (n s : Nat) (hs : s ≤ 64) : shr .i64 (n : Int) (s : Int) = ((n / 2 ^ s : Nat) : Int) := by
  unfold shr
  rw [show ((s : Int)).toNat = s by omega, Nat.min_eq_left (by simpa [IntKind.bits] using hs)]
  rw [Int.natCast_ediv, Int.natCast_pow]
  rfl
/-- The bit of a number at place s. -/
theorem bit_nat (n s : Nat) (hn : n < 9223372036854775808) (hs : s ≤ 64) : bits .and .i64 (shr .i64 (n : Int) (s : Int)) 1 = ((n / 2 ^ s % 2 : Nat) : Int) := by
  rw [shr_nat n s hs]
  have := i64_and_nat (n / 2 ^ s) 1 (Nat.lt_of_le_of_lt (Nat.div_le_self _ _) hn) (by omega)
  rw [Nat.and_one_is_mod] at this
  exact this
end Go.Proofs.Ytbdonoeellmeoaa.EvKit
/-
Own text: the program's arbitration and the reference's come to the same.
-/
namespace Go.Proofs.Ytbdonoeellmeoaa.Pure
open Go.RowKit Go.Proofs.YtbdonoeellmeoaaW.PrintWords Go.Proofs.YtbdonoeellmeoaaW.PrintLast Go.Proofs.YtbdonoeellmeoaaW.PrintMore Go.Proofs.Ytbdonoeellmeoaa.Pr Go.Proofs.Ytbdonoeellmeoaa.EvKit
open Classical

theorem btw (a lo hi : Int) : impl_between.f a lo hi = some (decide (lo ≤ a ∧ a ≤ hi)) := by
  unfold impl_between.f
  by_cases h : a ≥ lo <;> simp [h] <;> omega
/-- Ids that may be. -/
def Ids (l : List Int) (i : Nat) : Prop := From l.length i fun j => 0 ≤ l.getD j 0 ∧ l.getD j 0 ≤ 2047
/-- The bit that is sent as bit k (11 of them, the greatest first). -/
def Bk (l : List Int) (j k : Nat) : Nat := (l.getD j 0).toNat / 2 ^ (10 - k) % 2
theorem Bk_or (l : List Int) (j k : Nat) : Bk l j k = 0 ∨ Bk l j k = 1 := by unfold Bk; omega
def Low (l x : List Int) (k i : Nat) : Prop := ∃ j, j < i ∧ x.getD j 0 < 0 ∧ Bk l j k = 0
/-- Who leaves at bit k. -/
noncomputable def Mrk (l x : List Int) (k i : Nat) : List Int := (List.range x.length).map fun j => if j < i ∧ x.getD j 0 < 0 ∧ Low l x k x.length ∧ Bk l j k = 1 then (k : Int) else x.getD j 0
theorem Mrk_length (l x : List Int) (k i : Nat) : (Mrk l x k i).length = x.length := by simp [Mrk]
theorem Mrk_get (l x : List Int) (k i j : Nat) (h : j < x.length) : (Mrk l x k i).getD j 0 = if j < i ∧ x.getD j 0 < 0 ∧ Low l x k x.length ∧ Bk l j k = 1 then (k : Int) else x.getD j 0 := by
  simp [Mrk, List.getD_eq_getElem?_getD, h]
theorem Mrk_zero (l x : List Int) (k : Nat) : Mrk l x k 0 = x := by
  apply List.ext_getElem?
  intro j
  by_cases h : j < x.length
  · simp [Mrk, h, List.getD_eq_getElem?_getD]
  · simp [Mrk, h]
theorem Mrk_stay (l x : List Int) (k i : Nat) (h : ¬ (x.getD i 0 < 0 ∧ Low l x k x.length ∧ Bk l i k = 1)) : Mrk l x k (i + 1) = Mrk l x k i := by
  unfold Mrk
  apply List.map_congr_left
  intro j _
  by_cases e : j = i
  · subst e
    rw [if_neg (fun a => h a.2), if_neg (fun a => h a.2)]
  · by_cases c : j < i ∧ x.getD j 0 < 0 ∧ Low l x k x.length ∧ Bk l j k = 1
    · rw [if_pos c, if_pos ⟨by omega, c.2⟩]
    · rw [if_neg c, if_neg (fun a => c ⟨by omega, a.2⟩)]
theorem Mrk_set (l x : List Int) (k i : Nat) (hi : i < x.length) (h : x.getD i 0 < 0 ∧ Low l x k x.length ∧ Bk l i k = 1) : (Mrk l x k i).set i k = Mrk l x k (i + 1) := by
  apply List.ext_getElem?
  intro j
  by_cases hj : j < x.length
  · by_cases e : j = i
    · subst e
      rw [List.getElem?_set_self (by rw [Mrk_length]; exact hj)]
      unfold Mrk
      rw [List.getElem?_map, List.getElem?_range hj]
      simp only [Option.map_some]
      rw [if_pos ⟨by omega, h⟩]
    · rw [List.getElem?_set_ne (by omega)]
      unfold Mrk
      rw [List.getElem?_map, List.getElem?_map, List.getElem?_range hj]
      simp only [Option.map_some]
      by_cases c : j < i ∧ x.getD j 0 < 0 ∧ Low l x k x.length ∧ Bk l j k = 1
      · rw [if_pos c, if_pos ⟨by omega, c.2⟩]
      · rw [if_neg c, if_neg (fun a => c ⟨by omega, a.2⟩)]
  · rw [List.getElem?_eq_none (by simp [Mrk_length]; omega), List.getElem?_eq_none (by rw [Mrk_length]; omega)]

theorem bit_of (l : List Int) (h : Ids l 0) (j k : Nat) (hj : j < l.length) (hk : k < 11) (s : Int) (hs : s = ((10 - k : Nat) : Int)) : Go.bits .and .i64 (shr .i64 (rd l (j : Int)) s) 1 = (Bk l j k : Int) := by
  have h0 := h j (by omega) hj
  have e : rd l (j : Int) = (((l.getD j 0).toNat : Nat) : Int) := by
    show l.getD j 0 = _
    omega
  rw [e, hs, bit_nat _ _ (by omega) (by omega)]
  rfl
theorem and_bit (a b : Nat) (ha : a = 0 ∨ a = 1) (hb : b = 0 ∨ b = 1) : Go.bits .and .i64 (a : Int) (b : Int) = ((if b = 0 then 0 else a : Nat) : Int) := by
  rw [i64_and_nat a b (by omega) (by omega)]
  rcases ha with rfl | rfl <;> rcases hb with rfl | rfl <;> rfl

/-- The wire: 0 just where one of those that are left sends 0. -/
theorem impl_l2 (l x : List Int) (k : Nat) (h : Ids l 0) (hn : l.length ≤ 6) (hk : k < 11) (hx : x.length = l.length) (r : Int × List Int × Bool) (d : Nat) : ∀ (i w : Nat), i + d = l.length → w = (if Low l x k i then 0 else 1) →
    Ev (fun q => impl_Arbitrate.l3 q l x k ((if Low l x k x.length then 0 else 1 : Nat) : Int) k l (l.length : Int) 0) r → Ev (fun q => impl_Arbitrate.l2 q l x k (w : Int) k l (l.length : Int) i) r := by
  induction d with
  | zero =>
    intro i w hi hw hr
    apply Ev.succ
    simp only [impl_Arbitrate.l2, show ¬ ((i : Int) < (l.length : Int)) by omega, if_false]
    rw [show x.length = i by omega, ← hw] at hr
    exact hr
  | succ d ih =>
    intro i w hi hw hr
    apply Ev.succ
    have e : rd x (i : Int) = x.getD i 0 := rfl
    simp only [impl_Arbitrate.l2, hx, show ((i : Int) < (l.length : Int)) by omega, show (0 : Int) ≤ (i : Int) by omega, if_true, e, succ_w (show i < 35184372088833 by omega), wrap64_id (x := 10 - (k : Int)) (by omega) (by omega), show (0 : Int) ≤ 10 - (k : Int) by omega,
      bit_of l h i k (by omega) hk (10 - (k : Int)) (by omega)]
    have hstep : Low l x k (i + 1) ↔ Low l x k i ∨ (x.getD i 0 < 0 ∧ Bk l i k = 0) := by
      constructor
      · rintro ⟨j, h1, h2⟩
        by_cases e : j = i
        · exact Or.inr (e ▸ h2)
        · exact Or.inl ⟨j, by omega, h2⟩
      · rintro (⟨j, h1, h2⟩ | h)
        · exact ⟨j, by omega, h2⟩
        · exact ⟨i, by omega, h⟩
    refine Ev.ite (fun hu => ?_) (fun hu => ?_)
    · rw [and_bit w (Bk l i k) (by rw [hw]; split <;> simp) (Bk_or l i k)]
      refine ih (i + 1) _ (by omega) ?_ hr
      rw [hw]
      by_cases hb : Bk l i k = 0
      · rw [if_pos hb, if_pos (hstep.2 (Or.inr ⟨hu, hb⟩))]
      · rw [if_neg hb]
        by_cases hl : Low l x k i
        · rw [if_pos hl, if_pos (hstep.2 (Or.inl hl))]
        · rw [if_neg hl, if_neg (fun a => (hstep.1 a).elim hl (fun b => hb b.2))]
    · refine ih (i + 1) w (by omega) ?_ hr
      rw [hw]
      by_cases hl : Low l x k i
      · rw [if_pos hl, if_pos (hstep.2 (Or.inl hl))]
      · rw [if_neg hl, if_neg (fun a => (hstep.1 a).elim hl (fun b => hu b.1))]
theorem impl_l3 (l x : List Int) (k : Nat) (h : Ids l 0) (hn : l.length ≤ 6) (hk : k < 11) (hx : x.length = l.length) (r : Int × List Int × Bool) (d : Nat) : ∀ (i : Nat), i + d = l.length →
    Ev (fun q => impl_Arbitrate.l1 q l (Mrk l x k x.length) ((k + 1 : Nat) : Int)) r → Ev (fun q => impl_Arbitrate.l3 q l (Mrk l x k i) k ((if Low l x k x.length then 0 else 1 : Nat) : Int) k l (l.length : Int) i) r := by
  induction d with
  | zero =>
    intro i hi hr
    apply Ev.succ
    simp only [impl_Arbitrate.l3, show ¬ ((i : Int) < (l.length : Int)) by omega, if_false, succ_w (show k < 35184372088833 by omega)]
    rw [show x.length = i by omega] at hr
    exact hr
  | succ d ih =>
    intro i hi hr
    apply Ev.succ
    have e : rd (Mrk l x k i) (i : Int) = x.getD i 0 := by
      show (Mrk l x k i).getD i 0 = _
      rw [Mrk_get l x k i i (by omega), if_neg (by omega)]
    simp only [impl_Arbitrate.l3, Mrk_length, hx, show ((i : Int) < (l.length : Int)) by omega, show (0 : Int) ≤ (i : Int) by omega, if_true, e, succ_w (show i < 35184372088833 by omega), wrap64_id (x := 10 - (k : Int)) (by omega) (by omega), show (0 : Int) ≤ 10 - (k : Int) by omega,
      bit_of l h i k (by omega) hk (10 - (k : Int)) (by omega), Int.toNat_natCast]
    rw [hx] at ih
    have hb := Bk_or l i k
    refine Ev.ite (fun hu => Ev.ite (fun hw => ?_) (fun hw => ?_)) (fun hu => ?_)
    · have hc : x.getD i 0 < 0 ∧ Low l x k x.length ∧ Bk l i k = 1 := by
        by_cases hl : Low l x k l.length
        · rw [if_pos hl] at hw
          exact ⟨hu, by rwa [hx], by omega⟩
        · rw [if_neg hl] at hw
          omega
      rw [Mrk_set l x k i (by omega) hc]
      exact ih (i + 1) (by omega) (by rwa [hx] at hr)
    · rw [← Mrk_stay l x k i]
      · exact ih (i + 1) (by omega) (by rwa [hx] at hr)
      · rintro ⟨_, h2, h3⟩
        rw [hx] at h2
        rw [if_pos h2] at hw
        omega
    · rw [← Mrk_stay l x k i (fun a => hu a.1)]
      exact ih (i + 1) (by omega) (by rwa [hx] at hr)

theorem u64_id {x : Int} (h : 0 ≤ x) (h2 : x < 1000) : IntKind.u64.wrap x = x := by
  rw [IntKind.wrap_u64]
  omega

theorem spec_l3 (l x : List Int) (k : Nat) (h : Ids l 0) (hn : l.length ≤ 6) (hk : k < 11) (hx : x.length = l.length) (r : Int × List Int × Bool) (d : Nat) : ∀ (i : Nat), i + d = l.length →
    Ev (fun q => spec_Arbitrate.l4 q l x k (decide (Low l x k x.length)) l (l.length : Int) 0) r → Ev (fun q => spec_Arbitrate.l3 q l x k (decide (Low l x k i)) l (l.length : Int) i) r := by
  induction d with
  | zero =>
    intro i hi hr
    apply Ev.succ
    simp only [spec_Arbitrate.l3, show ¬ ((i : Int) < (l.length : Int)) by omega, if_false]
    rw [show x.length = i by omega] at hr
    exact hr
  | succ d ih =>
    intro i hi hr
    apply Ev.succ
    have e : rd x (i : Int) = x.getD i 0 := rfl
    simp only [spec_Arbitrate.l3, hx, show ((i : Int) < (l.length : Int)) by omega, show (0 : Int) ≤ (i : Int) by omega, if_true, e, succ_w (show i < 35184372088833 by omega), wrap64_id (x := 10 - (k : Int)) (by omega) (by omega), u64_id (x := 10 - (k : Int)) (by omega) (by omega), show (0 : Int) ≤ 10 - (k : Int) by omega,
      bit_of l h i k (by omega) hk (10 - (k : Int)) (by omega)]
    have hstep : Low l x k (i + 1) ↔ Low l x k i ∨ (x.getD i 0 < 0 ∧ Bk l i k = 0) := by
      constructor
      · rintro ⟨j, h1, h2⟩
        by_cases e : j = i
        · exact Or.inr (e ▸ h2)
        · exact Or.inl ⟨j, by omega, h2⟩
      · rintro (⟨j, h1, h2⟩ | h)
        · exact ⟨j, by omega, h2⟩
        · exact ⟨i, by omega, h⟩
    have go : ∀ b, b = decide (Low l x k (i + 1)) → Ev (fun q => spec_Arbitrate.l3 q l x k b l (l.length : Int) ((i + 1 : Nat) : Int)) r := by
      intro b hb
      rw [hb]
      exact ih (i + 1) (by omega) hr
    by_cases hl : Low l x k i
    · refine Ev.pos (by simpa using hl) (go _ ?_)
      symm
      rw [decide_eq_true_eq]
      exact hstep.2 (Or.inl hl)
    · refine Ev.neg (by simpa using hl) (Ev.ite (fun hu => go _ ?_) (fun hu => go _ ?_))
      · by_cases hb : Bk l i k = 0
        · rw [decide_eq_true (hstep.2 (Or.inr ⟨hu, hb⟩)), hb]
          rfl
        · rw [decide_eq_false (fun a => (hstep.1 a).elim hl (fun b => hb b.2))]
          simpa using hb
      · rw [decide_eq_false (fun a => (hstep.1 a).elim hl (fun b => hu b.1))]
theorem spec_l4 (l x : List Int) (k : Nat) (h : Ids l 0) (hn : l.length ≤ 6) (hk : k < 11) (hx : x.length = l.length) (r : Int × List Int × Bool) (d : Nat) : ∀ (i : Nat), i + d = l.length →
    Ev (fun q => spec_Arbitrate.l2 q l (Mrk l x k x.length) ((k + 1 : Nat) : Int)) r → Ev (fun q => spec_Arbitrate.l4 q l (Mrk l x k i) k (decide (Low l x k x.length)) l (l.length : Int) i) r := by
  induction d with
  | zero =>
    intro i hi hr
    apply Ev.succ
    simp only [spec_Arbitrate.l4, show ¬ ((i : Int) < (l.length : Int)) by omega, if_false, succ_w (show k < 35184372088833 by omega)]
    rw [show x.length = i by omega] at hr
    exact hr
  | succ d ih =>
    intro i hi hr
    apply Ev.succ
    have e : rd (Mrk l x k i) (i : Int) = x.getD i 0 := by
      show (Mrk l x k i).getD i 0 = _
      rw [Mrk_get l x k i i (by omega), if_neg (by omega)]
    simp only [spec_Arbitrate.l4, Mrk_length, hx, show ((i : Int) < (l.length : Int)) by omega, show (0 : Int) ≤ (i : Int) by omega, if_true, e, succ_w (show i < 35184372088833 by omega), wrap64_id (x := 10 - (k : Int)) (by omega) (by omega), u64_id (x := 10 - (k : Int)) (by omega) (by omega), show (0 : Int) ≤ 10 - (k : Int) by omega,
      bit_of l h i k (by omega) hk (10 - (k : Int)) (by omega), Int.toNat_natCast]
    rw [hx] at ih
    have stay : ¬ (x.getD i 0 < 0 ∧ Low l x k x.length ∧ Bk l i k = 1) → Ev (fun q => spec_Arbitrate.l4 q l (Mrk l x k i) k (decide (Low l x k l.length)) l (l.length : Int) ((i + 1 : Nat) : Int)) r := by
      intro hs
      rw [← Mrk_stay l x k i hs]
      exact ih (i + 1) (by omega) (by rwa [hx] at hr)
    refine Ev.ite (fun hl => ?_) (fun hl => stay (fun a => hl (by rw [decide_eq_true_eq]; rw [← hx]; exact a.2.1)))
    refine Ev.ite (fun hu => Ev.ite (fun hb => ?_) (fun hb => stay (fun a => hb (by omega)))) (fun hu => stay (fun a => hu a.1))
    have hc : x.getD i 0 < 0 ∧ Low l x k x.length ∧ Bk l i k = 1 := ⟨hu, by rw [hx]; simpa using hl, by omega⟩
    rw [Mrk_set l x k i (by omega) hc]
    exact ih (i + 1) (by omega) (by rwa [hx] at hr)

/-- What the list of those that left is at each bit: one is left still; who is left is told by -1. -/
def Inv (x : List Int) : Prop := (∃ j, j < x.length ∧ x.getD j 0 < 0) ∧ ∀ j, j < x.length → x.getD j 0 = -1 ∨ (0 ≤ x.getD j 0 ∧ x.getD j 0 < 11)
theorem Inv_step (l x : List Int) (k : Nat) (hk : k < 11) (h : Inv x) : Inv (Mrk l x k x.length) := by
  obtain ⟨⟨j, hj, hj2⟩, h2⟩ := h
  refine ⟨?_, fun q hq => ?_⟩
  · by_cases hl : Low l x k x.length
    · obtain ⟨p, hp, hp2, hp3⟩ := hl
      refine ⟨p, by rw [Mrk_length]; exact hp, ?_⟩
      rw [Mrk_get _ _ _ _ _ hp, if_neg (fun a => by omega)]
      exact hp2
    · refine ⟨j, by rw [Mrk_length]; exact hj, ?_⟩
      rw [Mrk_get _ _ _ _ _ hj, if_neg (fun a => hl a.2.2.1)]
      exact hj2
  · rw [Mrk_length] at hq
    rw [Mrk_get _ _ _ _ _ hq]
    split
    · exact Or.inr (by omega)
    · exact h2 q hq

/-- The first that is left. -/
theorem first_both (x : List Int) (hn : x.length ≤ 6) (h : Inv x) (d : Nat) : ∀ i : Nat, i + d = x.length → (∃ j, i ≤ j ∧ j < x.length ∧ x.getD j 0 < 0) →
    ∃ w : Nat, w < x.length ∧ i ≤ w ∧ x.getD w 0 < 0 ∧ (∀ j, i ≤ j → j < w → 0 ≤ x.getD j 0) ∧ Ev (fun q => slices_Index_int_int.l0 q x (-1) (x.length : Int) i) (w : Int) ∧ Ev (fun q => spec_Arbitrate.l5 q x i) ((w : Int), x, true) := by
  induction d with
  | zero =>
    rintro i hi ⟨j, h1, h2, _⟩
    omega
  | succ d ih =>
    rintro i hi ⟨j, h1, h2, h3⟩
    have e : rd x (i : Int) = x.getD i 0 := rfl
    have p1 : (0 : Int) ≤ (i : Int) := by omega
    have p2 : (i : Int) < (x.length : Int) := by omega
    by_cases hi2 : x.getD i 0 < 0
    · have hm : x.getD i 0 = -1 := by rcases h.2 i (by omega) with h | h <;> omega
      refine ⟨i, by omega, by omega, hi2, fun j a b => by omega, Ev.succ ?_, Ev.succ ?_⟩
      · simp only [slices_Index_int_int.l0, p1, p2, if_true, e]
        exact Ev.pos hm.symm (Ev.some rfl)
      · simp only [spec_Arbitrate.l5, p1, p2, if_true, e]
        exact Ev.neg (by omega) (Ev.some rfl)
    · obtain ⟨w, w1, w2, w3, w4, w5, w6⟩ := ih (i + 1) (by omega) ⟨j, by by_cases ej : j = i; (· subst ej; omega); (· omega), h2, h3⟩
      refine ⟨w, w1, by omega, w3, fun j a b => ?_, Ev.succ ?_, Ev.succ ?_⟩
      · by_cases ej : j = i
        · subst ej; omega
        · exact w4 j (by omega) b
      · simp only [slices_Index_int_int.l0, p1, p2, if_true, e, succ_w (show i < 35184372088833 by omega)]
        exact Ev.neg (by omega) w5
      · simp only [spec_Arbitrate.l5, p1, p2, if_true, e, succ_w (show i < 35184372088833 by omega)]
        exact Ev.pos (by omega) w6

/-- The rounds from bit k on. -/
noncomputable def rnds (l : List Int) : Nat → Nat → List Int → List Int
  | 0, _, x => x
  | d + 1, k, x => rnds l d (k + 1) (Mrk l x k x.length)
theorem rounds_both (l : List Int) (h : Ids l 0) (hn : l.length ≤ 6) (d : Nat) : ∀ (k : Nat) (x : List Int), k + d = 11 → x.length = l.length → Inv x →
    ∃ w : Nat, (rnds l d k x).length = l.length ∧ Inv (rnds l d k x) ∧ w < l.length ∧ (rnds l d k x).getD w 0 < 0 ∧ (∀ j, j < w → 0 ≤ (rnds l d k x).getD j 0) ∧
      Ev (fun q => impl_Arbitrate.l1 q l x k) ((w : Int), rnds l d k x, true) ∧ Ev (fun q => spec_Arbitrate.l2 q l x k) ((w : Int), rnds l d k x, true) := by
  induction d with
  | zero =>
    intro k x hk hx hi
    obtain ⟨j, hj, hj2⟩ := hi.1
    obtain ⟨w, w1, w2, w3, w4, w5, w6⟩ := first_both x (by omega) hi x.length 0 (by omega) ⟨j, by omega, hj, hj2⟩
    refine ⟨w, hx, hi, by omega, w3, fun j hj => w4 j (by omega) hj, Ev.succ ?_, Ev.succ ?_⟩
    · simp only [impl_Arbitrate.l1, show ¬ ((k : Int) < 11) by omega, if_false, slices_Index_int_int.f]
      exact Ev.bnd w5 (Ev.some rfl)
    · simp only [spec_Arbitrate.l2, show ¬ ((k : Int) < 11) by omega, if_false]
      exact w6
  | succ d ih =>
    intro k x hk hx hi
    obtain ⟨w, w1, w2, w3, w4, w5, w6, w7⟩ := ih (k + 1) (Mrk l x k x.length) (by omega) (by rw [Mrk_length]; exact hx) (Inv_step l x k (by omega) hi)
    refine ⟨w, w1, w2, w3, w4, w5, Ev.succ ?_, Ev.succ ?_⟩
    · simp only [impl_Arbitrate.l1, show ((k : Int) < 11) by omega, if_true]
      have a := impl_l3 l x k h hn (by omega) hx _ l.length 0 (by omega) w6
      rw [Mrk_zero] at a
      exact impl_l2 l x k h hn (by omega) hx _ l.length 0 1 (by omega) (by rw [if_neg (by rintro ⟨j, hj, _⟩; omega)]) a
    · simp only [spec_Arbitrate.l2, show ((k : Int) < 11) by omega, if_true]
      have a := spec_l4 l x k h hn (by omega) hx _ l.length 0 (by omega) w7
      rw [Mrk_zero] at a
      have b := spec_l3 l x k h hn (by omega) hx _ l.length 0 (by omega) a
      rwa [decide_eq_false (show ¬ Low l x k 0 by rintro ⟨j, hj, _⟩; omega)] at b

/-- Each is left at first. -/
theorem impl_l0 (l : List Int) (hn : l.length ≤ 6) (r : Int × List Int × Bool) (d : Nat) : ∀ (i : Nat) (x : List Int), i + d = l.length → x.length = l.length → x.take i = List.replicate i (-1) →
    (Ids l i → Ev (fun q => impl_Arbitrate.l1 q l (List.replicate l.length (-1)) 0) r) → (¬ Ids l i → r = (0, [], false)) → Ev (fun q => impl_Arbitrate.l0 q l x l (l.length : Int) i) r := by
  induction d with
  | zero =>
    intro i x hi hx ht h1 h2
    apply Ev.succ
    simp only [impl_Arbitrate.l0, show ¬ ((i : Int) < (l.length : Int)) by omega, if_false]
    have e : x = List.replicate l.length (-1) := by
      have hi' : i = l.length := by omega
      rw [hi', List.take_of_length_le (by omega)] at ht
      exact ht
    rw [e]
    exact h1 (From.end_ (by omega))
  | succ d ih =>
    intro i x hi hx ht h1 h2
    apply Ev.succ
    have e : rd l (i : Int) = l.getD i 0 := rfl
    have step := From.step (n := l.length) (i := i) (C := fun j => 0 ≤ l.getD j 0 ∧ l.getD j 0 ≤ 2047) (by omega)
    simp only [impl_Arbitrate.l0, hx, show ((i : Int) < (l.length : Int)) by omega, show (0 : Int) ≤ (i : Int) by omega, if_true, e, btw, Option.bind_some, decide_eq_true_eq, succ_w (show i < 35184372088833 by omega), Int.toNat_natCast]
    refine Ev.ite (fun h => ?_) (fun h => Ev.some (h2 (fun a => h (step.1 a).1)).symm)
    refine ih (i + 1) _ (by omega) (by simpa using hx) ?_ (fun a => h1 (step.2 ⟨h, a⟩)) (fun a => h2 (fun b => a (step.1 b).2))
    rw [List.take_succ_eq_append_getElem (by simp; omega), List.take_set_of_le (by omega), ht]
    simp [List.replicate_succ']
theorem spec_l0 (l : List Int) (hn : l.length ≤ 6) (r : Int × List Int × Bool) (d : Nat) : ∀ (i : Nat), i + d = l.length →
    (Ids l i → Ev (fun q => spec_Arbitrate.l1 q l (List.replicate l.length 0) (((List.replicate l.length (0 : Int)).length : Nat) : Int) 0) r) → (¬ Ids l i → r = (0, [], false)) → Ev (fun q => spec_Arbitrate.l0 q l l (l.length : Int) i) r := by
  induction d with
  | zero =>
    intro i hi h1 h2
    apply Ev.succ
    simp only [spec_Arbitrate.l0, show ¬ ((i : Int) < (l.length : Int)) by omega, if_false, show (0 : Int) ≤ (l.length : Int) by omega, if_true, Int.toNat_natCast, show l.length ≤ 35184372088832 by omega, Option.bind_some]
    exact h1 (From.end_ (by omega))
  | succ d ih =>
    intro i hi h1 h2
    apply Ev.succ
    have e : rd l (i : Int) = l.getD i 0 := rfl
    have step := From.step (n := l.length) (i := i) (C := fun j => 0 ≤ l.getD j 0 ∧ l.getD j 0 ≤ 2047) (by omega)
    simp only [spec_Arbitrate.l0, show ((i : Int) < (l.length : Int)) by omega, show (0 : Int) ≤ (i : Int) by omega, if_true, e, succ_w (show i < 35184372088833 by omega)]
    refine Ev.ite (fun h => Ev.some (h2 (fun a => ?_)).symm) (fun h => Ev.ite (fun h' => Ev.some (h2 (fun a => ?_)).symm) (fun h' => ?_))
    · have := (step.1 a).1; omega
    · have := (step.1 a).1; omega
    · exact ih (i + 1) (by omega) (fun a => h1 (step.2 ⟨by omega, a⟩)) (fun a => h2 (fun b => a (step.1 b).2))
theorem spec_l1 (l : List Int) (hn : l.length ≤ 6) (r : Int × List Int × Bool) (d : Nat) : ∀ (i : Nat) (x : List Int), i + d = l.length → x.length = l.length → x.take i = List.replicate i (-1) →
    Ev (fun q => spec_Arbitrate.l2 q l (List.replicate l.length (-1)) 0) r → Ev (fun q => spec_Arbitrate.l1 q l x (l.length : Int) i) r := by
  induction d with
  | zero =>
    intro i x hi hx ht h1
    apply Ev.succ
    simp only [spec_Arbitrate.l1, show ¬ ((i : Int) < (l.length : Int)) by omega, if_false]
    have e : x = List.replicate l.length (-1) := by
      have hi' : i = l.length := by omega
      rw [hi', List.take_of_length_le (by omega)] at ht
      exact ht
    rw [e]
    exact h1
  | succ d ih =>
    intro i x hi hx ht h1
    apply Ev.succ
    simp only [spec_Arbitrate.l1, hx, show ((i : Int) < (l.length : Int)) by omega, show (0 : Int) ≤ (i : Int) by omega, if_true, succ_w (show i < 35184372088833 by omega), Int.toNat_natCast]
    refine ih (i + 1) _ (by omega) (by simpa using hx) ?_ h1
    rw [List.take_succ_eq_append_getElem (by simp; omega), List.take_set_of_le (by omega), ht]
    simp [List.replicate_succ']

/-- Ids that can be arbitrated. -/
def Fine (l : List Int) : Prop := 1 ≤ l.length ∧ l.length ≤ 6 ∧ Ids l 0
/-- Where each has left behind all bits. -/
noncomputable def Fin (l : List Int) : List Int := rnds l 11 0 (List.replicate l.length (-1))
theorem arbitrate_yes (l : List Int) (h : Fine l) : ∃ w : Nat, (Fin l).length = l.length ∧ Inv (Fin l) ∧ w < l.length ∧ (Fin l).getD w 0 < 0 ∧ (∀ j, j < w → 0 ≤ (Fin l).getD j 0) ∧
    Ev (fun q => impl_Arbitrate.f q l) ((w : Int), Fin l, true) ∧ Ev (fun q => spec_Arbitrate.f q l) ((w : Int), Fin l, true) := by
  obtain ⟨h1, h2, h3⟩ := h
  have hi : Inv (List.replicate l.length (-1)) := by
    refine ⟨⟨0, by simp; omega, by simp [List.getD_eq_getElem?_getD, show 0 < l.length by omega]⟩, fun j hj => Or.inl ?_⟩
    simp at hj
    simp [List.getD_eq_getElem?_getD, hj]
  obtain ⟨w, w1, w2, w3, w4, w5, w6, w7⟩ := rounds_both l h3 h2 11 0 (List.replicate l.length (-1)) rfl (by simp) hi
  refine ⟨w, w1, w2, w3, w4, w5, ?_, ?_⟩
  · simp only [impl_Arbitrate.f, show ¬ ((l.length : Int) < 1) by omega, if_false, show ¬ ((l.length : Int) > 6) by omega, decide_false]
    apply Ev.succ
    simp only [impl_Arbitrate.j0, Bool.false_eq_true, if_false, show (0 : Int) ≤ (l.length : Int) by omega, if_true, Int.toNat_natCast, show l.length ≤ 35184372088832 by omega]
    exact impl_l0 l h2 _ l.length 0 _ (by omega) (by simp) (by simp) (fun _ => w6) (fun a => absurd h3 a)
  · simp only [spec_Arbitrate.f, show ¬ ((l.length : Int) < 1) by omega, if_false, show ¬ ((l.length : Int) > 6) by omega, decide_false]
    apply Ev.succ
    simp only [spec_Arbitrate.j0, Bool.false_eq_true, if_false]
    refine spec_l0 l h2 _ l.length 0 (by omega) (fun _ => ?_) (fun a => absurd h3 a)
    simp only [List.length_replicate]
    exact spec_l1 l h2 _ l.length 0 _ (by omega) (by simp) (by simp) w7
theorem arbitrate_no (l : List Int) (h : ¬ Fine l) : Ev (fun q => impl_Arbitrate.f q l) (0, [], false) ∧ Ev (fun q => spec_Arbitrate.f q l) (0, [], false) := by
  by_cases h1 : (l.length : Int) < 1
  · simp only [impl_Arbitrate.f, spec_Arbitrate.f, h1, if_true]
    refine ⟨Ev.succ ?_, Ev.succ ?_⟩
    · simp only [impl_Arbitrate.j0, if_true]; exact Ev.some rfl
    · simp only [spec_Arbitrate.j0, if_true]; exact Ev.some rfl
  · by_cases h2 : (l.length : Int) > 6
    · simp only [impl_Arbitrate.f, spec_Arbitrate.f, h1, if_false, h2, decide_true]
      refine ⟨Ev.succ ?_, Ev.succ ?_⟩
      · simp only [impl_Arbitrate.j0, if_true]; exact Ev.some rfl
      · simp only [spec_Arbitrate.j0, if_true]; exact Ev.some rfl
    · have h3 : ¬ Ids l 0 := fun a => h ⟨by omega, by omega, a⟩
      simp only [impl_Arbitrate.f, spec_Arbitrate.f, h1, if_false, h2, decide_false]
      refine ⟨Ev.succ ?_, Ev.succ ?_⟩
      · simp only [impl_Arbitrate.j0, Bool.false_eq_true, if_false, show (0 : Int) ≤ (l.length : Int) by omega, if_true, Int.toNat_natCast, show l.length ≤ 35184372088832 by omega]
        exact impl_l0 l (by omega) _ l.length 0 _ (by omega) (by simp) (by simp) (fun a => absurd a h3) (fun _ => rfl)
      · simp only [spec_Arbitrate.j0, Bool.false_eq_true, if_false]
        exact spec_l0 l (by omega) _ l.length 0 (by omega) (fun a => absurd a h3) (fun _ => rfl)
end Go.Proofs.Ytbdonoeellmeoaa.Pure
/-
Own text: the cursor that draws numbers out of a code: it always answers, within its bounds.
-/
namespace Go.Proofs.Ytbdonoeellmeoaa.Pure
open Go.RowKit Go.Proofs.YtbdonoeellmeoaaW.PrintWords Go.Proofs.YtbdonoeellmeoaaW.PrintLast Go.Proofs.Ytbdonoeellmeoaa.Pr Go.Proofs.Ytbdonoeellmeoaa.EvKit

/-- A code: bytes, not too many. -/
def Code (c : List Int) : Prop := c.length ≤ 1048576 ∧ ∀ y ∈ c, 0 ≤ y ∧ y ≤ 255
theorem wrap_u64 (n : Int) : IntKind.u64.wrap n = n % 18446744073709551616 := by
  simp [IntKind.wrap, IntKind.bits, IntKind.signed]
theorem mask_in (n : Int) : 0 ≤ Go.bits .and .u64 (IntKind.u64.wrap n / 1099511627776) 255 ∧ Go.bits .and .u64 (IntKind.u64.wrap n / 1099511627776) 255 ≤ 255 := by
  have h0 : 0 ≤ IntKind.u64.wrap n / 1099511627776 ∧ IntKind.u64.wrap n / 1099511627776 < 2 ^ 32 := by
    rw [wrap_u64]
    omega
  have h := bits_mask .u64 32 (by decide) (fun m h1 h2 => by rw [wrap_u64]; omega) 8 (by decide) _ h0.1 h0.2
  rw [show ((2 : Int) ^ 8 - 1) = 255 by decide] at h
  rw [h]
  omega
theorem code_rd {c : List Int} (hc : Code c) (i : Int) : 0 ≤ rd c i ∧ rd c i ≤ 255 := by
  unfold rd
  rw [List.getD_eq_getElem?_getD]
  by_cases h : i.toNat < c.length
  · rw [List.getElem?_eq_getElem h]
    exact hc.2 _ (List.getElem_mem h)
  · rw [List.getElem?_eq_none (by omega)]
    exact ⟨by decide, by decide⟩
theorem next_ok {c : List Int} (hc : Code c) (a s : Int) (h0 : 0 ≤ a) (h1 : a ≤ 4611686018427387904) : ∃ b s', spec_l1Cur_next.f c a s = some (b, a + 1, s') ∧ 0 ≤ b ∧ b ≤ 255 := by
  unfold spec_l1Cur_next.f
  have e : wrap64 (a + 1) = a + 1 := wrap64_id (by omega) (by omega)
  have hr := code_rd hc a
  rw [e]
  by_cases h2 : a < (c.length : Int)
  · rw [if_pos h2, if_pos h0, if_pos (by omega)]
    exact ⟨_, _, rfl, by rw [wrap64_id (by omega) (by omega)]; exact hr.1, by rw [wrap64_id (by omega) (by omega)]; exact hr.2⟩
  · rw [if_neg h2, if_neg (by omega)]
    have hm := mask_in ((IntKind.u64.wrap ((IntKind.u64.wrap (s * 6364136223846793005)) + 0)) + 1442695040888963407)
    exact ⟨_, _, rfl, by rw [wrap64_id (by omega) (by omega)]; exact hm.1, by rw [wrap64_id (by omega) (by omega)]; exact hm.2⟩
theorem tmod_in (x n : Int) (hx : 0 ≤ x) (hn : 0 < n) : 0 ≤ x.tmod n ∧ x.tmod n < n := by
  rw [Int.tmod_eq_emod_of_nonneg hx]
  exact ⟨Int.emod_nonneg _ (by omega), Int.emod_lt_of_pos _ hn⟩
theorem pick_ok {c : List Int} (hc : Code c) (a s n : Int) (h0 : 0 ≤ a) (h1 : a ≤ 4611686018427387000) : ∃ v a' s', spec_l1Cur_pick.f c a s n = some (v, a', s') ∧ a ≤ a' ∧ a' ≤ a + 2 ∧ 0 ≤ v ∧ (1 < n → v < n) ∧ (n ≤ 1 → v = 0) := by
  unfold spec_l1Cur_pick.f
  by_cases hn : n ≤ 1
  · rw [if_pos hn]
    exact ⟨0, a, s, rfl, by omega, by omega, by omega, by omega, fun _ => rfl⟩
  · rw [if_neg hn]
    obtain ⟨b, s1, e1, b0, b1⟩ := next_ok hc a s h0 (by omega)
    rw [e1]
    simp only [Option.bind_some]
    by_cases h2 : n > 200
    · rw [if_pos h2]
      obtain ⟨b2, s2, e2, b20, b21⟩ := next_ok hc (a + 1) s1 (by omega) (by omega)
      rw [e2]
      simp only [Option.bind_some]
      rw [if_neg (by omega), wrap64_id (x := b * 256) (by omega) (by omega), wrap64_id (x := b * 256 + b2) (by omega) (by omega)]
      have := tmod_in (b * 256 + b2) n (by omega) (by omega)
      exact ⟨_, _, _, rfl, by omega, by omega, this.1, fun _ => this.2, fun h => by omega⟩
    · rw [if_neg h2, if_neg (by omega)]
      have := tmod_in b n b0 (by omega)
      exact ⟨_, _, _, rfl, by omega, by omega, this.1, fun _ => this.2, fun h => by omega⟩
theorem one_ok {c : List Int} (hc : Code c) (a s n : Int) (h0 : 0 ≤ a) (h1 : a ≤ 4611686018427387000) : ∃ b a' s', spec_l1Cur_one.f c a s n = some (b, a', s') ∧ a ≤ a' ∧ a' ≤ a + 2 := by
  obtain ⟨v, a', s', e, h2, h3, _⟩ := pick_ok hc a s n h0 h1
  unfold spec_l1Cur_one.f
  rw [e]
  exact ⟨_, _, _, rfl, h2, h3⟩
theorem among_ok {c : List Int} (hc : Code c) (a s : Int) (l : List Int) (hl : 0 < l.length) (h0 : 0 ≤ a) (h1 : a ≤ 4611686018427387000) : ∃ v a' s', spec_l1Cur_among.f c a s l = some (v, a', s') ∧ a ≤ a' ∧ a' ≤ a + 2 ∧ v ∈ l := by
  obtain ⟨v, a', s', e, h2, h3, h4, h5, h6⟩ := pick_ok hc a s (l.length : Int) h0 h1
  have hv : v < (l.length : Int) := by
    by_cases h : (1 : Int) < l.length
    · exact h5 h
    · have := h6 (by omega)
      omega
  unfold spec_l1Cur_among.f
  rw [e]
  simp only [Option.bind_some]
  rw [if_pos h4, if_pos hv]
  refine ⟨_, _, _, rfl, h2, h3, ?_⟩
  unfold rd
  exact getD_mem l _ _ (by omega)
end Go.Proofs.Ytbdonoeellmeoaa.Pure
/-
Own text: who wins is the least; each other leaves at the first bit at which it differs from the least.
-/
namespace Go.Proofs.Ytbdonoeellmeoaa.Pure
open Go.RowKit Go.Proofs.YtbdonoeellmeoaaW.PrintWords Go.Proofs.YtbdonoeellmeoaaW.PrintLast Go.Proofs.Ytbdonoeellmeoaa.Pr Go.Proofs.Ytbdonoeellmeoaa.EvKit
open Classical

/-- Where j stands behind k bits, p being the least. -/
def Left (l x : List Int) (p k j : Nat) : Prop := (x.getD j 0 = -1 ∧ ∀ b, b < k → Bk l j b = Bk l p b) ∨ (∃ b : Nat, b < k ∧ x.getD j 0 = b ∧ Bk l j b ≠ Bk l p b ∧ ∀ b', b' < b → Bk l j b' = Bk l p b')

theorem half (a k : Nat) (hk : k < 11) : a / 2 ^ (10 - k) = 2 * (a / 2 ^ (11 - k)) + a / 2 ^ (10 - k) % 2 := by
  have e : 2 ^ (11 - k) = 2 ^ (10 - k) * 2 := by rw [show 11 - k = (10 - k) + 1 by omega, Nat.pow_succ]
  rw [e, ← Nat.div_div_eq_div_mul]
  omega
theorem top_eq (l : List Int) (h : Ids l 0) (j p : Nat) (hj : j < l.length) (hp : p < l.length) (k : Nat) : k ≤ 11 → (∀ b, b < k → Bk l j b = Bk l p b) → (l.getD j 0).toNat / 2 ^ (11 - k) = (l.getD p 0).toNat / 2 ^ (11 - k) := by
  induction k with
  | zero =>
    intro _ _
    have a := h j (by omega) hj
    have b := h p (by omega) hp
    rw [Nat.div_eq_of_lt (by omega), Nat.div_eq_of_lt (by omega)]
  | succ k ih =>
    intro hk hb
    have a := ih (by omega) (fun b hb' => hb b (by omega))
    have c := hb k (by omega)
    unfold Bk at c
    rw [show 11 - (k + 1) = 10 - k by omega, half _ k (by omega), half (l.getD p 0).toNat k (by omega), a, c]

theorem left_p (l x : List Int) (p k : Nat) (h : Left l x p k p) : x.getD p 0 = -1 := by
  rcases h with h | ⟨b, _, _, h, _⟩
  · exact h.1
  · exact absurd rfl h

theorem low_iff (l x : List Int) (h : Ids l 0) (hx : x.length = l.length) (p k : Nat) (hp : p < l.length) (hmin : ∀ j, j < l.length → l.getD p 0 ≤ l.getD j 0) (hk : k < 11) (hL : ∀ j, j < l.length → Left l x p k j) : Low l x k x.length ↔ Bk l p k = 0 := by
  constructor
  · rintro ⟨j, hj, hj2, hj3⟩
    rcases Bk_or l p k with hb | hb
    · exact hb
    · exfalso
      have hjl : j < l.length := by omega
      rcases hL j hjl with ⟨_, h2⟩ | ⟨b, _, h2, _⟩
      · have t := top_eq l h j p hjl hp k (by omega) h2
        have m := hmin j hjl
        have m2 : (l.getD p 0).toNat ≤ (l.getD j 0).toNat := by omega
        have m3 := Nat.div_le_div_right (c := 2 ^ (10 - k)) m2
        rw [half _ k hk, half (l.getD j 0).toNat k hk, t] at m3
        unfold Bk at hb hj3
        omega
      · omega
  · intro hb
    exact ⟨p, by omega, by rw [left_p l x p k (hL p hp)]; decide, hb⟩

theorem left_step (l x : List Int) (h : Ids l 0) (hx : x.length = l.length) (p k : Nat) (hp : p < l.length) (hmin : ∀ j, j < l.length → l.getD p 0 ≤ l.getD j 0) (hk : k < 11) (hL : ∀ j, j < l.length → Left l x p k j) : ∀ j, j < l.length → Left l (Mrk l x k x.length) p (k + 1) j := by
  intro j hj
  have hlow := low_iff l x h hx p k hp hmin hk hL
  unfold Left
  rw [Mrk_get _ _ _ _ _ (by omega)]
  rcases hL j hj with ⟨h1, h2⟩ | ⟨b, h1, h2, h3, h4⟩
  · by_cases hc : Low l x k x.length ∧ Bk l j k = 1
    · rw [if_pos ⟨by omega, by omega, hc.1, hc.2⟩]
      refine Or.inr ⟨k, by omega, rfl, ?_, h2⟩
      rw [hc.2, hlow.1 hc.1]
      decide
    · rw [if_neg (fun a => hc a.2.2)]
      refine Or.inl ⟨h1, fun b hb => ?_⟩
      by_cases e : b = k
      · subst e
        by_cases hl : Low l x b x.length
        · rw [hlow.1 hl]
          rcases Bk_or l j b with hb2 | hb2
          · exact hb2
          · exact absurd ⟨hl, hb2⟩ hc
        · have h5 : Bk l p b = 1 := (Bk_or l p b).resolve_left (fun a => hl (hlow.2 a))
          rw [h5]
          exact (Bk_or l j b).resolve_left (fun a => hl ⟨j, by omega, by omega, a⟩)
      · exact h2 b (by omega)
  · rw [if_neg (fun a => by omega)]
    exact Or.inr ⟨b, by omega, h2, h3, h4⟩

theorem left_rnds (l : List Int) (h : Ids l 0) (p : Nat) (hp : p < l.length) (hmin : ∀ j, j < l.length → l.getD p 0 ≤ l.getD j 0) (d : Nat) : ∀ (k : Nat) (x : List Int), k + d = 11 → x.length = l.length → (∀ j, j < l.length → Left l x p k j) → ∀ j, j < l.length → Left l (rnds l d k x) p 11 j := by
  induction d with
  | zero =>
    intro k x hk _ hL
    rw [show k = 11 by omega] at hL
    exact hL
  | succ d ih =>
    intro k x hk hx hL
    exact ih (k + 1) (Mrk l x k x.length) (by omega) (by rw [Mrk_length]; exact hx) (left_step l x h hx p k hp hmin (by omega) hL)

theorem least_ex (l : List Int) (n : Nat) : n ≤ l.length → 0 < n → ∃ p, p < n ∧ ∀ j, j < n → l.getD p 0 ≤ l.getD j 0 := by
  induction n with
  | zero => intro _ h; omega
  | succ n ih =>
    intro hn _
    by_cases h0 : n = 0
    · exact ⟨0, by omega, fun j hj => by rw [show j = 0 by omega]; exact Int.le_refl _⟩
    · obtain ⟨p, hp, hm⟩ := ih (by omega) (by omega)
      by_cases hc : l.getD p 0 ≤ l.getD n 0
      · refine ⟨p, by omega, fun j hj => ?_⟩
        by_cases e : j = n
        · exact e ▸ hc
        · exact hm j (by omega)
      · refine ⟨n, by omega, fun j hj => ?_⟩
        by_cases e : j = n
        · exact e ▸ Int.le_refl _
        · have := hm j (by omega)
          omega

/-- Behind all bits: w is the least, and each other has left at the first bit at which it differs. -/
theorem fin_left (l : List Int) (h : Fine l) (w : Nat) (hw : w < l.length) (hw2 : (Fin l).getD w 0 < 0) : (∀ j, j < l.length → l.getD w 0 ≤ l.getD j 0) ∧ ∀ j, j < l.length → Left l (Fin l) w 11 j := by
  obtain ⟨h1, h2, h3⟩ := h
  obtain ⟨p, hp, hm⟩ := least_ex l l.length (Nat.le_refl _) (by omega)
  have hL := left_rnds l h3 p hp hm 11 0 (List.replicate l.length (-1)) rfl (by simp) (fun j hj => Or.inl ⟨by simp [List.getD_eq_getElem?_getD, hj], fun b hb => by omega⟩)
  have hLw : ∀ b, b < 11 → Bk l w b = Bk l p b := by
    rcases hL w hw with ⟨_, a⟩ | ⟨b, _, a, _⟩
    · exact a
    · exfalso
      have a2 : (Fin l).getD w 0 = (b : Int) := a
      omega
  have t := top_eq l h3 w p hw hp 11 (Nat.le_refl _) hLw
  simp only [Nat.sub_self, Nat.pow_zero, Nat.div_one] at t
  have i1 := h3 w (by omega) hw
  have i2 := h3 p (by omega) hp
  have e : l.getD w 0 = l.getD p 0 := by omega
  refine ⟨fun j hj => by rw [e]; exact hm j hj, fun j hj => ?_⟩
  rcases hL j hj with ⟨a, b⟩ | ⟨b, c1, c2, c3, c4⟩
  · exact Or.inl ⟨a, fun q hq => by rw [b q hq, hLw q hq]⟩
  · exact Or.inr ⟨b, c1, c2, by rw [hLw b c1]; exact c3, fun q hq => by rw [c4 q hq, hLw q (by omega)]⟩

/-! ### what is drawn -/
end Go.Proofs.Ytbdonoeellmeoaa.Pure
/-
Own text: what stays true of the talkers in the rounds; who is picked (plain).
-/
namespace Go.Proofs.Ytbdonoeellmeoaa.Bus
open Go.RowKit Go.Proofs.Ytbdonoeellmeoaa.Pr Go.Proofs.Ytbdonoeellmeoaa.EvKit Go.Proofs.Ytbdonoeellmeoaa.Pure Go.Proofs.YtbdonoeellmeoaaW.PrintWords
structure BInv (n : Nat) (now : List S66) (used : List Int) (r : Nat) : Prop where
  ln : now.length = n
  lu : used.length = n
  tk : ∀ i, i < n → (tkAt now i).f0.length ≤ 8 ∧ (tkAt now i).f0.all goodF = true ∧ 0 ≤ (tkAt now i).f2 ∧ (tkAt now i).f2 ≤ 255
  us : ∀ i, i < n → 0 ≤ used.getD i 0 ∧ used.getD i 0 ≤ (r : Int)
theorem getD_rep (m i : Nat) : (List.replicate m (0 : Int)).getD i 0 = 0 := by
  simp only [List.getD_eq_getElem?_getD, List.getElem?_replicate]
  split <;> rfl
theorem BInv.zero {n : Nat} {now : List S66} {used : List Int} {r : Nat} (h : BInv n now used r) : BInv n now (List.replicate n 0) r :=
  ⟨h.ln, by simp, h.tk, fun i _ => by rw [getD_rep]; omega⟩
theorem BInv.succ {n : Nat} {now : List S66} {used : List Int} {r : Nat} (h : BInv n now used r) : BInv n now used (r + 1) := ⟨h.ln, h.lu, h.tk, fun i hi => by have := h.us i hi; omega⟩
theorem BInv.sent {n : Nat} {now : List S66} {used : List Int} {r : Nat} (h : BInv n now used r) (i : Nat) (hi : i < n) (g : Bool) : BInv n (now.set i (sentBy g (tkAt now i))) (used.set i (used.getD i 0 + 1)) (r + 1) := by
  refine ⟨by simp [h.ln], by simp [h.lu], fun j hj => ?_, fun j hj => ?_⟩
  · have e : tkAt (now.set i (sentBy g (tkAt now i))) j = if j = i then sentBy g (tkAt now i) else tkAt now j := getD_set _ _ _ _ _ (by rw [h.ln]; exact hi)
    rw [e]
    by_cases c : j = i
    · rw [if_pos c]
      obtain ⟨h1, h2, h3, h4⟩ := h.tk i hi
      cases g with
      | true =>
        refine ⟨?_, ?_, ?_, ?_⟩
        · show ((tkAt now i).f0.drop 1).length ≤ 8
          rw [List.length_drop]; omega
        · show ((tkAt now i).f0.drop 1).all goodF = true
          exact List.all_eq_true.2 fun x hx => List.all_eq_true.1 h2 x (List.mem_of_mem_drop hx)
        · show 0 ≤ (if (tkAt now i).f2 - 1 < 0 then 0 else (tkAt now i).f2 - 1)
          split <;> omega
        · show (if (tkAt now i).f2 - 1 < 0 then 0 else (tkAt now i).f2 - 1) ≤ 255
          split <;> omega
      | false =>
        refine ⟨h1, h2, ?_, ?_⟩
        · show 0 ≤ (if 255 < (tkAt now i).f2 + 8 then 255 else (tkAt now i).f2 + 8)
          split <;> omega
        · show (if 255 < (tkAt now i).f2 + 8 then 255 else (tkAt now i).f2 + 8) ≤ 255
          split <;> omega
    · rw [if_neg c]
      exact h.tk j hj
  · rw [getD_set _ _ _ _ _ (by rw [h.lu]; exact hi)]
    have h1 := h.us i hi
    have h2 := h.us j hj
    split <;> omega
theorem BInv.first {l : List S66} (h : l.all goodT = true) : BInv l.length l (List.replicate l.length 0) 0 := by
  refine ⟨rfl, by simp, fun i hi => ?_, fun i _ => by rw [getD_rep]; omega⟩
  have hm : tkAt l i ∈ l := by
    show l.getD i tk0 ∈ l
    rw [List.getD_eq_getElem?_getD, List.getElem?_eq_getElem hi]
    exact List.getElem_mem hi
  have hg := List.all_eq_true.1 h _ hm
  unfold goodT at hg
  simp only [Bool.and_eq_true, decide_eq_true_eq] at hg
  obtain ⟨g1, g2, _, ⟨g3, g4⟩, _⟩ := hg
  exact ⟨g2, g1, g3, g4⟩
theorem candTo_succ (now : List S66) (u : List Int) (n : Nat) : candTo now u (n + 1) = candTo now u n ++ (if may now u n = true then [n] else []) := by
  unfold candTo
  rw [List.range_succ, List.filter_append]
  congr 1
  by_cases c : may now u n = true
  · rw [if_pos c]; simp [c]
  · rw [if_neg c]; simp [c]
theorem idsTo_succ (now : List S66) (u : List Int) (n : Nat) : idsTo now u (n + 1) = idsTo now u n ++ (if may now u n = true then [headId (tkAt now n)] else []) := by
  unfold idsTo
  rw [candTo_succ, List.map_append]
  by_cases c : may now u n = true
  · rw [if_pos c, if_pos c]; rfl
  · rw [if_neg c, if_neg c]; rfl
theorem idsTo_len (now : List S66) (u : List Int) (n : Nat) : (idsTo now u n).length = (candTo now u n).length := by unfold idsTo; exact List.length_map _
theorem candTo_le (now : List S66) (u : List Int) (n : Nat) : (candTo now u n).length ≤ n := by
  unfold candTo
  have := List.length_filter_le (may now u) (List.range n)
  rwa [List.length_range] at this
theorem ids_fine {n : Nat} {now : List S66} {u : List Int} {r : Nat} (h : BInv n now u r) (hn : n ≤ 6) (hc : idsTo now u n ≠ []) : Fine (idsTo now u n) := by
  have hl := candTo_le now u n
  rw [← idsTo_len] at hl
  refine ⟨by cases hq : idsTo now u n with
            | nil => exact absurd hq hc
            | cons => simp, by omega, fun j _ hj => ?_⟩
  have hm : (idsTo now u n).getD j 0 ∈ idsTo now u n := by
    rw [List.getD_eq_getElem?_getD, List.getElem?_eq_getElem hj]
    exact List.getElem_mem hj
  obtain ⟨i, h1, h2⟩ := List.mem_map.1 hm
  obtain ⟨h3, h4⟩ := (cand_mem now u n i).1 h1
  obtain ⟨_, h5, _⟩ := (may_iff now u i).1 h4
  obtain ⟨_, g2, _, _⟩ := h.tk i h3
  show 0 ≤ (idsTo now u n).getD j 0 ∧ (idsTo now u n).getD j 0 ≤ 2047
  rw [← h2]
  have hh : (tkAt now i).f0.getD 0 z27 ∈ (tkAt now i).f0 := by
    rw [List.getD_eq_getElem?_getD, List.getElem?_eq_getElem h5]
    exact List.getElem_mem h5
  have hg := of_decide_eq_true (List.all_eq_true.1 g2 _ hh)
  exact hg.1
theorem arb_pk (l : List Int) (h : Fine l) : ∃ x : List Int, x.length = l.length ∧ pkOf l < l.length ∧ Ev (fun q => impl_Arbitrate.f q l) ((pkOf l : Int), x, true) ∧ Ev (fun q => spec_Arbitrate.f q l) ((pkOf l : Int), x, true) := by
  obtain ⟨w, w1, w2, w3, w4, w5, w6, w7⟩ := arbitrate_yes l h
  obtain ⟨hmin, hleft⟩ := fin_left l h w w3 w4
  have e : pkOf l = w := by
    unfold pkOf
    rw [List.findIdx_eq w3]
    have gd (j : Nat) (hj : j < l.length) : l.getD j 0 = l[j] := by simp [List.getD_eq_getElem?_getD, hj]
    refine ⟨List.all_eq_true.2 fun y hy => ?_, fun j hj => ?_⟩
    · obtain ⟨k, hk, rfl⟩ := List.getElem_of_mem hy
      have := hmin k hk
      rw [gd w w3, gd k hk] at this
      exact decide_eq_true this
    · have hjl : j < l.length := by omega
      refine Bool.eq_false_iff.2 fun hall => ?_
      have h1 := of_decide_eq_true (List.all_eq_true.1 hall l[w] (List.getElem_mem w3))
      have h2 := hmin j hjl
      rw [gd w w3, gd j hjl] at h2
      have h3 : l.getD j 0 = l.getD w 0 := by rw [gd w w3, gd j hjl]; omega
      rcases hleft j hjl with ⟨h4, _⟩ | ⟨b, _, _, h5, _⟩
      · have := w5 j hj
        omega
      · unfold Bk at h5
        rw [h3] at h5
        exact h5 rfl
  exact ⟨Fin l, w1, by rw [e]; exact w3, by rw [e]; exact w6, by rw [e]; exact w7⟩
theorem no_cand {n : Nat} {now : List S66} {u : List Int} (hc : candTo now u n = []) : Ev (fun q => impl_Arbitrate.f q (idsTo now u n)) (0, [], false) ∧ idsTo now u n = [] := by
  have e : idsTo now u n = [] := by unfold idsTo; rw [hc]; rfl
  rw [e]
  exact ⟨(arbitrate_no [] (fun h => absurd h.1 (by decide))).1, rfl⟩
theorem step_facts {n r : Nat} {now : List S66} {u : List Int} (hI : BInv n now u r) (h6 : n ≤ 6) (hc : candTo now u n ≠ []) :
    ∃ (pk : Nat) (x : List Int), x.length ≤ 6 ∧ Ev (fun q => impl_Arbitrate.f q (idsTo now u n)) ((pk : Int), x, true) ∧ Ev (fun q => spec_Arbitrate.f q (idsTo now u n)) ((pk : Int), x, true) ∧ pk < (candTo now u n).length ∧ (candTo now u n).getD pk 0 = stepI pkOf now u ∧ stepI pkOf now u < n ∧ may now u (stepI pkOf now u) = true ∧ (idsTo now u n).getD pk 0 = headId (tkAt now (stepI pkOf now u)) := by
  have hi : idsTo now u n ≠ [] := by unfold idsTo; simpa using hc
  obtain ⟨x, x1, x2, x3, x4⟩ := arb_pk (idsTo now u n) (ids_fine hI h6 hi)
  have hl := candTo_le now u n
  have e : (candTo now u n).getD (pkOf (idsTo now u n)) 0 = stepI pkOf now u := by unfold stepI; rw [hI.ln]
  have p3 : pkOf (idsTo now u n) < (candTo now u n).length := by rw [← idsTo_len]; exact x2
  have hm : stepI pkOf now u ∈ candTo now u n := by
    rw [← e, List.getD_eq_getElem?_getD, List.getElem?_eq_getElem p3]
    exact List.getElem_mem p3
  obtain ⟨m1, m2⟩ := (cand_mem now u n _).1 hm
  refine ⟨pkOf (idsTo now u n), x, by rw [x1, idsTo_len]; omega, x3, x4, p3, e, m1, m2, ?_⟩
  rw [← e]
  show ((candTo now u n).map fun i => headId (tkAt now i)).getD _ 0 = _
  exact getD_map _ _ _ _ _ p3
end Go.Proofs.Ytbdonoeellmeoaa.Bus
/- clear of a row of numbers: its run and its event. -/
namespace Go.Proofs.Ytbdonoeellmeoaa.Pr
open Go.RowKit Go.Proofs.YtbdonoeellmeoaaW.PrintWords Go.Proofs.YtbdonoeellmeoaaW.PrintLast Go.Proofs.YtbdonoeellmeoaaW.PrintMore
theorem zero_row (n : Nat) : (Builtin.zeroCells (Value.int .i64 0).cells n).toList = List.replicate n (Value.int .i64 0) := by
  apply List.ext_getElem?
  intro j
  unfold Builtin.zeroCells
  have e : (Value.int IntKind.i64 0).cells = #[Value.int .i64 0] := rfl
  rw [e]
  by_cases h : j < n
  · simp [h, Nat.mod_one]
  · simp [h]
theorem clear_run {w0 W : World} {base : Nat} {ok : Nat → Prop} {v : Value} {xs : List Int} (h : Kd.R (Kd.int .i64) 3 W base ok v xs) (HB : Below base w0 W) (hbase : base ≤ W.heap.size) (ty : TypeId) :
    ∃ W', (Builtin.clear_ #[31] ty #[v]).run Try.prog W = .ok (.tuple #[]) W' ∧ Kd.R (Kd.int .i64) 3 W' base ok v (List.replicate xs.length 0) ∧ Below base w0 W' ∧ W.grownBy W' v.ownBlock := by
  have hown := Kd.own_of_R h
  have hok := h.1
  have hu : ∀ w, Sem.run Try.prog (underlying 31) w = .ok (TypeDesc.slice 3) w := run_underlying Try.underlying31
  obtain ⟨hl, hc⟩ := hown
  rcases hc with ⟨rfl, h0⟩ | ⟨g, cap, cur, rfl, hb, hh, hn, hm, hs, ht⟩
  · have hx : xs = [] := List.eq_nil_of_length_eq_zero h0
    subst hx
    refine ⟨W, ?_, h, HB, ?_⟩
    · unfold Builtin.clear_
      simp [hu]
    · exact ⟨rfl, rfl, rfl, Nat.le_refl _, fun _ _ _ => rfl⟩
  · by_cases h0 : xs.length = 0
    · have hx : xs = [] := List.eq_nil_of_length_eq_zero h0
      subst hx
      refine ⟨W, ?_, h, HB, ?_⟩
      · unfold Builtin.clear_
        simp [hu]
      · exact ⟨rfl, rfl, rfl, Nat.le_refl _, fun _ _ _ => rfl⟩
    · have hz : ∀ u ∈ List.replicate xs.length (Value.int .i64 0), u.oneCell' = true := fun u hu => by rw [List.eq_of_mem_replicate hu]; rfl
      have hst := run_storeCells_at Try.prog g 0 3 (List.replicate xs.length (Value.int .i64 0)) 0 cur W hh (by simp; omega) hz
      obtain ⟨cs, hcs⟩ : ∃ cs, cs = (cur.toList.take (0 + 0) ++ List.replicate xs.length (Value.int .i64 0) ++ cur.toList.drop (0 + 0 + (List.replicate xs.length (Value.int .i64 0)).length)).toArray := ⟨_, rfl⟩
      rw [← hcs] at hst
      have hsz : cs.size = cur.size := by rw [hcs]; simp; omega
      have htk : cs.toList.take (xs.length * 1) = encs (Value.int .i64) (List.replicate xs.length (0 : Int)) := by
        rw [hcs]
        simp [encs]
      have hgr : W.grownBy (W.setRow g cs) (Value.slice (some ⟨g, 0, none⟩) xs.length cap).ownBlock := ⟨rfl, rfl, rfl, by simp [World.setRow], fun k _ hk => setRow_other W g k _ (fun e => hk (by simp [Value.ownBlock, e]))⟩
      refine ⟨W.setRow g cs, ?_, ?_, HB.grown hgr hbase (fun k hk => by have : g = k := by simpa [Value.ownBlock] using hk
                                                                        omega), hgr⟩
      · have hzv : ∀ w, Sem.run Try.prog (zeroValue 3) w = .ok (Value.int .i64 0) w := by intro w; kernel_rfl
        obtain ⟨n, hn2⟩ : ∃ n, xs.length = n + 1 := ⟨xs.length - 1, by omega⟩
        rw [hn2] at hst ⊢
        unfold Builtin.clear_
        have hzr : (Builtin.zeroCells (Value.int .i64 0).cells (n + 1)).toList = List.replicate (n + 1) (Value.int .i64 0) := zero_row (n + 1)
        show Sem.run Try.prog (do
          let __do_lift ← underlying 31
          _) W = _
        rw [Sem.run_bind, hu, Result.andThen_ok]
        show Sem.run Try.prog (do
          let z ← zeroValue 3
          storeCells ⟨g, 0, none⟩ (Builtin.zeroCells z.cells (n + 1)).toList
          pure (Value.tuple #[])) W = _
        rw [Sem.run_bind, hzv, Result.andThen_ok, Sem.run_bind, hzr, hst, Result.andThen_ok, Sem.run_pure]
      · have hlr : (List.replicate xs.length (0 : Int)).length = xs.length := List.length_replicate
        have hR := Kd.R_of_own (enc := Value.int .i64) (h1 := fun _ => rfl) (e := 3) (w := W.setRow g cs) (base := base) (ok := ok) (v := .slice (some ⟨g, 0, none⟩) xs.length cap) (xs := List.replicate xs.length (0 : Int))
          ⟨by simp [encs], .inr ⟨g, cap, cs, by rw [hlr], hb, setRow_heap W g cur _ 3 _ hh, by rw [hlr]; exact hn, hm, by rw [hsz]; exact hs, by rw [hlr]; exact htk⟩⟩ hok
        exact hR
section
variable {ops : Array Oper} {rest : List Oper} {o : Oper} {a : Act} {Q : Exit → Act → World → Prop} {w0 W : World}
theorem clear_event (hgd : o.guard = none) (hd : o.dst = none) (s : Operand) (ho : o.op = .call { callee := .builtin .clear, args := #[s], argTypes := #[31] }) {base : Nat} {ok : Nat → Prop} {v : Value} {xs : List Int} (hs : a.eval s = v)
    (h : Kd.R (Kd.int .i64) 3 W base ok v xs) (HB : Below base w0 W) (hbase : base ≤ W.heap.size)
    (k : ∀ W', Kd.R (Kd.int .i64) 3 W' base ok v (List.replicate xs.length 0) → Below base w0 W' → W.grownBy W' v.ownBlock → wpList Try.prog ops Q rest a W') : wpList Try.prog ops Q (o :: rest) a W := by
  obtain ⟨W', h1, h2, h3, h4⟩ := clear_run h HB hbase o.type
  refine Kd.event_run (v := .tuple #[]) (w1 := W') hgd ?_ ?_
  · unfold execOp
    simp only [ho, resolve, invoke, builtin, Sem.run_bind, Sem.run_pure, Result.andThen_ok, List.map_toArray, List.map_cons, List.map_nil, hs, h1]
  · rw [hd]
    exact k W' h2 h3 h4
theorem app_int {Kc : Act → World → Prop} (hw : Region.wanted o (yielded ops a.tmps) = true) (s x : Operand) (ho : o.op = .call { callee := .builtin .append, args := #[s, x], argTypes := #[31, 31] }) {base b : Nat} {ok : Nat → Prop} {v : Value} {xs : List Int} {y : Int} (hs : a.eval s = v) (hx : a.eval x = .slice (some ⟨b, 0, none⟩) 1 1)
    (hblk : W.heap[b]? = some (.cells #[.int .i64 y] 3 (0, 0))) (HO : Kd.R (Kd.int .i64) 3 W base ok v xs) (hfresh : ∀ k, W.heap.size ≤ k → ok k) (HB : Below base w0 W) (hbase : base ≤ W.heap.size) (hl : xs.length ≤ 1048576)
    (h : ∀ v1 w1, Kd.R (Kd.int .i64) 3 w1 base ok v1 (xs ++ [y]) → Below base w0 w1 → W.grownBy w1 v.ownBlock → (v1.ownBlock = v.ownBlock ∨ ∃ b, v1.ownBlock = some b ∧ W.heap.size ≤ b) → Kc (a.put o.dst v1) w1) :
    if Region.wanted o (yielded ops a.tmps) = true then Oper.wp Try.prog o a W Kc Q else Kc (a.put o.dst undef) W := by
  have HR : ReadsRow (fun (z : Int) cs => cs = [Value.int .i64 z]) 1 W (some ⟨b, 0, none⟩) 1 [y] := by
    refine ⟨rfl, by omega, fun _ => ⟨_, rfl, fun j p hj => ?_⟩⟩
    have hj0 : j = 0 := by
      have := (List.getElem?_eq_some_iff.1 hj).1
      simp at this
      exact this
    subst hj0
    have hp : p = y := by simpa using hj.symm
    subst hp
    refine ⟨[.int .i64 p], rfl, rfl, fun q u hq => ?_⟩
    have hq0 : q = 0 := by
      have := (List.getElem?_eq_some_iff.1 hq).1
      simp at this
      exact this
    subst hq0
    have hu : u = .int .i64 p := by simpa using hq.symm
    subst hu
    exact (blk_cell hblk 0).trans rfl
  exact Kd.R_append_rows_step (Kd.int .i64) base hw s x 31 3 (.int .i64 0) 8 ho Try.underlying31 info3 rfl (by decide) (by omega) v xs [y] (some ⟨b, 0, none⟩) 1 1 ok (fun _ => False) hs hx HO HR (fun _ _ hk => hk) (fun _ hk => hk.elim) hfresh HB hbase (by omega) h
end
theorem head_cell {w : World} {ad : Addr} {xs : List S27} (h : Kd.C k27 w (some ad) xs.length xs) (hp : 0 < xs.length) : w.cell? ad = some (.int .i64 (xs.getD 0 z27).f0) := by
  obtain ⟨ad2, A1, c1, e, h0, _⟩ := at_T27 h 0 (by omega) (by omega)
  injection e with e
  subst e
  have h1 : ad.add ((0 : Int).toNat * 2) = ad := by unfold Addr.add; exact if_pos rfl
  rw [h1] at h0
  exact h0
end Go.Proofs.Ytbdonoeellmeoaa.Pr
/- A field of a talker in a row of one's own is written. -/
namespace Go.Proofs.Ytbdonoeellmeoaa.Pr
open Go.RowKit Go.Proofs.YtbdonoeellmeoaaW.PrintWords Go.Proofs.YtbdonoeellmeoaaW.PrintLast Go.Proofs.YtbdonoeellmeoaaW.PrintMore
section
variable {W : World} {base g n cap : Nat} {ok : Nat → Prop} {xs : List S66}
theorem fk66' (W : World) (ok : Nat → Prop) (x : S66) {A0 : Option Addr} {c0 : Nat} (l0 : x.f0.length ≤ c0) (g0 : Kd.F k27 W ok A0 x.f0.length x.f0) : Kd.FK k66 W ok x [.slice A0 x.f0.length c0, .int .i64 x.f1, .int .i64 x.f2, .bool x.f3] := fun W2 hW => k66_mk W2 x l0 (g0 W2 hW)
theorem fk66F {W : World} {ok : Nat → Prop} {x : S66} {A0 : Option Addr} {c0 : Nat} (h : Kd.FK k66 W ok x [.slice A0 x.f0.length c0, .int .i64 x.f1, .int .i64 x.f2, .bool x.f3]) : Kd.F k27 W ok A0 x.f0.length x.f0 := fun W2 hW => by
  obtain ⟨A, c, e, _, hC⟩ := k66_open (h W2 hW)
  injection e with e1 _
  injection e1 with e2 _ _
  rw [e2]
  exact hC
/-- Element i, opened: its cells, and its queue with the blocks it lies in. -/
theorem now_open (h : Kd.N k66 66 W base ok (.slice (some ⟨g, 0, none⟩) n cap) xs) (i : Nat) (hi : i < n) :
    ∃ A c, (xs.getD i z66).f0.length ≤ c ∧ Kd.F k27 W (fun k => ok k ∧ k ≠ g) A (xs.getD i z66).f0.length (xs.getD i z66).f0 ∧
      ∀ (j : Nat) u, [Value.slice A (xs.getD i z66).f0.length c, .int .i64 (xs.getD i z66).f1, .int .i64 (xs.getD i z66).f2, .bool (xs.getD i z66).f3][j]? = some u → W.cell? ⟨g, i * 4 + j, none⟩ = some u := by
  obtain ⟨c66, hcl, hK, hcc, hfr⟩ := Kd.N_elem h z66 (i : Int) (by omega) (by omega)
  obtain ⟨A, c, rfl, hlq, hcq⟩ := k66_open (Kd.FK_now hK)
  exact ⟨A, c, hlq, fk66F hK, hcc⟩
theorem now_put0 (h : Kd.N k66 66 W base ok (.slice (some ⟨g, 0, none⟩) n cap) xs) (i : Nat) (hi : i < n) (q : List S27) {A' : Option Addr} {c' : Nat} {ok' : Nat → Prop} (hl : q.length ≤ c') (hF : Kd.F k27 W ok' A' q.length q) (hok : ∀ k, ok' k → ok k ∧ k ≠ g) :
    Kd.N k66 66 (W.setCell ⟨g, i * 4, none⟩ (.slice A' q.length c')) base ok (.slice (some ⟨g, 0, none⟩) n cap) (xs.set i ⟨q, (xs.getD i z66).f1, (xs.getD i z66).f2, (xs.getD i z66).f3⟩) := by
  obtain ⟨A, c, h1, h2, h3⟩ := now_open h i hi
  have hM : Kd.FK k66 W ok' (⟨q, (xs.getD i z66).f1, (xs.getD i z66).f2, (xs.getD i z66).f3⟩ : S66) [.slice A' q.length c', .int .i64 (xs.getD i z66).f1, .int .i64 (xs.getD i z66).f2, .bool (xs.getD i z66).f3] := fk66' W ok' ⟨q, _, _, _⟩ hl hF
  exact (Kd.N_seg h (i : Int) (by omega) (by omega) (c := [Value.slice A (xs.getD i z66).f0.length c, .int .i64 (xs.getD i z66).f1, .int .i64 (xs.getD i z66).f2, .bool (xs.getD i z66).f3]) (seg := [.slice A' q.length c']) (j := 0) rfl h3 (by show 0 + 1 ≤ 4; omega) hM hok).1
theorem now_put2 (h : Kd.N k66 66 W base ok (.slice (some ⟨g, 0, none⟩) n cap) xs) (i : Nat) (hi : i < n) (e : Int) :
    Kd.N k66 66 (W.setCell ⟨g, i * 4 + 2, none⟩ (.int .i64 e)) base ok (.slice (some ⟨g, 0, none⟩) n cap) (xs.set i ⟨(xs.getD i z66).f0, (xs.getD i z66).f1, e, (xs.getD i z66).f3⟩) := by
  obtain ⟨A, c, h1, h2, h3⟩ := now_open h i hi
  have hM : Kd.FK k66 W (fun k => ok k ∧ k ≠ g) (⟨(xs.getD i z66).f0, (xs.getD i z66).f1, e, (xs.getD i z66).f3⟩ : S66) [.slice A (xs.getD i z66).f0.length c, .int .i64 (xs.getD i z66).f1, .int .i64 e, .bool (xs.getD i z66).f3] := fk66' W _ ⟨_, _, e, _⟩ h1 h2
  exact (Kd.N_seg h (i : Int) (by omega) (by omega) (c := [Value.slice A (xs.getD i z66).f0.length c, .int .i64 (xs.getD i z66).f1, .int .i64 (xs.getD i z66).f2, .bool (xs.getD i z66).f3]) (seg := [.int .i64 e]) (j := 2) rfl h3 (by show 2 + 1 ≤ 4; omega) hM (fun _ hk => hk)).1
theorem now_put3 (h : Kd.N k66 66 W base ok (.slice (some ⟨g, 0, none⟩) n cap) xs) (i : Nat) (hi : i < n) (b : Bool) :
    Kd.N k66 66 (W.setCell ⟨g, i * 4 + 3, none⟩ (.bool b)) base ok (.slice (some ⟨g, 0, none⟩) n cap) (xs.set i ⟨(xs.getD i z66).f0, (xs.getD i z66).f1, (xs.getD i z66).f2, b⟩) := by
  obtain ⟨A, c, h1, h2, h3⟩ := now_open h i hi
  have hM : Kd.FK k66 W (fun k => ok k ∧ k ≠ g) (⟨(xs.getD i z66).f0, (xs.getD i z66).f1, (xs.getD i z66).f2, b⟩ : S66) [.slice A (xs.getD i z66).f0.length c, .int .i64 (xs.getD i z66).f1, .int .i64 (xs.getD i z66).f2, .bool b] := fk66' W _ ⟨_, _, _, b⟩ h1 h2
  exact (Kd.N_seg h (i : Int) (by omega) (by omega) (c := [Value.slice A (xs.getD i z66).f0.length c, .int .i64 (xs.getD i z66).f1, .int .i64 (xs.getD i z66).f2, .bool (xs.getD i z66).f3]) (seg := [.bool b]) (j := 3) rfl h3 (by show 3 + 1 ≤ 4; omega) hM (fun _ hk => hk)).1
theorem getD_set_self {α : Type} (l : List α) (i : Nat) (v d : α) (h : i < l.length) : (l.set i v).getD i d = v := by simp [List.getD_eq_getElem?_getD, h]
/-- A good frame was sent: the queue loses its first, the errors are e. -/
theorem now_good (h : Kd.N k66 66 W base ok (.slice (some ⟨g, 0, none⟩) n cap) xs) (i : Nat) (hi : i < n) (hn : xs.length = n) (e : Int) {A : Option Addr} {c : Nat} (hl : (xs.getD i z66).f0.length ≤ c) (hp : 0 < (xs.getD i z66).f0.length) {ok' : Nat → Prop} (hF : Kd.F k27 W ok' A (xs.getD i z66).f0.length (xs.getD i z66).f0) (hok : ∀ k, ok' k → ok k ∧ k ≠ g) :
    Kd.N k66 66 ((W.setCell ⟨g, i * 4, none⟩ (.slice (if c = 1 then A else A.map (·.add (1 * 2))) ((xs.getD i z66).f0.length - 1) (c - 1))).setCell ⟨g, i * 4 + 2, none⟩ (.int .i64 e)) base ok (.slice (some ⟨g, 0, none⟩) n cap)
      (xs.set i ⟨(xs.getD i z66).f0.drop 1, (xs.getD i z66).f1, e, (xs.getD i z66).f3⟩) := by
  have hq : ((xs.getD i z66).f0.drop 1).length = (xs.getD i z66).f0.length - 1 := List.length_drop ..
  have hC := Kd.F_cut (m := 1) (c := c) hF hp hl
  have h1 := now_put0 h i hi ((xs.getD i z66).f0.drop 1) (A' := if c = 1 then A else A.map (·.add (1 * 2))) (c' := c - 1) (by rw [hq]; omega) hC hok
  rw [hq] at h1
  have h2 := now_put2 h1 i hi e
  rw [getD_set_self _ _ _ _ (by rw [hn]; exact hi), List.set_set] at h2
  exact h2
theorem now_bad (h : Kd.N k66 66 W base ok (.slice (some ⟨g, 0, none⟩) n cap) xs) (i : Nat) (hi : i < n) (hn : xs.length = n) (e : Int) (b : Bool) :
    Kd.N k66 66 ((W.setCell ⟨g, i * 4 + 2, none⟩ (.int .i64 e)).setCell ⟨g, i * 4 + 3, none⟩ (.bool b)) base ok (.slice (some ⟨g, 0, none⟩) n cap)
      (xs.set i ⟨(xs.getD i z66).f0, (xs.getD i z66).f1, e, b⟩) := by
  have h2 := now_put3 (now_put2 h i hi e) i hi b
  rw [getD_set_self _ _ _ _ (by rw [hn]; exact hi), List.set_set] at h2
  exact h2
theorem sent_good (h : Kd.N k66 66 W base ok (.slice (some ⟨g, 0, none⟩) n cap) xs) (i : Nat) (hi : i < n) (hn : xs.length = n) {t : S66} (ht : xs.getD i z66 = t) (e : Int) (he : e = if t.f2 - 1 < 0 then 0 else t.f2 - 1) {A : Option Addr} {c : Nat} (hl : t.f0.length ≤ c) (hp : 0 < t.f0.length) {ok' : Nat → Prop} (hF : Kd.F k27 W ok' A t.f0.length t.f0) (hok : ∀ k, ok' k → ok k ∧ k ≠ g) :
    Kd.N k66 66 ((W.setCell ⟨g, i * 4, none⟩ (.slice (if c = 1 then A else A.map (·.add (1 * 2))) (t.f0.length - 1) (c - 1))).setCell ⟨g, i * 4 + 2, none⟩ (.int .i64 e)) base ok (.slice (some ⟨g, 0, none⟩) n cap) (xs.set i (Bus.sentBy true t)) := by
  subst ht
  subst he
  exact now_good h i hi hn _ hl hp hF hok
theorem sent_bad (h : Kd.N k66 66 W base ok (.slice (some ⟨g, 0, none⟩) n cap) xs) (i : Nat) (hi : i < n) (hn : xs.length = n) {t : S66} (ht : xs.getD i z66 = t) (e : Int) (he : e = if 255 < t.f2 + 8 then 255 else t.f2 + 8) (b : Bool) (hb : b = decide (e = 255)) :
    Kd.N k66 66 ((W.setCell ⟨g, i * 4 + 2, none⟩ (.int .i64 e)).setCell ⟨g, i * 4 + 3, none⟩ (.bool b)) base ok (.slice (some ⟨g, 0, none⟩) n cap) (xs.set i (Bus.sentBy false t)) := by
  subst ht
  subst hb
  subst he
  exact now_bad h i hi hn _ _
/-- The queue is told by another row of the same frames: the talkers are the same. -/
theorem now_keep (h : Kd.N k66 66 W base ok (.slice (some ⟨g, 0, none⟩) n cap) xs) (i : Nat) (hi : i < n) (hn : xs.length = n) {t : S66} (ht : xs.getD i z66 = t) {A' : Option Addr} {c' : Nat} {ok' : Nat → Prop} (hl : t.f0.length ≤ c') (hF : Kd.F k27 W ok' A' t.f0.length t.f0) (hok : ∀ k, ok' k → ok k ∧ k ≠ g) :
    Kd.N k66 66 (W.setCell ⟨g, i * 4, none⟩ (.slice A' t.f0.length c')) base ok (.slice (some ⟨g, 0, none⟩) n cap) xs := by
  subst ht
  have h2 := now_put0 h i hi _ hl hF hok
  have e : xs.set i ⟨(xs.getD i z66).f0, (xs.getD i z66).f1, (xs.getD i z66).f2, (xs.getD i z66).f3⟩ = xs := by
    have e1 : xs.getD i z66 = xs[i]'(by rw [hn]; exact hi) := by simp [List.getD_eq_getElem?_getD, List.getElem?_eq_getElem (show i < xs.length by rw [hn]; exact hi)]
    show xs.set i (xs.getD i z66) = xs
    rw [e1]
    exact List.set_getElem_self _
  rw [e] at h2
  exact h2
end
end Go.Proofs.Ytbdonoeellmeoaa.Pr
/- The bus, by hand: what both walks use: opened talkers and frames, calls of what is printed, rows that are told anew behind stores. -/
namespace Go.Proofs.Ytbdonoeellmeoaa.Pr
open Go.RowKit Go.Proofs.YtbdonoeellmeoaaW.PrintWords Go.Proofs.YtbdonoeellmeoaaW.PrintLast Go.Proofs.YtbdonoeellmeoaaW.PrintMore Go.Proofs.Ytbdonoeellmeoaa.Bus
set_option linter.unusedVariables false
set_option linter.unusedSimpArgs false
theorem btw_ (a lo hi : Int) (b : Bool) (h : decide (lo ≤ a ∧ a ≤ hi) = b) : impl_between.f a lo hi = some b := by
  subst h
  unfold impl_between.f
  by_cases c : a ≥ lo
  · rw [if_pos c]
    congr 1
    exact decide_eq_decide.2 ⟨fun h => ⟨c, h⟩, fun h => h.2⟩
  · rw [if_neg c]
    congr 1
    exact (decide_eq_false (fun h => c h.1)).symm
theorem between_calls (a lo hi : Int) (b : Bool) (w : World) (h : decide (lo ≤ a ∧ a ≤ hi) = b) : Calls Try.prog 29 #[.int .i64 a, .int .i64 lo, .int .i64 hi] w fun e w' => e = .returned (.bool b) ∧ Drawn0 w w' := impl_between.calls a lo hi b w (btw_ a lo hi b h)
theorem drawn_below0 {w w' : World} (h : Drawn0 w w') : Below w.heap.size w w' := by
  obtain ⟨n, rfl⟩ := h
  exact pw_below_drewN (Below.refl _ _) n
theorem good_calls (A : Option Addr) (c : Nat) (t : S66) (b : Bool) (w : World) (h1 : Kd.C k27 w A t.f0.length t.f0) (h2 : t.f0.length ≤ c) (hs : smallT t = true) (h : goodT t = b) :
    Calls Try.prog 42 #[.agg #[.slice A t.f0.length c, .int .i64 t.f1, .int .i64 t.f2, .bool t.f3]] w fun e w' => e = .returned (.bool b) ∧ Below w.heap.size w w' := by
  obtain ⟨k, hk⟩ := Pure.goodTalker_ev t hs
  exact impl_goodTalker.calls k A c t.f0 t.f1 t.f2 t.f3 b w h1 h2 (by rw [← h]; exact hk k (Nat.le_refl _))
theorem small_at {l : List S66} {sp : List Int} (h : smallB l sp = true) (j : Nat) (hj : j < l.length) : smallT (rd_T66 l (j : Int)) = true := by
  unfold smallB at h
  simp only [Bool.and_eq_true] at h
  have h2 := List.all_eq_true.1 h.2.2
  have e : rd_T66 l (j : Int) = l[j] := by
    show l.getD j z66 = _
    simp [List.getD_eq_getElem?_getD, List.getElem?_eq_getElem hj]
  rw [e]
  exact h2 _ (List.getElem_mem hj)
theorem take_T66 (l : List S66) (j : Nat) (hj : j < l.length) : l.take (j + 1) = l.take j ++ [rd_T66 l (j : Int)] := by
  have e : rd_T66 l (j : Int) = l[j] := by
    show l.getD j z66 = _
    simp [List.getD_eq_getElem?_getD, List.getElem?_eq_getElem hj]
  rw [e, List.take_succ_eq_append_getElem hj]
theorem take_T27 (l : List S27) (j : Nat) (hj : j < l.length) : l.take (j + 1) = l.take j ++ [rd_T27 l (j : Int)] := by
  have e : rd_T27 l (j : Int) = l[j] := by
    show l.getD j z27 = _
    simp [List.getD_eq_getElem?_getD, List.getElem?_eq_getElem hj]
  rw [e, List.take_succ_eq_append_getElem hj]
theorem fk27 (W : World) (ok : Nat → Prop) (x : S27) {A1 : Option Addr} {c1 : Nat} (l1 : x.f1.length ≤ c1) (g1 : Kd.F (Kd.int .u8) W ok A1 x.f1.length x.f1) : Kd.FK k27 W ok x [.int .i64 x.f0, .slice A1 x.f1.length c1] := fun W2 hW => k27_mk W2 x l1 (g1 W2 hW)
theorem fk66 (W : World) (ok : Nat → Prop) (x : S66) {A0 : Option Addr} {c0 : Nat} (l0 : x.f0.length ≤ c0) (g0 : Kd.F k27 W ok A0 x.f0.length x.f0) : Kd.FK k66 W ok x [.slice A0 x.f0.length c0, .int .i64 x.f1, .int .i64 x.f2, .bool x.f3] := fun W2 hW => k66_mk W2 x l0 (g0 W2 hW)
theorem fk66_F {W : World} {ok : Nat → Prop} {x : S66} {A0 : Option Addr} {c0 : Nat} (h : Kd.FK k66 W ok x [.slice A0 x.f0.length c0, .int .i64 x.f1, .int .i64 x.f2, .bool x.f3]) : Kd.F k27 W ok A0 x.f0.length x.f0 := fun W2 hW => by
  obtain ⟨A, c, e, _, hC⟩ := k66_open (h W2 hW)
  injection e with e1 _
  injection e1 with e2 _ _
  rw [e2]
  exact hC
theorem info73 : (Try.prog.info? 73).map (fun i => (i.zero, i.size, i.bytes)) = some (some (.agg #[(.int .i64 0), (.int .i64 0), (.int .i64 0), (.bool false)]), 4, 32) := by kernel_rfl
theorem small_q {t : S66} (h : smallT t = true) : t.f0.length ≤ 1048576 := by
  unfold smallT at h
  simp only [Bool.and_eq_true, decide_eq_true_eq] at h
  exact h.1
theorem small_f {t : S66} (h : smallT t = true) (m : Nat) (hm : m < t.f0.length) : (rd_T27 t.f0 (m : Int)).f1.length ≤ 1048576 := by
  unfold smallT at h
  simp only [Bool.and_eq_true, decide_eq_true_eq] at h
  have e : rd_T27 t.f0 (m : Int) = t.f0[m] := by
    show t.f0.getD m z27 = _
    simp [List.getD_eq_getElem?_getD, List.getElem?_eq_getElem hm]
  rw [e]
  exact of_decide_eq_true (List.all_eq_true.1 h.2 _ (List.getElem_mem hm))
theorem sent_good1 {W : World} {base : Nat} {ok : Nat → Prop} {g n cap : Nat} {xs : List S66} (h : Kd.N k66 66 W base ok (.slice (some ⟨g, 0, none⟩) n cap) xs) (i : Nat) (hi : i < n) (hn : xs.length = n) {t : S66} (ht : xs.getD i z66 = t) (e : Int) (he : e = if t.f2 - 1 < 0 then 0 else t.f2 - 1) {A : Option Addr} (hl : t.f0.length ≤ 1) (hp : 0 < t.f0.length) (hF : Kd.F k27 W (fun k => ok k ∧ k ≠ g) A t.f0.length t.f0) :
    Kd.N k66 66 ((W.setCell ⟨g, i * 4, none⟩ (.slice A (t.f0.length - 1) 0)).setCell ⟨g, i * 4 + 2, none⟩ (.int .i64 e)) base ok (.slice (some ⟨g, 0, none⟩) n cap) (xs.set i (sentBy true t)) := by
  have h3 := sent_good h i hi hn ht e he (c := 1) hl hp hF (fun _ hk => hk)
  rw [if_pos rfl] at h3
  exact h3
theorem sent_goodN {W : World} {base : Nat} {ok : Nat → Prop} {g n cap : Nat} {xs : List S66} (h : Kd.N k66 66 W base ok (.slice (some ⟨g, 0, none⟩) n cap) xs) (i : Nat) (hi : i < n) (hn : xs.length = n) {t : S66} (ht : xs.getD i z66 = t) (e : Int) (he : e = if t.f2 - 1 < 0 then 0 else t.f2 - 1) {A : Option Addr} {c : Nat} (hl : t.f0.length ≤ c) (hc : ¬ c = 1) (hp : 0 < t.f0.length) (hF : Kd.F k27 W (fun k => ok k ∧ k ≠ g) A t.f0.length t.f0) :
    Kd.N k66 66 ((W.setCell ⟨g, i * 4, none⟩ (.slice (Option.map (fun x => (⟨x.block, x.off + 2, none⟩ : Addr)) A) (t.f0.length - 1) (c - 1))).setCell ⟨g, i * 4 + 2, none⟩ (.int .i64 e)) base ok (.slice (some ⟨g, 0, none⟩) n cap) (xs.set i (sentBy true t)) := by
  have h3 := sent_good h i hi hn ht e he (c := c) hl hp hF (fun _ hk => hk)
  rw [if_neg hc] at h3
  exact h3
theorem far2_R {α : Type} {K : Kd α} {ty : Nat} {W : World} {base : Nat} {ok : Nat → Prop} {v : Value} {xs : List α} (h : Kd.R K ty W base ok v xs) (g a b : Nat) (hk : ∀ k, ok k → k ≠ g) (x y : Value) : Kd.R K ty ((W.setCell ⟨g, a, none⟩ x).setCell ⟨g, b, none⟩ y) base ok v xs :=
  Kd.R_far (p := ⟨g, b, none⟩) (Kd.R_far (p := ⟨g, a, none⟩) h hk x) hk y
theorem below_set2 {w W : World} {g : Nat} (h : Below w.heap.size w W) (hg : w.heap.size ≤ g) (a b : Nat) (x y : Value) : Below w.heap.size w ((W.setCell ⟨g, a, none⟩ x).setCell ⟨g, b, none⟩ y) := below_set (below_set h hg) hg
theorem size_set2 {W : World} {n g : Nat} (h : n ≤ W.heap.size) (a b : Nat) (x y : Value) : n ≤ ((W.setCell ⟨g, a, none⟩ x).setCell ⟨g, b, none⟩ y).heap.size := by simpa using h
theorem stp_ {r g R : Nat} (h : r + (g + 1) = R) : r + 1 + g = R := by omega
theorem len1_ {α : Type} {out : List α} {x : α} {r : Nat} (h : out.length ≤ r) : (out ++ [x]).length ≤ r + 1 := by rw [List.length_append, List.length_singleton]; omega
end Go.Proofs.Ytbdonoeellmeoaa.Pr
/- BusFine, plainly: what its fold keeps within bounds, and what a step that goes through tells. -/
namespace Go.Proofs.Ytbdonoeellmeoaa.Bus
open Go.RowKit Go.Proofs.Ytbdonoeellmeoaa.Pr Go.Proofs.Ytbdonoeellmeoaa.EvKit
set_option linter.unusedVariables false
set_option linter.unusedSimpArgs false
structure SInv (n q : Nat) (S : FS) : Prop where
  la : S.at_.length = n
  le : S.err.length = n
  lu : S.used.length = n
  ab : ∀ i, i < n → 0 ≤ S.at_.getD i 0 ∧ S.at_.getD i 0 ≤ (q : Int)
  eb : ∀ i, i < n → 0 ≤ S.err.getD i 0 ∧ S.err.getD i 0 ≤ 255
  ub : ∀ i, i < n → 0 ≤ S.used.getD i 0 ∧ S.used.getD i 0 ≤ (q : Int)
  lb : -1 ≤ S.last ∧ S.last ≤ 40
theorem getD_repz (m i : Nat) : (List.replicate m (0 : Int)).getD i 0 = 0 := by
  simp only [List.getD_eq_getElem?_getD, List.getElem?_replicate]
  split <;> rfl
theorem getD_seti (l : List Int) (i j : Nat) (v : Int) (h : i < l.length) : (l.set i v).getD j 0 = if i = j then v else l.getD j 0 := by
  by_cases c : i = j
  · subst c; rw [if_pos rfl]; simp [List.getD_eq_getElem?_getD, h]
  · rw [if_neg c]; simp [List.getD_eq_getElem?_getD, List.getElem?_set, c]
theorem goodT_err {t : S66} (h : goodT t = true) : 0 ≤ t.f2 ∧ t.f2 ≤ 255 := by
  unfold goodT at h
  simp only [Bool.and_eq_true, decide_eq_true_eq] at h
  exact h.2.2.2.1
theorem tk_mem {l : List S66} {i : Nat} (h : i < l.length) : tkAt l i ∈ l := by
  show l.getD i tk0 ∈ l
  simp [List.getD_eq_getElem?_getD, List.getElem?_eq_getElem h]
theorem err_get (l : List S66) (i : Nat) (h : i < l.length) : (l.map (fun t => t.f2)).getD i 0 = (tkAt l i).f2 := by
  show _ = (l.getD i tk0).f2
  simp [List.getD_eq_getElem?_getD, List.getElem?_eq_getElem h]
theorem SInv.first {l : List S66} (h : l.all goodT = true) : SInv l.length 0 (start l) := by
  refine ⟨List.length_replicate, List.length_map _, List.length_replicate, fun i hi => ?_, fun i hi => ?_, fun i hi => ?_, ⟨Int.le_refl _, by show (-1 : Int) ≤ 40; omega⟩⟩
  · show 0 ≤ (List.replicate l.length (0 : Int)).getD i 0 ∧ (List.replicate l.length (0 : Int)).getD i 0 ≤ _
    rw [getD_repz]; omega
  · show 0 ≤ (l.map (fun t => t.f2)).getD i 0 ∧ (l.map (fun t => t.f2)).getD i 0 ≤ _
    rw [err_get l i hi]
    exact goodT_err (List.all_eq_true.1 h _ (tk_mem hi))
  · show 0 ≤ (List.replicate l.length (0 : Int)).getD i 0 ∧ (List.replicate l.length (0 : Int)).getD i 0 ≤ _
    rw [getD_repz]; omega
theorem useOf_inv {n q w : Nat} {S : FS} (h : SInv n q S) (r : Int) : (useOf w S n r).length = n ∧ ∀ i, i < n → 0 ≤ (useOf w S n r).getD i 0 ∧ (useOf w S n r).getD i 0 ≤ (q : Int) := by
  unfold useOf
  split
  · refine ⟨List.length_replicate, fun i hi => ?_⟩
    rw [getD_repz]; omega
  · exact ⟨h.lu, h.ub⟩
/-- What a step that goes through tells. -/
theorem fstep_some {l : List S66} {w : Nat} {S S1 : FS} {s : S73} (h : fstep l w S s = some S1) : S.last < s.f0 ∧ (∃ wn : Nat, s.f1 = (wn : Int) ∧ wn < l.length) ∧ (∀ i, i < l.length → fitB l S (useOf w S l.length s.f0) s.f1 s.f2 i = true) ∧
    S1 = (if s.f3 = true then ⟨S.at_.set s.f1.toNat (S.at_.getD s.f1.toNat 0 + 1), (if 0 < S.err.getD s.f1.toNat 0 then S.err.set s.f1.toNat (S.err.getD s.f1.toNat 0 - 1) else S.err), (useOf w S l.length s.f0).set s.f1.toNat ((useOf w S l.length s.f0).getD s.f1.toNat 0 + 1), s.f0⟩
        else ⟨S.at_, S.err.set s.f1.toNat (if 255 < S.err.getD s.f1.toNat 0 + 8 then 255 else S.err.getD s.f1.toNat 0 + 8), (useOf w S l.length s.f0).set s.f1.toNat ((useOf w S l.length s.f0).getD s.f1.toNat 0 + 1), s.f0⟩) := by
  unfold fstep at h
  by_cases c : S.last < s.f0 ∧ 0 ≤ s.f1 ∧ s.f1 < l.length
  · rw [if_pos c] at h
    by_cases c2 : (List.range l.length).all (fitB l S (useOf w S l.length s.f0) s.f1 s.f2) = true
    · rw [if_pos c2] at h
      exact ⟨c.1, ⟨s.f1.toNat, by omega, by omega⟩, fun i hi => List.all_eq_true.1 c2 i (List.mem_range.2 hi), (Option.some.inj h).symm⟩
    · rw [if_neg c2] at h; cases h
  · rw [if_neg c] at h; cases h
theorem fstep_inv {l : List S66} {w q : Nat} {S S1 : FS} {s : S73} (hI : SInv l.length q S) (h : fstep l w S s = some S1) (hs : s.f0 ≤ 40) : SInv l.length (q + 1) S1 := by
  obtain ⟨h1, ⟨wn, hw, hwl⟩, _, h4⟩ := fstep_some h
  obtain ⟨u1, u2⟩ := useOf_inv (w := w) hI s.f0
  subst h4
  generalize useOf w S l.length s.f0 = u at u1 u2
  rw [hw]
  simp only [Int.toNat_natCast]
  have hb := hI.ab wn hwl
  have he := hI.eb wn hwl
  have hu := u2 wn hwl
  have hU : ∀ i, i < l.length → 0 ≤ (u.set wn (u.getD wn 0 + 1)).getD i 0 ∧ (u.set wn (u.getD wn 0 + 1)).getD i 0 ≤ ((q + 1 : Nat) : Int) := fun i hi => by
    rw [getD_seti _ _ _ _ (by omega)]
    have := u2 i hi
    split <;> omega
  have hl := hI.lb
  by_cases c : s.f3 = true
  · rw [if_pos c]
    refine ⟨by show (List.set _ _ _).length = _; rw [List.length_set]; exact hI.la, ?_, by show (List.set _ _ _).length = _; rw [List.length_set]; exact u1, fun i hi => ?_, fun i hi => ?_, hU, ⟨by show -1 ≤ s.f0; omega, hs⟩⟩
    · show (if _ then _ else _ : List Int).length = _
      split
      · rw [List.length_set]; exact hI.le
      · exact hI.le
    · show 0 ≤ (List.set _ _ _).getD i 0 ∧ (List.set _ _ _).getD i 0 ≤ _
      rw [getD_seti _ _ _ _ (by rw [hI.la]; exact hwl)]
      have := hI.ab i hi
      split <;> omega
    · show 0 ≤ (if _ then _ else _ : List Int).getD i 0 ∧ (if _ then _ else _ : List Int).getD i 0 ≤ _
      have := hI.eb i hi
      split
      · rw [getD_seti _ _ _ _ (by rw [hI.le]; exact hwl)]
        split <;> omega
      · exact this
  · rw [if_neg c]
    refine ⟨hI.la, by show (List.set _ _ _).length = _; rw [List.length_set]; exact hI.le, by show (List.set _ _ _).length = _; rw [List.length_set]; exact u1, fun i hi => by have := hI.ab i hi; show 0 ≤ S.at_.getD i 0 ∧ S.at_.getD i 0 ≤ _; omega, fun i hi => ?_, hU, ⟨by show -1 ≤ s.f0; omega, hs⟩⟩
    show 0 ≤ (List.set _ _ _).getD i 0 ∧ (List.set _ _ _).getD i 0 ≤ _
    rw [getD_seti _ _ _ _ (by rw [hI.le]; exact hwl)]
    have := hI.eb i hi
    split
    · split <;> omega
    · exact this
theorem ffold_drop {l : List S66} {w : Nat} {S SE : FS} {sent : List S73} {q : Nat} (h : ffold l w S (sent.drop q) = some SE) (hq : q < sent.length) : ∃ S1, fstep l w S (sent.getD q z73) = some S1 ∧ ffold l w S1 (sent.drop (q + 1)) = some SE := by
  have e : sent.drop q = sent.getD q z73 :: sent.drop (q + 1) := by
    rw [List.drop_eq_getElem_cons hq]
    simp [List.getD_eq_getElem?_getD, List.getElem?_eq_getElem hq]
  rw [e] at h
  obtain ⟨S1, h1, h2⟩ := Option.bind_eq_some_iff.1 (show (fstep l w S (sent.getD q z73)).bind _ = some SE from h)
  exact ⟨S1, h1, h2⟩
theorem fit_shut {l : List S66} {S : FS} {u : List Int} {who id : Int} {i : Nat} (h : fitB l S u who id i = true) (hs : shut l S u i) : (i : Int) ≠ who := by
  unfold fitB at h
  rw [if_pos hs] at h
  exact of_decide_eq_true h
theorem fit_open {l : List S66} {S : FS} {u : List Int} {who id : Int} {i : Nat} (h : fitB l S u who id i = true) (hs : ¬ shut l S u i) : id ≤ atId l S i ∧ ((i : Int) = who → atId l S i = id) := by
  unfold fitB at h
  rw [if_neg hs] at h
  exact of_decide_eq_true h
end Go.Proofs.Ytbdonoeellmeoaa.Bus
-- Written by this session's own print (wip/tools/mkmp.py) out of the translation. Lean checks it.
namespace Go.Proofs.Ytbdonoeellmeoaa.Pr
open Go.RowKit Go.Proofs.YtbdonoeellmeoaaW.PrintWords Go.Proofs.YtbdonoeellmeoaaW.PrintLast Go.Proofs.YtbdonoeellmeoaaW.PrintMore
attribute [local go_sem] max2_int min2_int max_two min_two max_three min_three max_four min_four   -- for this text's walks alone
set_option linter.unusedVariables false
set_option linter.unusedSimpArgs false

/-! ### spec_SameFrame: function 48 -/
mutual
def spec_SameFrame.j0 : Nat → Bool → Int → List Int → Int → List Int → Option (Bool)
  | 0, _, _, _, _, _ => none
  | k + 1, x19, x412000, x412001, x413000, x413001 => if x19 = true then (some false) else (spec_SameFrame.l0 k (x412001.length : Int) 0 x412000 x412001 x413000 x413001)
def spec_SameFrame.l0 : Nat → Int → Int → Int → List Int → Int → List Int → Option (Bool)
  | 0, _, _, _, _, _, _ => none
  | k + 1, x22, x23, x412000, x412001, x413000, x413001 => if x23 < x22 then (if 0 ≤ x23 then (if x23 < (x412001.length : Int) then (if x23 < (x413001.length : Int) then (if (rd x412001 x23) = (rd x413001 x23) then (spec_SameFrame.l0 k x22 (wrap64 (x23 + 1)) x412000 x412001 x413000 x413001) else (some false)) else (none)) else (none)) else (none)) else (some true)
end
def spec_SameFrame.f (k : Nat) (a0_0 : Int) (l0_1 : List Int) (a1_0 : Int) (l1_1 : List Int) : Option (Bool) := if a0_0 = a1_0 then (spec_SameFrame.j0 k ((l0_1.length : Int) != (l1_1.length : Int)) a0_0 l0_1 a1_0 l1_1) else (spec_SameFrame.j0 k true a0_0 l0_1 a1_0 l1_1)
end Go.Proofs.Ytbdonoeellmeoaa.Pr
-- Written by this session's own print (wip/tools/mkmp.py) out of the translation. Lean checks it.
namespace Go.Proofs.Ytbdonoeellmeoaa.Pr
open Go.RowKit Go.Proofs.YtbdonoeellmeoaaW.PrintWords Go.Proofs.YtbdonoeellmeoaaW.PrintLast Go.Proofs.YtbdonoeellmeoaaW.PrintMore
attribute [local go_sem] max2_int min2_int max_two min_two max_three min_three max_four min_four   -- for this text's walks alone
set_option linter.unusedVariables false
set_option linter.unusedSimpArgs false

set_option maxHeartbeats 8000000 in
set_option maxRecDepth 100000 in
theorem spec_SameFrame.calls (k : Nat) (a0_0 : Int) (A0_1 : Option Addr) (c0_1 : Nat) (l0_1 : List Int) (a1_0 : Int) (A1_1 : Option Addr) (c1_1 : Nat) (l1_1 : List Int) (r : Bool) (w : World) (hr0_1 : Kd.C (Kd.int .u8) w A0_1 l0_1.length l0_1) (hc0_1 : l0_1.length ≤ c0_1) (hr1_1 : Kd.C (Kd.int .u8) w A1_1 l1_1.length l1_1) (hc1_1 : l1_1.length ≤ c1_1) (h : spec_SameFrame.f k a0_0 l0_1 a1_0 l1_1 = some r) :
   Calls Try.prog 48 #[.agg #[.int .i64 a0_0, .slice A0_1 l0_1.length c0_1], .agg #[.int .i64 a1_0, .slice A1_1 l1_1.length c1_1]] w fun e w' => e = .returned (.bool r) ∧ Below w.heap.size w w' := by
  have hu27 := Try.underlying27
  have HR0_1 := Aside0.mk hr0_1
  have HC0_1 := Aside0.mk hc0_1
  clear hr0_1 hc0_1
  have HR1_1 := Aside0.mk hr1_1
  have HC1_1 := Aside0.mk hc1_1
  clear hr1_1 hc1_1
  have HB := Aside0.mk (Below.refl w.heap.size w)
  have H : (if a0_0 = a1_0 then (spec_SameFrame.j0 k ((l0_1.length : Int) != (l1_1.length : Int)) a0_0 l0_1 a1_0 l1_1) else (spec_SameFrame.j0 k true a0_0 l0_1 a1_0 l1_1)) = some r := h
  clear h
  have HC3 := Aside0.mk H
  clear H
  go_enter Try.func48, Try.ntmps48
  go_upto_region 1 with (first | ((with_reducible refine gate_dst (N := 2) rfl ?_); (try (refine gate_guard (by rfl) ?_; dsimp only)); refine box_event ?hg (N := 2) ?hd (cs := #[.int .i64 a0_0, .slice A0_1 l0_1.length c0_1]) (t := 27) ?hr ?_; (case hd => rfl); (case hg => rfl); (case hr => first | (go_simp; done) | (go_simp; rfl)); intro gb411 hg w4 hbox hb; have n0_ := Aside0.mk (below_step hb_ hb); have n1_ := Aside0.mk (hbox); have n2_ : Aside0 (w.heap.size ≤ gb411) := gz_; have n3_ : Aside0 (w.heap.size ≤ gb411) := gz_; clear HB; have HB := n0_; have BK411 := n1_; have GW411 := n2_; have GE411 := n3_; clear n0_ n1_ n2_ n3_; clear hb hbox hg) | ((with_reducible refine gate_dst (N := 3) rfl ?_); (try (refine gate_guard (by rfl) ?_; dsimp only)); refine box_event ?hg (N := 3) ?hd (cs := #[.int .i64 a1_0, .slice A1_1 l1_1.length c1_1]) (t := 27) ?hr ?_; (case hd => rfl); (case hg => rfl); (case hr => first | (go_simp; done) | (go_simp; rfl)); intro gb412 hg w5 hbox hb; have n0_ := bb_ BK411 hb; have n1_ := Aside0.mk (below_step hb_ hb); have n2_ := Aside0.mk (hbox); have n3_ : Aside0 (w.heap.size ≤ gb412) := gz_; have n4_ : Aside0 (w.heap.size ≤ gb412) := gz_; have n5_ := Aside0.mk ((by rw [hg]; exact Nat.ne_of_lt (blk_lt (g := gb411) (o := .cells #[.int .i64 a0_0, .slice A0_1 l0_1.length c0_1] 27 (0, 0)) (bk_ BK411.out)) : gb411 ≠ gb412)); have n6_ := Aside0.mk ((by rw [hg]; exact Nat.ne_of_gt (blk_lt (g := gb411) (o := .cells #[.int .i64 a0_0, .slice A0_1 l0_1.length c0_1] 27 (0, 0)) (bk_ BK411.out)) : gb412 ≠ gb411)); clear BK411; clear HB; have BK411 := n0_; have HB := n1_; have BK412 := n2_; have GW412 := n3_; have GE412 := n4_; have NB411_412 := n5_; have NB412_411 := n6_; clear n0_ n1_ n2_ n3_ n4_ n5_ n6_; clear hb hbox hg))
  repeat (go_quiet (first | ((with_reducible refine gate_dst (N := 2) rfl ?_); (try (refine gate_guard (by rfl) ?_; dsimp only)); refine box_event ?hg (N := 2) ?hd (cs := #[.int .i64 a0_0, .slice A0_1 l0_1.length c0_1]) (t := 27) ?hr ?_; (case hd => rfl); (case hg => rfl); (case hr => first | (go_simp; done) | (go_simp; rfl)); intro gb411 hg w4 hbox hb; have n0_ := Aside0.mk (below_step hb_ hb); have n1_ := Aside0.mk (hbox); have n2_ : Aside0 (w.heap.size ≤ gb411) := gz_; have n3_ : Aside0 (w.heap.size ≤ gb411) := gz_; clear HB; have HB := n0_; have BK411 := n1_; have GW411 := n2_; have GE411 := n3_; clear n0_ n1_ n2_ n3_; clear hb hbox hg) | ((with_reducible refine gate_dst (N := 3) rfl ?_); (try (refine gate_guard (by rfl) ?_; dsimp only)); refine box_event ?hg (N := 3) ?hd (cs := #[.int .i64 a1_0, .slice A1_1 l1_1.length c1_1]) (t := 27) ?hr ?_; (case hd => rfl); (case hg => rfl); (case hr => first | (go_simp; done) | (go_simp; rfl)); intro gb412 hg w5 hbox hb; have n0_ := bb_ BK411 hb; have n1_ := Aside0.mk (below_step hb_ hb); have n2_ := Aside0.mk (hbox); have n3_ : Aside0 (w.heap.size ≤ gb412) := gz_; have n4_ : Aside0 (w.heap.size ≤ gb412) := gz_; have n5_ := Aside0.mk ((by rw [hg]; exact Nat.ne_of_lt (blk_lt (g := gb411) (o := .cells #[.int .i64 a0_0, .slice A0_1 l0_1.length c0_1] 27 (0, 0)) (bk_ BK411.out)) : gb411 ≠ gb412)); have n6_ := Aside0.mk ((by rw [hg]; exact Nat.ne_of_gt (blk_lt (g := gb411) (o := .cells #[.int .i64 a0_0, .slice A0_1 l0_1.length c0_1] 27 (0, 0)) (bk_ BK411.out)) : gb412 ≠ gb411)); clear BK411; clear HB; have BK411 := n0_; have HB := n1_; have BK412 := n2_; have GW412 := n3_; have GE412 := n4_; have NB411_412 := n5_; have NB412_411 := n6_; clear n0_ n1_ n2_ n3_ n4_ n5_ n6_; clear hb hbox hg)); go_upto_region 1 with (first | ((with_reducible refine gate_dst (N := 2) rfl ?_); (try (refine gate_guard (by rfl) ?_; dsimp only)); refine box_event ?hg (N := 2) ?hd (cs := #[.int .i64 a0_0, .slice A0_1 l0_1.length c0_1]) (t := 27) ?hr ?_; (case hd => rfl); (case hg => rfl); (case hr => first | (go_simp; done) | (go_simp; rfl)); intro gb411 hg w4 hbox hb; have n0_ := Aside0.mk (below_step hb_ hb); have n1_ := Aside0.mk (hbox); have n2_ : Aside0 (w.heap.size ≤ gb411) := gz_; have n3_ : Aside0 (w.heap.size ≤ gb411) := gz_; clear HB; have HB := n0_; have BK411 := n1_; have GW411 := n2_; have GE411 := n3_; clear n0_ n1_ n2_ n3_; clear hb hbox hg) | ((with_reducible refine gate_dst (N := 3) rfl ?_); (try (refine gate_guard (by rfl) ?_; dsimp only)); refine box_event ?hg (N := 3) ?hd (cs := #[.int .i64 a1_0, .slice A1_1 l1_1.length c1_1]) (t := 27) ?hr ?_; (case hd => rfl); (case hg => rfl); (case hr => first | (go_simp; done) | (go_simp; rfl)); intro gb412 hg w5 hbox hb; have n0_ := bb_ BK411 hb; have n1_ := Aside0.mk (below_step hb_ hb); have n2_ := Aside0.mk (hbox); have n3_ : Aside0 (w.heap.size ≤ gb412) := gz_; have n4_ : Aside0 (w.heap.size ≤ gb412) := gz_; have n5_ := Aside0.mk ((by rw [hg]; exact Nat.ne_of_lt (blk_lt (g := gb411) (o := .cells #[.int .i64 a0_0, .slice A0_1 l0_1.length c0_1] 27 (0, 0)) (bk_ BK411.out)) : gb411 ≠ gb412)); have n6_ := Aside0.mk ((by rw [hg]; exact Nat.ne_of_gt (blk_lt (g := gb411) (o := .cells #[.int .i64 a0_0, .slice A0_1 l0_1.length c0_1] 27 (0, 0)) (bk_ BK411.out)) : gb412 ≠ gb411)); clear BK411; clear HB; have BK411 := n0_; have HB := n1_; have BK412 := n2_; have GW412 := n3_; have GE412 := n4_; have NB411_412 := n5_; have NB412_411 := n6_; clear n0_ n1_ n2_ n3_ n4_ n5_ n6_; clear hb hbox hg)))
  (try simp only [Act.put, List.setIfInBounds_toArray, List.set_cons_zero, List.set_cons_succ])
  go_cut [19] (fun v19 wc => ∃ (kq : Nat) (x19_2 : Bool), v19 = .bool x19_2 ∧ Aside0 (spec_SameFrame.j0 kq x19_2 a0_0 l0_1 a1_0 l1_1 = some r) ∧ Aside0 (kq ≤ k) ∧ Aside0 (wc.heap[gb411]? = some (.cells #[.int .i64 a0_0, (.slice A0_1 l0_1.length c0_1)] 27 (0, 0))) ∧ Aside0 (wc.heap[gb412]? = some (.cells #[.int .i64 a1_0, (.slice A1_1 l1_1.length c1_1)] 27 (0, 0))) ∧ Aside0 (Below w.heap.size w wc))
  case first =>
   have H := HC3.out
   clear HC3
   by_cases c6 : a0_0 = a1_0
   ·rw [if_pos c6] at H
    have c6b0 : (a0_0 == a1_0) = true := beq_iff_eq.mpr c6
    have c6b1 : (a0_0 != a1_0) = false := bne_eq_false_iff_eq.mpr c6
    clear c6
    (first | rw [c6b0] | (simp only [i64_w, i32_w]; rw [c6b0]) | skip)
    have H' := Aside0.mk H
    clear H
    have hnb7 := NB411_412.out
    have hnc7 := NB412_411.out
    have hcz8_0 : w5.cell? ⟨gb411, 0, none⟩ = some (.int .i64 a0_0) := (blk_cell BK411.out 0).trans rfl
    have hcz8_1 : w5.cell? ⟨gb411, 1, none⟩ = some (.slice A0_1 l0_1.length c0_1) := (blk_cell BK411.out 1).trans rfl
    have hfz8_0 := blk_frozen BK411.out 0
    have hfz8_1 := blk_frozen BK411.out 1
    have hcz9_0 : w5.cell? ⟨gb412, 0, none⟩ = some (.int .i64 a1_0) := (blk_cell BK412.out 0).trans rfl
    have hcz9_1 : w5.cell? ⟨gb412, 1, none⟩ = some (.slice A1_1 l1_1.length c1_1) := (blk_cell BK412.out 1).trans rfl
    have hfz9_0 := blk_frozen BK412.out 0
    have hfz9_1 := blk_frozen BK412.out 1
    go_wp2
    repeat (go_quiet (fail); try go_wp2)
    go_meet
    case rel => exact ⟨_, (((l0_1.length : Int) != (l1_1.length : Int))), es_, H', ⟨by first | omega | exact Nat.le_refl _⟩, ⟨bk_ BK411.out⟩, ⟨bk_ BK412.out⟩, ⟨hb_⟩⟩
   ·rw [if_neg c6] at H
    have c6b0 : (a0_0 == a1_0) = false := beq_eq_false_iff_ne.mpr c6
    have c6b1 : (a0_0 != a1_0) = true := bne_iff_ne.mpr c6
    (first | rw [c6b0] | (simp only [i64_w, i32_w]; rw [c6b0]) | skip)
    have H' := Aside0.mk H
    clear H
    have hnb10 := NB411_412.out
    have hnc10 := NB412_411.out
    have hcz11_0 : w5.cell? ⟨gb411, 0, none⟩ = some (.int .i64 a0_0) := (blk_cell BK411.out 0).trans rfl
    have hcz11_1 : w5.cell? ⟨gb411, 1, none⟩ = some (.slice A0_1 l0_1.length c0_1) := (blk_cell BK411.out 1).trans rfl
    have hfz11_0 := blk_frozen BK411.out 0
    have hfz11_1 := blk_frozen BK411.out 1
    have hcz12_0 : w5.cell? ⟨gb412, 0, none⟩ = some (.int .i64 a1_0) := (blk_cell BK412.out 0).trans rfl
    have hcz12_1 : w5.cell? ⟨gb412, 1, none⟩ = some (.slice A1_1 l1_1.length c1_1) := (blk_cell BK412.out 1).trans rfl
    have hfz12_0 := blk_frozen BK412.out 0
    have hfz12_1 := blk_frozen BK412.out 1
    go_wp2
    repeat (go_quiet (fail); try go_wp2)
    go_meet
    case rel => exact ⟨_, (true), es_, H', ⟨by first | omega | exact Nat.le_refl _⟩, ⟨bk_ BK411.out⟩, ⟨bk_ BK412.out⟩, ⟨hb_⟩⟩
  case rest =>
   clear HC3
   try clear c1
   try clear p2
   try clear c4
   try clear c6
   try clear c6b0
   try clear c6b1
   try clear c7
   try clear c10
   try clear hcz11_0
   try clear hcz11_1
   try clear hcz12_0
   try clear hcz12_1
   try clear hcz8_0
   try clear hcz8_1
   try clear hcz9_0
   try clear hcz9_1
   try clear hfz11_0
   try clear hfz11_1
   try clear hfz12_0
   try clear hfz12_1
   try clear hfz8_0
   try clear hfz8_1
   try clear hfz9_0
   try clear hfz9_1
   obtain ⟨kq, x19_2, rfl, HA, HJ2, BK411, BK412, HB⟩ := hcut
   cases kq with
   | zero => exact absurd HA.out (by simp [spec_SameFrame.j0])
   | succ kj2 =>
    have H := HA.out
    clear HA
    simp only [spec_SameFrame.j0] at H
    by_cases c13 : x19_2 = true
    ·subst c13
     rw [if_pos rfl] at H
     obtain rfl := Option.some.inj H
     go_wp2
     repeat (go_quiet (fail); try go_wp2)
     go_ret
     exact ⟨er_, hb_⟩
    ·replace c13 := Bool.eq_false_iff.mpr c13
     subst c13
     rw [if_neg (show ¬ (false = true) by decide)] at H
     have H' := Aside0.mk H
     clear H
     have hnb14 := NB411_412.out
     have hnc14 := NB412_411.out
     have hcz15_0 : wc.cell? ⟨gb411, 0, none⟩ = some (.int .i64 a0_0) := (blk_cell BK411.out 0).trans rfl
     have hcz15_1 : wc.cell? ⟨gb411, 1, none⟩ = some (.slice A0_1 l0_1.length c0_1) := (blk_cell BK411.out 1).trans rfl
     have hfz15_0 := blk_frozen BK411.out 0
     have hfz15_1 := blk_frozen BK411.out 1
     go_wp2
     repeat (go_quiet (fail); try go_wp2)
     go_loopg [23] kj2 (fun kq v23 w' => ∃ (x23_2 : Int), v23 = .int .i64 x23_2 ∧ Aside0 (spec_SameFrame.l0 kq (l0_1.length : Int) x23_2 a0_0 l0_1 a1_0 l1_1 = some r) ∧ Aside0 (kq ≤ kj2) ∧ Aside0 (w'.heap[gb411]? = some (.cells #[.int .i64 a0_0, (.slice A0_1 l0_1.length c0_1)] 27 (0, 0))) ∧ Aside0 (w'.heap[gb412]? = some (.cells #[.int .i64 a1_0, (.slice A1_1 l1_1.length c1_1)] 27 (0, 0))) ∧ Aside0 (Below w.heap.size w w'))
     case atStart => exact ⟨(0), es_, H', ⟨Nat.le_refl _⟩, ⟨bk_ BK411.out⟩, ⟨bk_ BK412.out⟩, ⟨hb_⟩⟩
     case round =>
      clear H'
      try clear c1
      try clear p2
      try clear c4
      try clear c6
      try clear c6b0
      try clear c6b1
      try clear c7
      try clear c10
      try clear c13
      try clear c14
      try clear hcz11_0
      try clear hcz11_1
      try clear hcz12_0
      try clear hcz12_1
      try clear hcz15_0
      try clear hcz15_1
      try clear hcz8_0
      try clear hcz8_1
      try clear hcz9_0
      try clear hcz9_1
      try clear hfz11_0
      try clear hfz11_1
      try clear hfz12_0
      try clear hfz12_1
      try clear hfz15_0
      try clear hfz15_1
      try clear hfz8_0
      try clear hfz8_1
      try clear hfz9_0
      try clear hfz9_1
      try clear p2
      obtain ⟨x23_2, rfl, HA, HK2, BK411, BK412, HB⟩ := hrel
      cases gk with
      | zero => exact absurd HA.out (by simp [spec_SameFrame.l0])
      | succ k2 =>
       have H := HA.out
       clear HA
       simp only [spec_SameFrame.l0] at H
       by_cases c16 : x23_2 < (l0_1.length : Int)
       ·rw [if_pos c16] at H
        have c16b0 : decide (x23_2 < (l0_1.length : Int)) = true := decide_eq_true c16
        clear c16
        by_cases c17 : 0 ≤ x23_2
        ·rw [if_pos c17] at H
         have c17b0 : decide (0 ≤ x23_2) = true := decide_eq_true c17
         clear c17
         by_cases c18 : x23_2 < (l0_1.length : Int)
         ·rw [if_pos c18] at H
          have c18b0 : decide (x23_2 < (l0_1.length : Int)) = true := decide_eq_true c18
          clear c18
          by_cases c19 : x23_2 < (l1_1.length : Int)
          ·rw [if_pos c19] at H
           have c19b0 : decide (x23_2 < (l1_1.length : Int)) = true := decide_eq_true c19
           clear c19
           by_cases c20 : (rd l0_1 x23_2) = (rd l1_1 x23_2)
           ·rw [if_pos c20] at H
            have c20b0 : ((rd l0_1 x23_2) == (rd l1_1 x23_2)) = true := beq_iff_eq.mpr c20
            have c20b1 : ((rd l0_1 x23_2) != (rd l1_1 x23_2)) = false := bne_eq_false_iff_eq.mpr c20
            clear c20
            have H' := Aside0.mk H
            clear H
            have hnb21 := NB411_412.out
            have hnc21 := NB412_411.out
            have hcz22_0 : wr.cell? ⟨gb411, 0, none⟩ = some (.int .i64 a0_0) := (blk_cell BK411.out 0).trans rfl
            have hcz22_1 : wr.cell? ⟨gb411, 1, none⟩ = some (.slice A0_1 l0_1.length c0_1) := (blk_cell BK411.out 1).trans rfl
            have hfz22_0 := blk_frozen BK411.out 0
            have hfz22_1 := blk_frozen BK411.out 1
            have p413 : 0 ≤ (x23_2 : Int) := of_decide_eq_true as_
            have q413 : x23_2 < (l0_1.length : Int) := of_decide_eq_true as_
            obtain ⟨ad413, e413, hx413_0⟩ := Kd.at_int HR0_1.out x23_2 p413 q413
            cases e413
            replace hx413_0 := hc_ HB hx413_0
            replace p413 := eq_true p413
            replace q413 := eq_true q413
            have hcz23_0 : wr.cell? ⟨gb412, 0, none⟩ = some (.int .i64 a1_0) := (blk_cell BK412.out 0).trans rfl
            have hcz23_1 : wr.cell? ⟨gb412, 1, none⟩ = some (.slice A1_1 l1_1.length c1_1) := (blk_cell BK412.out 1).trans rfl
            have hfz23_0 := blk_frozen BK412.out 0
            have hfz23_1 := blk_frozen BK412.out 1
            have p414 : 0 ≤ (x23_2 : Int) := of_decide_eq_true as_
            have q414 : x23_2 < (l1_1.length : Int) := of_decide_eq_true as_
            obtain ⟨ad414, e414, hx414_0⟩ := Kd.at_int HR1_1.out x23_2 p414 q414
            cases e414
            replace hx414_0 := hc_ HB hx414_0
            replace p414 := eq_true p414
            replace q414 := eq_true q414
            go_wp2
            repeat (go_quiet (fail); try go_wp2)
            go_roundg k2
            case measure => have := HJ2.out; have := HK2.out; omega
            case rel => exact ⟨(wrap64 (x23_2 + 1)), es_, H', ⟨by have := HJ2.out; have := HK2.out; omega⟩, ⟨bk_ BK411.out⟩, ⟨bk_ BK412.out⟩, ⟨hb_⟩⟩
           ·rw [if_neg c20] at H
            have c20b0 : ((rd l0_1 x23_2) == (rd l1_1 x23_2)) = false := beq_eq_false_iff_ne.mpr c20
            have c20b1 : ((rd l0_1 x23_2) != (rd l1_1 x23_2)) = true := bne_iff_ne.mpr c20
            obtain rfl := Option.some.inj H
            have hnb24 := NB411_412.out
            have hnc24 := NB412_411.out
            have hcz25_0 : wr.cell? ⟨gb411, 0, none⟩ = some (.int .i64 a0_0) := (blk_cell BK411.out 0).trans rfl
            have hcz25_1 : wr.cell? ⟨gb411, 1, none⟩ = some (.slice A0_1 l0_1.length c0_1) := (blk_cell BK411.out 1).trans rfl
            have hfz25_0 := blk_frozen BK411.out 0
            have hfz25_1 := blk_frozen BK411.out 1
            have p413 : 0 ≤ (x23_2 : Int) := of_decide_eq_true as_
            have q413 : x23_2 < (l0_1.length : Int) := of_decide_eq_true as_
            obtain ⟨ad413, e413, hx413_0⟩ := Kd.at_int HR0_1.out x23_2 p413 q413
            cases e413
            replace hx413_0 := hc_ HB hx413_0
            replace p413 := eq_true p413
            replace q413 := eq_true q413
            have hcz26_0 : wr.cell? ⟨gb412, 0, none⟩ = some (.int .i64 a1_0) := (blk_cell BK412.out 0).trans rfl
            have hcz26_1 : wr.cell? ⟨gb412, 1, none⟩ = some (.slice A1_1 l1_1.length c1_1) := (blk_cell BK412.out 1).trans rfl
            have hfz26_0 := blk_frozen BK412.out 0
            have hfz26_1 := blk_frozen BK412.out 1
            have p414 : 0 ≤ (x23_2 : Int) := of_decide_eq_true as_
            have q414 : x23_2 < (l1_1.length : Int) := of_decide_eq_true as_
            obtain ⟨ad414, e414, hx414_0⟩ := Kd.at_int HR1_1.out x23_2 p414 q414
            cases e414
            replace hx414_0 := hc_ HB hx414_0
            replace p414 := eq_true p414
            replace q414 := eq_true q414
            go_wp2
            repeat (go_quiet (fail); try go_wp2)
            go_ret
            exact ⟨er_, hb_⟩
          ·rw [if_neg c19] at H
           exact absurd H (by simp)
         ·rw [if_neg c18] at H
          exact absurd H (by simp)
        ·rw [if_neg c17] at H
         exact absurd H (by simp)
       ·rw [if_neg c16] at H
        have c16b0 : decide (x23_2 < (l0_1.length : Int)) = false := decide_eq_false c16
        clear c16
        obtain rfl := Option.some.inj H
        go_wp2
        repeat (go_quiet (fail); try go_wp2)
        go_ret
        exact ⟨er_, hb_⟩

end Go.Proofs.Ytbdonoeellmeoaa.Pr
