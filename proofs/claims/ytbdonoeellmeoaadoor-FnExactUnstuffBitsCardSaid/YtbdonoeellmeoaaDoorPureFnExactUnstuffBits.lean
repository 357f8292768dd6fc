/- THE LAW FnExactUnstuffBits, as a statement over numbers and lists: for every text what is taken out agrees. No condition. -/
import Derived.Test.YtbdonoeellmeoaaDoorPrd3
import Derived.Test.YtbdonoeellmeoaaDoorPureBit
import Derived.Lib.Strings
namespace Go.Proofs.YtbdonoeellmeoaaDoor.Pure
open Go.RowKit Go.Proofs.YtbdonoeellmeoaaDoorW.PrintWords Go.Proofs.YtbdonoeellmeoaaDoorW.PrintLast Go.Proofs.YtbdonoeellmeoaaDoor.Pr Go.Proofs.YtbdonoeellmeoaaDoor.EvKit

theorem sON_bytes (s : ByteArray) : strOfNums (bytesOf s) = s := by
  apply ByteArray.ext
  simp only [strOfNums, bytesOf, List.map_map]
  apply Array.ext'
  simp only
  conv => rhs; rw [← List.map_id s.data.toList]
  apply List.map_congr_left
  intro b _
  simp
theorem toList_inj {s t : ByteArray} (h : s.toList = t.toList) : s = t := by
  rw [Lib.toList_data, Lib.toList_data] at h
  exact ByteArray.ext (Array.toList_inj.1 h)
theorem uns_mem (l : List Int) : ∀ last run : Int, ∀ x ∈ uns last run l, x ∈ l := by
  induction l with
  | nil => intro _ _ x hx; simp [uns] at hx
  | cons c cs ih =>
    intro last run x hx
    unfold uns at hx
    by_cases h : run = 5
    · rw [if_pos h] at hx
      exact List.mem_cons_of_mem _ (ih _ _ x hx)
    · rw [if_neg h] at hx
      rcases List.mem_cons.1 hx with rfl | hx
      · exact List.mem_cons_self
      · exact List.mem_cons_of_mem _ (ih _ _ x hx)
theorem uns_length (l : List Int) : ∀ last run : Int, (uns last run l).length ≤ l.length := by
  induction l with
  | nil => intro _ _; simp [uns]
  | cons c cs ih =>
    intro last run
    unfold uns
    by_cases h : run = 5
    · rw [if_pos h]; have := ih c 1; simp; omega
    · rw [if_neg h]; have := ih c (if c = last then run + 1 else 1); simp only [List.length_cons]; omega
/-- The answer of the program at the end. -/
def fin (s : ByteArray) (b : List Int) : ByteArray × Bool := if strOfNums (stf 0 0 (bytesOf (strOfNums b))) = s then (strOfNums b, true) else (⟨#[]⟩, false)
theorem implU_l0 (s : ByteArray) (hs : s.size ≤ 300) (d : Nat) : ∀ (i : Nat) (x : List Int) (run last : Int), i + d = s.size → x.length ≤ i → 0 ≤ run → run ≤ 5 →
    Ev (fun k => impl_UnstuffBits.l0 k s x run last i) (fin s (x ++ uns last run ((bytesOf s).drop i))) := by
  induction d with
  | zero =>
    intro i x run last hi hx _ _
    apply Ev.succ
    rw [List.drop_of_length_le (by rw [bytesOf_length]; omega)]
    simp only [impl_UnstuffBits.l0, show ¬ ((i : Int) < (s.size : Int)) by omega, if_false, uns, List.append_nil]
    have e : impl_stuff.f (strOfNums x) = some (strOfNums (stf 0 0 (bytesOf (strOfNums x)))) := by unfold impl_stuff.f; rw [if_pos (by rw [strOfNums_size]; omega)]
    refine Ev.bnd0 e ?_
    unfold fin
    by_cases c : strOfNums (stf 0 0 (bytesOf (strOfNums x))) = s
    · rw [if_pos c]
      exact Ev.pos (by rw [c]) (Ev.some rfl)
    · rw [if_neg c]
      exact Ev.neg (fun h => c (toList_inj h)) (Ev.some rfl)
  | succ d ih =>
    intro i x run last hi hx h0 h5
    apply Ev.succ
    rw [bt_drop s i (by omega)]
    have hw : wrap64 ((i : Int) + 1) = ((i + 1 : Nat) : Int) := by rw [wrap64_id (by omega) (by omega)]; omega
    have hl : x.length < 140737488355328 := by omega
    simp only [impl_UnstuffBits.l0, show ((i : Int) < (s.size : Int)) by omega, show (0 : Int) ≤ (i : Int) by omega, if_true, hw, hl]
    have hlen : (x ++ [bt s i]).length ≤ i + 1 := by simp; omega
    by_cases c5 : run = 5
    · simp only [c5, if_true, uns]
      exact ih (i + 1) x 1 _ (by omega) (by omega) (by omega) (by omega)
    · simp only [c5, if_false, uns]
      rw [show x ++ bt s i :: uns (bt s i) (if bt s i = last then run + 1 else 1) ((bytesOf s).drop (i + 1)) = (x ++ [bt s i]) ++ uns (bt s i) (if bt s i = last then run + 1 else 1) ((bytesOf s).drop (i + 1)) by simp]
      by_cases cp : run > 0
      · simp only [cp, if_true]
        by_cases cl : bt s i = last
        · simp only [cl, if_true]
          rw [wrap64_id (by omega) (by omega)]
          rw [cl] at hlen
          exact ih (i + 1) _ _ _ (by omega) hlen (by omega) (by omega)
        · simp only [cl, if_false]
          exact ih (i + 1) _ _ _ (by omega) hlen (by omega) (by omega)
      · simp only [cp, if_false]
        have e1 : (if bt s i = last then run + 1 else 1) = 1 := by split <;> omega
        rw [e1]
        exact ih (i + 1) _ _ _ (by omega) hlen (by omega) (by omega)
theorem specU_l0 (s : ByteArray) (hs : s.size ≤ 300) (d : Nat) : ∀ (i : Nat) (x : List Int) (run last : Int), i + d = s.size → x.length ≤ i → 0 ≤ run → run ≤ 5 →
    Ev (fun k => spec_UnstuffBits.l0 k s x run last i) (if unsOk last run ((bytesOf s).drop i) = true then (strOfNums (x ++ uns last run ((bytesOf s).drop i)), true) else (⟨#[]⟩, false)) := by
  induction d with
  | zero =>
    intro i x run last hi hx _ _
    apply Ev.succ
    rw [List.drop_of_length_le (by rw [bytesOf_length]; omega)]
    simp only [spec_UnstuffBits.l0, show ¬ ((i : Int) < (s.size : Int)) by omega, if_false, uns, unsOk, List.append_nil]
    by_cases c5 : run = 5
    · simp only [c5, if_true]
      exact Ev.some rfl
    · simp only [c5, if_false]
      exact Ev.some (by simp [c5])
  | succ d ih =>
    intro i x run last hi hx h0 h5
    apply Ev.succ
    rw [bt_drop s i (by omega)]
    have hw : wrap64 ((i : Int) + 1) = ((i + 1 : Nat) : Int) := by rw [wrap64_id (by omega) (by omega)]; omega
    have hl : x.length < 140737488355328 := by omega
    have hlen : (x ++ [bt s i]).length ≤ i + 1 := by simp; omega
    simp only [spec_UnstuffBits.l0, show ((i : Int) < (s.size : Int)) by omega, show (0 : Int) ≤ (i : Int) by omega, if_true, hw, hl]
    by_cases c5 : run = 5
    · subst c5
      simp only [if_true, uns, unsOk]
      by_cases cl : bt s i = last
      · simp only [cl, if_true]
        refine Ev.some ?_
        simp
      · simp only [cl, if_false]
        have := ih (i + 1) x 1 (bt s i) (by omega) (by omega) (by omega) (by omega)
        simpa [cl] using this
    · simp only [c5, if_false, uns, unsOk]
      rw [show x ++ bt s i :: uns (bt s i) (if bt s i = last then run + 1 else 1) ((bytesOf s).drop (i + 1)) = (x ++ [bt s i]) ++ uns (bt s i) (if bt s i = last then run + 1 else 1) ((bytesOf s).drop (i + 1)) by simp]
      by_cases cl : bt s i = last
      · simp only [cl, if_true]
        rw [wrap64_id (by omega) (by omega)]
        rw [cl] at hlen
        exact ih (i + 1) _ _ _ (by omega) hlen (by omega) (by omega)
      · simp only [cl, if_false]
        exact ih (i + 1) _ _ _ (by omega) hlen (by omega) (by omega)
theorem fin_eq (s : ByteArray) (h : all01 s = true) : fin s (uns 0 0 (bytesOf s)) = if unsOk 0 0 (bytesOf s) = true then (strOfNums (uns 0 0 (bytesOf s)), true) else (⟨#[]⟩, false) := by
  have hb := (all01_iff s).1 h
  have hr : ∀ c ∈ uns 0 0 (bytesOf s), 0 ≤ c ∧ c < 256 := fun c hc => by
    rcases hb c (uns_mem _ _ _ c hc) with rfl | rfl <;> decide
  have h1 := stf'_uns (bytesOf s) 0 0 hb (fun h => absurd h (by decide))
  have h2 : stf' 0 0 (uns 0 0 (bytesOf s)) = stf 0 0 (uns 0 0 (bytesOf s)) := by simp [stf']
  rw [h2] at h1
  unfold fin
  rw [bytesOf_sON _ hr]
  by_cases c : unsOk 0 0 (bytesOf s) = true
  · rw [if_pos c, if_pos (by rw [h1.2 c]; exact sON_bytes s)]
  · rw [if_neg c, if_neg (fun e => ?_)]
    apply c
    rw [← h1]
    have hst : ∀ c ∈ stf 0 0 (uns 0 0 (bytesOf s)), 0 ≤ c ∧ c < 256 := by
      have key : ∀ (l : List Int) (last run : Int), (∀ c ∈ l, 0 ≤ c ∧ c < 256) → ∀ c ∈ stf last run l, 0 ≤ c ∧ c < 256 := by
        intro l
        induction l with
        | nil => intro _ _ _ c hc; simp [stf] at hc
        | cons a l ih =>
          intro last run hl c hc
          have ha := hl a (by simp)
          have hl' : ∀ c ∈ l, 0 ≤ c ∧ c < 256 := fun x hx => hl x (by simp [hx])
          simp only [stf] at hc
          generalize (if a = last then run + 1 else 1) = r at hc
          by_cases h5 : r = 5
          · rw [if_pos h5] at hc
            rcases List.mem_cons.1 hc with rfl | hc
            · exact ha
            · rcases List.mem_cons.1 hc with rfl | hc
              · omega
              · exact ih _ _ hl' c hc
          · rw [if_neg h5] at hc
            rcases List.mem_cons.1 hc with rfl | hc
            · exact ha
            · exact ih _ _ hl' c hc
      exact key _ _ _ hr
    rw [← bytesOf_sON _ hst, e]
theorem FnExactUnstuffBits : ∀ (a0 : ByteArray), a0.size ≤ 140737488351232 → ∃ k, laws_FnExactUnstuffBits.f k a0 = some true := by
  intro s hs
  apply Ev.rounds
  simp only [laws_FnExactUnstuffBits.f]
  refine Ev.ite (fun _ => Ev.some rfl) (fun _ => ?_)
  unfold spec_UnstuffBits.f impl_UnstuffBits.f
  have hb := l23Bits_ev s
  rw [goodBits_eq]
  by_cases h : (decide (s.size ≤ 300) && all01 s) = true
  · rw [h] at hb ⊢
    have hl : s.size ≤ 300 := of_decide_eq_true (Bool.and_eq_true_iff.1 h).1
    have a := (Bool.and_eq_true_iff.1 h).2
    have e1 := implU_l0 s hl s.size 0 [] 0 0 (by omega) (by simp) (by omega) (by omega)
    have e2 := specU_l0 s hl s.size 0 [] 0 0 (by omega) (by simp) (by omega) (by omega)
    simp only [List.drop_zero, List.nil_append] at e1 e2
    rw [fin_eq s a] at e1
    exact Ev.bnd (Ev.bnd hb (Ev.pos rfl (Ev.pos (by omega) (Ev.pos (by omega) e2)))) (Ev.bnd (Ev.bnd0 rfl (Ev.pos rfl e1)) (Ev.pos rfl (Ev.neg (by simp) (Ev.some rfl))))
  · have h' := Bool.eq_false_iff.2 h
    rw [h'] at hb ⊢
    exact Ev.bnd (Ev.bnd hb (Ev.neg (by decide) (Ev.some rfl))) (Ev.bnd (Ev.bnd0 rfl (Ev.neg (by decide) (Ev.some rfl))) (Ev.pos rfl (Ev.neg (by simp) (Ev.some rfl))))

end Go.Proofs.YtbdonoeellmeoaaDoor.Pure
