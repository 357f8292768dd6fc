/- impl.oddRune and impl.goodName by hand: the walks, over the library's own functions by their contracts. -/
import Derived.Test.YtdihodboopeakaaDoorPr0
import Derived.Test.YtdihodboopeakaaDoorOdd
import Derived.Test.YtdihodboopeakaaDoorSla
import Derived.Lib.TrimUEq
import Derived.Lib.DecodeN
import Derived.Outline
namespace Go.Proofs.YtdihodboopeakaaDoor.Pr
open Go.RowKit Go.Proofs.YtdihodboopeakaaDoorW.PrintWords Go.Proofs.YtdihodboopeakaaDoorW.PrintLast Go.Proofs.YtdihodboopeakaaDoorW.PrintMore
set_option linter.unusedVariables false
set_option linter.unusedSimpArgs false
/-- Go's two tables of UTF-8 lie as its text lays them. -/
def Tabs (w : World) : Prop := Lib.Utf8Tabs 0 1 w
theorem Tabs.below {w W : World} (h : Tabs w) (hb : Below w.heap.size w W) : Tabs W :=
  ⟨fun c hc => (hb.cell (World.block_lt_of_cell? w _ (h.1 c hc))).trans (h.1 c hc), fun i hi => ⟨(hb.cell (World.block_lt_of_cell? w _ (h.2 i hi).1)).trans (h.2 i hi).1, (hb.cell (World.block_lt_of_cell? w _ (h.2 i hi).2)).trans (h.2 i hi).2⟩⟩
theorem tb_ {w W : World} (h : Aside0 (Tabs w)) (hb : Below w.heap.size w W := by repeat (first | (with_reducible first | exact HB.out | exact Below.refl _ _ | apply below_alloc | apply pw_below_drewN | apply below_drew1 | refine below_set ?_ (Aside0.out (by assumption))) | exact HB.out)) : Tabs W := h.out.below hb
theorem decode_go (s : ByteArray) (i : Nat) (h : i < s.size) : Lib.decodeGo (s.extract i s.size) = Utf8.decode s i := by
  have e : (s.extract i s.size).data.toList = s.data.toList.drop i := by
    have := Lib.extract_toList s i s.size
    rw [Lib.toList_data] at this
    rw [this, List.take_of_length_le (by rw [List.length_drop, ← Lib.size_eq]; omega)]
  unfold Lib.decodeGo
  rw [if_neg (by rw [ByteArray.size_extract]; omega)]
  have h2 := Lib.decodeL_drop s i
  rw [← e] at h2
  rw [← h2]
  unfold Lib.decodeL
  rfl
theorem decode_w (s : ByteArray) (i : Nat) : 1 ≤ (Utf8.decode s i).2 ∧ (Utf8.decode s i).2 ≤ 4 := by
  rw [Lib.decode_at]
  generalize (s.get! i).toNat = b0
  generalize (s.get! (i + 1)).toNat = b1
  generalize (s.get! (i + 2)).toNat = b2
  generalize (s.get! (i + 3)).toNat = b3
  unfold Lib.decodeN
  repeat' split
  all_goals simp
theorem oddFrom_more (s : ByteArray) : ∀ (f g pos : Nat), s.size - pos ≤ f → s.size - pos ≤ g → oddFrom s f pos = oddFrom s g pos := by
  intro f
  induction f with
  | zero =>
    intro g pos hf _
    cases g with
    | zero => rfl
    | succ g => simp only [oddFrom]; rw [if_neg (by omega)]
  | succ f ih =>
    intro g pos hf hg
    cases g with
    | zero => simp only [oddFrom]; rw [if_neg (by omega)]
    | succ g =>
      simp only [oddFrom]
      by_cases h : pos < s.size
      · rw [if_pos h, if_pos h]
        have := decode_w s pos
        rw [ih g _ (by omega) (by omega)]
      · rw [if_neg h, if_neg h]
theorem odd_step (s : ByteArray) (i : Nat) (hi : i < s.size) (r : Int) (h : oddFrom s (s.size - i) i = r) :
    (badRune (Utf8.decode s i) = true → r = i) ∧ (badRune (Utf8.decode s i) = false → oddFrom s (s.size - (i + (Utf8.decode s i).2)) (i + (Utf8.decode s i).2) = r) := by
  have hw := decode_w s i
  have e : oddFrom s (s.size - i) i = oddFrom s ((s.size - (i + 1)) + 1) i := oddFrom_more s _ _ _ (Nat.le_refl _) (by omega)
  rw [e] at h
  simp only [oddFrom] at h
  rw [if_pos hi] at h
  constructor
  · intro hb; rw [if_pos hb] at h; exact h.symm
  · intro hb
    rw [if_neg (by rw [hb]; decide)] at h
    rw [← h]
    exact oddFrom_more s _ _ _ (by omega) (by omega)
set_option maxHeartbeats 2000000 in
set_option maxRecDepth 100000 in
theorem odd_walk (s : ByteArray) (w : World) (hs : s.size ≤ 140737488355328) (ht : Tabs w) :
    Calls Tryd.prog 70 #[.string s] w fun e w' => e = .returned (.int .i64 (oddOf s)) ∧ Below w.heap.size w w' := by
  have HS := Aside0.mk hs
  have HT := Aside0.mk ht
  clear ht
  obtain ⟨r, hr⟩ : ∃ r, oddOf s = r := ⟨_, rfl⟩
  rw [hr]
  have HR := Aside0.mk hr
  clear hr
  go_enter Tryd.func70, Tryd.ntmps70
  go_wp2_with fail
  go_loopg [3] s.size (fun g v3 w' => ∃ i : Nat, v3 = .int .i64 i ∧ Aside0 (i + g = s.size ∨ (s.size ≤ i ∧ g = 0)) ∧ Aside0 (i ≤ s.size + 4) ∧ Aside0 (oddFrom s (s.size - i) i = r) ∧ Aside0 (Below w.heap.size w w'))
  case atStart => exact ⟨0, rfl, ⟨.inl (Nat.zero_add _)⟩, ⟨Nat.zero_le _⟩, HR, ⟨Below.refl _ _⟩⟩
  case round =>
   obtain ⟨i, rfl, HG, HI, HO, HB⟩ := hrel
   by_cases c1 : i < s.size
   ·have hcon := Tryd.utf8_DecodeRuneInString (s.extract i s.size) wr (HT.out.below HB.out)
    rw [decode_go s i c1] at hcon
    have hst := odd_step s i c1 r HO.out
    have hdw := decode_w s i
    generalize Utf8.decode s i = d at hcon hst hdw
    obtain ⟨c, n⟩ := d
    have ST := Aside0.mk hst
    have HC := Aside0.mk hcon
    clear hst hcon
    obtain ⟨hd1, hd2⟩ := hdw
    go_wp2_with (go_at_call 93; refine HC.out.mono ?_; rintro e w1 ⟨rfl, hb⟩)
    all_goals (
     try simp only [Bool.not_eq_true', Bool.not_eq_false', decide_eq_false_iff_not, decide_eq_true_eq, beq_eq_false_iff_ne, ne_eq, Bool.and_eq_true] at *
     first
      | (have hbad : badRune (c, n) = true := decide_eq_true (by omega)
         have e1 := ST.out.1 hbad
         go_ret
         exact ⟨by rw [e1]; rfl, below_step HB.out hb⟩)
      | (have hgood : badRune (c, n) = false := decide_eq_false (by omega)
         have e1 := ST.out.2 hgood
         go_roundg (gk - n)
         case measure => have := HG.out; omega
         case rel => exact ⟨i + n, by rw [Int.natCast_add], ⟨by have := HG.out; omega⟩, ⟨by omega⟩, ⟨e1⟩, ⟨below_step HB.out hb⟩⟩))
   ·have c1b : decide (i < s.size) = false := decide_eq_false c1
    go_wp2_with fail
    go_ret
    have e : oddFrom s (s.size - i) i = -1 := by rw [show s.size - i = 0 by omega]; rfl
    exact ⟨by rw [← HO.out, e]; rfl, HB.out⟩
theorem impl_oddRune.calls (s : ByteArray) (r : Int) (w : World) (h : impl_oddRune.f s = some r) (ht : Tabs w := by exact tb_ HT_) :
    Calls Tryd.prog 70 #[.string s] w fun e w' => e = .returned (.int .i64 r) ∧ Below w.heap.size w w' := by
  unfold impl_oddRune.f at h
  by_cases hs : s.size ≤ 140737488355328
  · rw [if_pos hs] at h
    injection h with h
    subst h
    exact odd_walk s w hs ht
  · rw [if_neg hs] at h
    cases h
set_option maxHeartbeats 2000000 in
set_option maxRecDepth 100000 in
theorem impl_goodName.calls (s : ByteArray) (r : Bool) (w : World) (h : impl_goodName.f s = some r) (ht : Tabs w := by exact tb_ HT_) :
    Calls Tryd.prog 65 #[.string s] w fun e w' => e = .returned (.bool r) ∧ Below w.heap.size w w' := by
  unfold impl_goodName.f at h
  by_cases hs : s.size ≤ 140737488355328
  case neg => rw [if_neg hs] at h; cases h
  case pos =>
  rw [if_pos hs] at h
  injection h with h
  have hcn := Tryd.utf8_RuneCountInString s w (by omega)
  have hq : Lib.runeCount s ≤ s.size := Lib.runeCount_le s
  obtain ⟨q, hqq⟩ : ∃ q, Lib.runeCount s = q := ⟨_, rfl⟩
  obtain ⟨o, hoo⟩ : ∃ o, oddOf s = o := ⟨_, rfl⟩
  rw [hqq] at hcn hq h
  have HO : Aside0 (impl_oddRune.f s = some o) := ⟨by unfold impl_oddRune.f; rw [if_pos hs, hoo]⟩
  rw [hoo] at h
  have HR := Aside0.mk h
  have HT := Aside0.mk ht
  have HC := Aside0.mk hcn
  have HQ : q < 9223372036854775807 := by omega
  clear h ht hcn hqq hoo hq
  have b1 (pos : Nat) : Below w.heap.size w (w.iter s pos) := below_alloc (Below.refl _ _) _
  have B1 := Aside0.mk b1
  clear b1
  by_cases c1 : 1 ≤ q
  · have c1b : decide ((1 : Int) ≤ (q : Int)) = true := decide_eq_true (by omega)
    have c1c : decide (1 ≤ q) = true := decide_eq_true (by omega)
    by_cases c2 : q ≤ 12
    · have c2b : decide ((q : Int) ≤ 12) = true := decide_eq_true (by omega)
      have c2c : decide (q ≤ 12) = true := decide_eq_true (by omega)
      have hr : Aside0 (r = decide (o < 0)) := ⟨by rw [← HR.out]; exact decide_eq_decide.2 ⟨fun h => h.2.2, fun h => ⟨c1, c2, h⟩⟩⟩
      clear c1 c2 hs
      go_enter Tryd.func65, Tryd.ntmps65
      go_wp2_with (first | (go_at_call 72; refine HC.out.mono ?_; rintro e w' ⟨rfl, pos, rfl⟩) | (go_at_call 70; refine (impl_oddRune.calls _ _ _ HO.out (HT.out.below (B1.out _))).mono ?_; rintro e w1 ⟨rfl, hb⟩))
      all_goals (
       go_ret
       exact ⟨by rw [hr.out]; rfl, below_step (B1.out _) hb⟩)
    · have c2b : decide ((q : Int) ≤ 12) = false := decide_eq_false (by omega)
      have c2c : decide (q ≤ 12) = false := decide_eq_false (by omega)
      have hr : Aside0 (r = false) := ⟨by rw [← HR.out]; exact decide_eq_false (fun h => c2 h.2.1)⟩
      clear c1 c2 hs
      go_enter Tryd.func65, Tryd.ntmps65
      go_wp2_with (first | (go_at_call 72; refine HC.out.mono ?_; rintro e w' ⟨rfl, pos, rfl⟩))
      go_ret
      exact ⟨by rw [hr.out]; rfl, B1.out _⟩
  · have c1b : decide ((1 : Int) ≤ (q : Int)) = false := decide_eq_false (by omega)
    have c1c : decide (1 ≤ q) = false := decide_eq_false (by omega)
    have hr : Aside0 (r = false) := ⟨by rw [← HR.out]; exact decide_eq_false (fun h => c1 h.1)⟩
    clear c1 hs
    go_enter Tryd.func65, Tryd.ntmps65
    go_wp2_with (first | (go_at_call 72; refine HC.out.mono ?_; rintro e w' ⟨rfl, pos, rfl⟩))
    go_ret
    exact ⟨by rw [hr.out]; rfl, B1.out _⟩
end Go.Proofs.YtdihodboopeakaaDoor.Pr
