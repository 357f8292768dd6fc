-- Joined and pruned by wip/tools/prune.py out of this session's own texts (PureName, PureText, PureBase, PureInts, PureIntSS, PureBoard, PureWish, PureRead, Pr14, Pr21)
import Derived.Test.YtdihodboopeakaaDoorZrw6
import Derived.Lib.DecodeN
import Derived.Lib.RuneCountTail
import Derived.Lib.Strings
/-
Own text: what a name is: the program's reading of runes (over the model's own decoding) and the reference's come to the same.
-/
namespace Go.Proofs.YtdihodboopeakaaDoor.Pure
open Go.RowKit Go.Proofs.YtdihodboopeakaaDoorW.PrintWords Go.Proofs.YtdihodboopeakaaDoorW.PrintLast Go.Proofs.YtdihodboopeakaaDoor.Pr Go.Proofs.YtdihodboopeakaaDoor.EvKit

def szOf (b : Nat) : Nat := if 194 ≤ b ∧ b ≤ 223 then 2 else if 224 ≤ b ∧ b ≤ 239 then 3 else if 240 ≤ b ∧ b ≤ 244 then 4 else 0
def loOf (b : Nat) : Nat := if b = 224 then 160 else if b = 240 then 144 else 128
def hiOf (b : Nat) : Nat := if b = 237 then 159 else if b = 244 then 143 else 191
abbrev contOk (n b1 b2 b3 sz lo hi : Nat) : Prop := (1 < n ∧ lo ≤ b1 ∧ b1 ≤ hi) ∧ (3 ≤ sz → 2 < n ∧ 128 ≤ b2 ∧ b2 ≤ 191) ∧ (4 ≤ sz → 3 < n ∧ 128 ≤ b3 ∧ b3 ≤ 191)
/-- How many bytes the rune has; 0: there is none. -/
def rw4 (n b0 b1 b2 b3 : Nat) : Nat := if b0 < 128 then 1 else if szOf b0 = 0 then 0 else if contOk n b1 b2 b3 (szOf b0) (loOf b0) (hiOf b0) then szOf b0 else 0
def wid (d : Nat × Nat) : Nat := if d.1 = 65533 ∧ d.2 = 1 then 0 else d.2
theorem slow_wid (n b0 b1 b2 b3 sz lo hi : Nat) (hs : 2 ≤ sz) (hs4 : sz ≤ 4) : wid (Lib.slowN n b0 b1 b2 b3 sz lo hi) = if contOk n b1 b2 b3 sz lo hi then sz else 0 := by
  have w0 : wid (65533, 1) = 0 := by decide
  have w2 (x y : Nat) (hy : 2 ≤ y) : wid (x, y) = y := by unfold wid; exact if_neg (fun h => by have := h.2; simp only at this; omega)
  unfold Lib.slowN contOk
  by_cases a : n < sz
  · rw [if_pos a, w0, if_neg (by omega)]
  rw [if_neg a]
  by_cases b : b1 < lo ∨ hi < b1
  · rw [if_pos b, w0, if_neg (by omega)]
  rw [if_neg b]
  by_cases c : sz ≤ 2
  · rw [if_pos c, w2 _ _ (by decide), if_pos (by omega)]
    omega
  rw [if_neg c]
  by_cases d : b2 < 128 ∨ 191 < b2
  · rw [if_pos d, w0, if_neg (by omega)]
  rw [if_neg d]
  by_cases e : sz ≤ 3
  · rw [if_pos e, w2 _ _ (by decide), if_pos (by omega)]
    omega
  rw [if_neg e]
  by_cases f : b3 < 128 ∨ 191 < b3
  · rw [if_pos f, w0, if_neg (by omega)]
  rw [if_neg f, w2 _ _ (by decide), if_pos (by omega)]
  omega
theorem rw4_eq (n b0 b1 b2 b3 : Nat) (hn : 1 ≤ n) (h0 : b0 < 256) (h1 : b1 < 256) (h2 : b2 < 256) (h3 : b3 < 256) : wid (Lib.decodeN n b0 b1 b2 b3) = rw4 n b0 b1 b2 b3 := by
  unfold rw4
  by_cases c1 : b0 < 128
  · rw [if_pos c1]
    have e : Lib.decodeN n b0 b1 b2 b3 = (b0, 1) := by unfold Lib.decodeN; rw [if_pos c1]
    rw [e]
    unfold wid
    rw [if_neg (by simp only; omega)]
  rw [if_neg c1]
  by_cases c2 : 194 ≤ b0 ∧ b0 < 224
  · have es : szOf b0 = 2 := by unfold szOf; rw [if_pos (by omega)]
    have el : loOf b0 = 128 := by unfold loOf; rw [if_neg (by omega), if_neg (by omega)]
    have eh : hiOf b0 = 191 := by unfold hiOf; rw [if_neg (by omega), if_neg (by omega)]
    rw [es, el, eh, if_neg (by decide), ← Lib.slow_C2 n b0 b1 b2 b3 hn h1 h2 h3 c2, slow_wid _ _ _ _ _ _ _ _ (by decide) (by decide)]
  by_cases c3 : b0 = 224
  · have es : szOf b0 = 3 := by unfold szOf; rw [if_neg (by omega), if_pos (by omega)]
    have el : loOf b0 = 160 := by unfold loOf; rw [if_pos c3]
    have eh : hiOf b0 = 191 := by unfold hiOf; rw [if_neg (by omega), if_neg (by omega)]
    rw [es, el, eh, if_neg (by decide), ← Lib.slow_E0 n b0 b1 b2 b3 hn h1 h2 h3 c3, slow_wid _ _ _ _ _ _ _ _ (by decide) (by decide)]
  by_cases c4 : (225 ≤ b0 ∧ b0 < 237) ∨ (238 ≤ b0 ∧ b0 < 240)
  · have es : szOf b0 = 3 := by unfold szOf; rw [if_neg (by omega), if_pos (by omega)]
    have el : loOf b0 = 128 := by unfold loOf; rw [if_neg (by omega), if_neg (by omega)]
    have eh : hiOf b0 = 191 := by unfold hiOf; rw [if_neg (by omega), if_neg (by omega)]
    rw [es, el, eh, if_neg (by decide), ← Lib.slow_E1 n b0 b1 b2 b3 hn h1 h2 h3 c4, slow_wid _ _ _ _ _ _ _ _ (by decide) (by decide)]
  by_cases c5 : b0 = 237
  · have es : szOf b0 = 3 := by unfold szOf; rw [if_neg (by omega), if_pos (by omega)]
    have el : loOf b0 = 128 := by unfold loOf; rw [if_neg (by omega), if_neg (by omega)]
    have eh : hiOf b0 = 159 := by unfold hiOf; rw [if_pos c5]
    rw [es, el, eh, if_neg (by decide), ← Lib.slow_ED n b0 b1 b2 b3 hn h1 h2 h3 c5, slow_wid _ _ _ _ _ _ _ _ (by decide) (by decide)]
  by_cases c6 : b0 = 240
  · have es : szOf b0 = 4 := by unfold szOf; rw [if_neg (by omega), if_neg (by omega), if_pos (by omega)]
    have el : loOf b0 = 144 := by unfold loOf; rw [if_neg (by omega), if_pos c6]
    have eh : hiOf b0 = 191 := by unfold hiOf; rw [if_neg (by omega), if_neg (by omega)]
    rw [es, el, eh, if_neg (by decide), ← Lib.slow_F0 n b0 b1 b2 b3 hn h1 h2 h3 c6, slow_wid _ _ _ _ _ _ _ _ (by decide) (by decide)]
  by_cases c7 : 241 ≤ b0 ∧ b0 < 244
  · have es : szOf b0 = 4 := by unfold szOf; rw [if_neg (by omega), if_neg (by omega), if_pos (by omega)]
    have el : loOf b0 = 128 := by unfold loOf; rw [if_neg (by omega), if_neg (by omega)]
    have eh : hiOf b0 = 191 := by unfold hiOf; rw [if_neg (by omega), if_neg (by omega)]
    rw [es, el, eh, if_neg (by decide), ← Lib.slow_F1 n b0 b1 b2 b3 hn h1 h2 h3 c7, slow_wid _ _ _ _ _ _ _ _ (by decide) (by decide)]
  by_cases c8 : b0 = 244
  · have es : szOf b0 = 4 := by unfold szOf; rw [if_neg (by omega), if_neg (by omega), if_pos (by omega)]
    have el : loOf b0 = 128 := by unfold loOf; rw [if_neg (by omega), if_neg (by omega)]
    have eh : hiOf b0 = 143 := by unfold hiOf; rw [if_neg (by omega), if_pos c8]
    rw [es, el, eh, if_neg (by decide), ← Lib.slow_F4 n b0 b1 b2 b3 hn h1 h2 h3 c8, slow_wid _ _ _ _ _ _ _ _ (by decide) (by decide)]
  · have es : szOf b0 = 0 := by unfold szOf; rw [if_neg (by omega), if_neg (by omega), if_neg (by omega)]
    rw [es, if_pos rfl]
    unfold Lib.decodeN wid
    repeat' split
    all_goals first | rfl | (exfalso; omega)
theorem bt_get (s : ByteArray) (i : Nat) (h : i < s.size) : bt s (i : Int) = ((s.get! i).toNat : Int) := by
  unfold bt
  rw [dif_pos (by simpa using h)]
  have : s.get! i = s[i]'h := by
    have h2 : i < s.data.size := h
    cases s with
    | mk a => simp [ByteArray.get!, getElem!_pos, h2]; rfl
  rw [this]
  rfl
def rwAt (s : ByteArray) (i : Nat) : Nat := rw4 (s.size - i) (s.get! i).toNat (s.get! (i + 1)).toNat (s.get! (i + 2)).toNat (s.get! (i + 3)).toNat
theorem rwAt_eq (s : ByteArray) (i : Nat) (h : i < s.size) : rwAt s i = wid (Utf8.decode s i) := by
  unfold rwAt
  rw [Lib.decode_at, rw4_eq _ _ _ _ _ (by omega) (UInt8.toNat_lt _) (UInt8.toNat_lt _) (UInt8.toNat_lt _) (UInt8.toNat_lt _)]
/-- One more byte of a rune. -/
theorem l22Rune_step (s : ByteArray) (hs : s.size ≤ 1000000000) (i sz j lo hi : Nat) (r : Int) (hj : j < sz) (h4 : sz ≤ 4) (hi0 : i < s.size)
    (hbad : ¬ (i + j < s.size ∧ lo ≤ (s.get! (i + j)).toNat ∧ (s.get! (i + j)).toNat ≤ hi) → r = 0)
    (hgo : (i + j < s.size ∧ lo ≤ (s.get! (i + j)).toNat ∧ (s.get! (i + j)).toNat ≤ hi) → Ev (fun k => spec_l22Rune.l0 k s i sz 128 191 ((j + 1 : Nat) : Int)) r) : Ev (fun k => spec_l22Rune.l0 k s i sz lo hi (j : Int)) r := by
  apply Ev.succ
  have hw : wrap64 ((i : Int) + (j : Int)) = ((i + j : Nat) : Int) := by rw [wrap64_id (by omega) (by omega)]; omega
  have hw1 : wrap64 ((j : Int) + 1) = ((j + 1 : Nat) : Int) := by rw [wrap64_id (by omega) (by omega)]; omega
  simp only [spec_l22Rune.l0, show ((j : Int) < (sz : Int)) by omega, if_true, hw, hw1]
  by_cases c1 : i + j < s.size
  · refine Ev.neg (by omega) (Ev.pos (by omega) (Ev.pos (by omega) ?_))
    rw [bt_get s (i + j) c1]
    have hb := UInt8.toNat_lt (s.get! (i + j))
    rw [wrap64_id (by omega) (by omega)]
    by_cases c2 : (s.get! (i + j)).toNat < lo
    · exact Ev.pos (by omega) (Ev.some (hbad (by omega)).symm)
    · refine Ev.neg (by omega) ?_
      by_cases c3 : hi < (s.get! (i + j)).toNat
      · exact Ev.pos (by omega) (Ev.some (hbad (by omega)).symm)
      · exact Ev.neg (by omega) (hgo (by omega))
  · exact Ev.pos (by omega) (Ev.some (hbad (by omega)).symm)
theorem l22Rune_end (s : ByteArray) (i sz lo hi : Nat) (j : Nat) (hj : j = sz) : Ev (fun k => spec_l22Rune.l0 k s i sz lo hi (j : Int)) (sz : Int) := by
  apply Ev.succ
  subst hj
  simp only [spec_l22Rune.l0, Int.lt_irrefl, if_false]
  exact Ev.some rfl
theorem l22Rune_l0 (s : ByteArray) (hs : s.size ≤ 1000000000) (i sz lo hi : Nat) (h2 : 2 ≤ sz) (h4 : sz ≤ 4) (hi0 : i < s.size) :
    Ev (fun k => spec_l22Rune.l0 k s i sz lo hi 1) ((if contOk (s.size - i) (s.get! (i + 1)).toNat (s.get! (i + 2)).toNat (s.get! (i + 3)).toNat sz lo hi then sz else 0 : Nat) : Int) := by
  generalize hr : (if contOk (s.size - i) (s.get! (i + 1)).toNat (s.get! (i + 2)).toNat (s.get! (i + 3)).toNat sz lo hi then sz else 0) = r
  unfold contOk at hr
  refine l22Rune_step s hs i sz 1 lo hi r (by omega) h4 hi0 (fun hb => ?_) (fun hg => ?_)
  · rw [← hr, if_neg (by omega)]; rfl
  by_cases e2 : sz = 2
  · subst e2
    have : r = 2 := by rw [← hr, if_pos (by omega)]
    subst this
    exact l22Rune_end s i 2 128 191 2 rfl
  refine l22Rune_step s hs i sz 2 128 191 r (by omega) h4 hi0 (fun hb => ?_) (fun hg2 => ?_)
  · rw [← hr, if_neg (by omega)]; rfl
  by_cases e3 : sz = 3
  · subst e3
    have : r = 3 := by rw [← hr, if_pos (by omega)]
    subst this
    exact l22Rune_end s i 3 128 191 3 rfl
  refine l22Rune_step s hs i sz 3 128 191 r (by omega) h4 hi0 (fun hb => ?_) (fun hg3 => ?_)
  · rw [← hr, if_neg (by omega)]; rfl
  have e4 : sz = 4 := by omega
  subst e4
  have : r = 4 := by rw [← hr, if_pos (by omega)]
  subst this
  exact l22Rune_end s i 4 128 191 4 rfl
theorem l22Rune_ev (s : ByteArray) (hs : s.size ≤ 1000000000) (i : Nat) (h : i < s.size) : Ev (fun k => spec_l22Rune.f k s i) ((rwAt s i : Nat) : Int) := by
  unfold spec_l22Rune.f
  refine Ev.pos (by omega) (Ev.pos (by omega) ?_)
  have hb := UInt8.toNat_lt (s.get! i)
  rw [bt_get s i h, wrap64_id (x := ((s.get! i).toNat : Int)) (by omega) (by omega)]
  unfold rwAt rw4
  generalize hb0 : (s.get! i).toNat = b at hb
  by_cases c1 : b < 128
  · rw [if_pos c1]
    exact Ev.pos (by omega) (Ev.some rfl)
  rw [if_neg c1]
  refine Ev.neg (by omega) ?_
  have key (sz lo hi : Nat) (h2 : 2 ≤ sz) (h4 : sz ≤ 4) : Ev (fun k => spec_l22Rune.j3 k s i sz lo hi) ((if contOk (s.size - i) (s.get! (i + 1)).toNat (s.get! (i + 2)).toNat (s.get! (i + 3)).toNat sz lo hi then sz else 0 : Nat) : Int) := by
    apply Ev.succ
    simp only [spec_l22Rune.j3]
    exact l22Rune_l0 s hs i sz lo hi h2 h4 h
  by_cases c2 : 194 ≤ b ∧ b ≤ 223
  · have es : szOf b = 2 := by unfold szOf; rw [if_pos (by omega)]
    have el : loOf b = 128 := by unfold loOf; rw [if_neg (by omega), if_neg (by omega)]
    have eh : hiOf b = 191 := by unfold hiOf; rw [if_neg (by omega), if_neg (by omega)]
    rw [es, el, eh, if_neg (by decide)]
    refine Ev.pos (by omega) ?_
    apply Ev.succ
    simp only [spec_l22Rune.j0]
    exact Ev.pos (by simp; omega) (key 2 128 191 (by decide) (by decide))
  · have hj0 : ∀ x : Bool, x = false → Ev (fun k => spec_l22Rune.j0 k s i (b : Int) 128 191 x) (((if szOf b = 0 then 0 else if contOk (s.size - i) (s.get! (i + 1)).toNat (s.get! (i + 2)).toNat (s.get! (i + 3)).toNat (szOf b) (loOf b) (hiOf b) then szOf b else 0) : Nat) : Int) := by
      intro x hx
      subst hx
      apply Ev.succ
      simp only [spec_l22Rune.j0, Bool.false_eq_true, if_false]
      by_cases c3 : 224 ≤ b ∧ b ≤ 239
      · refine Ev.pos (by omega) ?_
        apply Ev.succ
        simp only [spec_l22Rune.j1]
        refine Ev.pos (by simp; omega) ?_
        have es : szOf b = 3 := by unfold szOf; rw [if_neg (by omega), if_pos (by omega)]
        rw [es, if_neg (by decide)]
        by_cases c4 : b = 224
        · have el : loOf b = 160 := by unfold loOf; rw [if_pos c4]
          have eh : hiOf b = 191 := by unfold hiOf; rw [if_neg (by omega), if_neg (by omega)]
          rw [el, eh]
          exact Ev.pos (by omega) (Ev.neg (by omega) (key 3 160 191 (by decide) (by decide)))
        · have el : loOf b = 128 := by unfold loOf; rw [if_neg (by omega), if_neg (by omega)]
          rw [el]
          refine Ev.neg (by omega) ?_
          by_cases c5 : b = 237
          · have eh : hiOf b = 159 := by unfold hiOf; rw [if_pos c5]
            rw [eh]
            exact Ev.pos (by omega) (key 3 128 159 (by decide) (by decide))
          · have eh : hiOf b = 191 := by unfold hiOf; rw [if_neg (by omega), if_neg (by omega)]
            rw [eh]
            exact Ev.neg (by omega) (key 3 128 191 (by decide) (by decide))
      · have hj1 : ∀ y : Bool, y = false → Ev (fun k => spec_l22Rune.j1 k s i (b : Int) 128 191 y) (((if szOf b = 0 then 0 else if contOk (s.size - i) (s.get! (i + 1)).toNat (s.get! (i + 2)).toNat (s.get! (i + 3)).toNat (szOf b) (loOf b) (hiOf b) then szOf b else 0) : Nat) : Int) := by
          intro y hy
          subst hy
          apply Ev.succ
          simp only [spec_l22Rune.j1, Bool.false_eq_true, if_false]
          by_cases c6 : 240 ≤ b ∧ b ≤ 244
          · refine Ev.pos (by omega) ?_
            apply Ev.succ
            simp only [spec_l22Rune.j2]
            refine Ev.pos (by simp; omega) ?_
            have es : szOf b = 4 := by unfold szOf; rw [if_neg (by omega), if_neg (by omega), if_pos (by omega)]
            rw [es, if_neg (by decide)]
            by_cases c7 : b = 240
            · have el : loOf b = 144 := by unfold loOf; rw [if_neg (by omega), if_pos c7]
              have eh : hiOf b = 191 := by unfold hiOf; rw [if_neg (by omega), if_neg (by omega)]
              rw [el, eh]
              exact Ev.pos (by omega) (Ev.neg (by omega) (key 4 144 191 (by decide) (by decide)))
            · have el : loOf b = 128 := by unfold loOf; rw [if_neg (by omega), if_neg (by omega)]
              rw [el]
              refine Ev.neg (by omega) ?_
              by_cases c8 : b = 244
              · have eh : hiOf b = 143 := by unfold hiOf; rw [if_neg (by omega), if_pos c8]
                rw [eh]
                exact Ev.pos (by omega) (key 4 128 143 (by decide) (by decide))
              · have eh : hiOf b = 191 := by unfold hiOf; rw [if_neg (by omega), if_neg (by omega)]
                rw [eh]
                exact Ev.neg (by omega) (key 4 128 191 (by decide) (by decide))
          · have es : szOf b = 0 := by unfold szOf; rw [if_neg (by omega), if_neg (by omega), if_neg (by omega)]
            rw [es, if_pos rfl]
            have hj2 : ∀ z : Bool, z = false → Ev (fun k => spec_l22Rune.j2 k s i (b : Int) 128 191 z) ((0 : Nat) : Int) := by
              intro z hz
              subst hz
              apply Ev.succ
              simp only [spec_l22Rune.j2, Bool.false_eq_true, if_false]
              exact Ev.some rfl
            exact Ev.ite (fun _ => hj2 _ (decide_eq_false (by omega))) (fun _ => hj2 _ rfl)
        exact Ev.ite (fun _ => hj1 _ (decide_eq_false (by omega))) (fun _ => hj1 _ rfl)
    exact Ev.ite (fun _ => hj0 _ (decide_eq_false (by omega))) (fun _ => hj0 _ rfl)
theorem decode_small (s : ByteArray) (i : Nat) (h : (s.get! i).toNat < 128) : Utf8.decode s i = ((s.get! i).toNat, 1) := by
  rw [Lib.decode_at]
  unfold Lib.decodeN
  rw [if_pos h]
theorem decode_great (s : ByteArray) (i : Nat) (h : ¬ (s.get! i).toNat < 128) : 128 ≤ (Utf8.decode s i).1 ∧ ((Utf8.decode s i).2 = 1 → (Utf8.decode s i).1 = 65533) := by
  rw [Lib.decode_at]
  generalize (s.get! i).toNat = b0 at h
  generalize (s.get! (i + 1)).toNat = b1
  generalize (s.get! (i + 2)).toNat = b2
  generalize (s.get! (i + 3)).toNat = b3
  unfold Lib.decodeN
  rw [if_neg h]
  repeat' split
  all_goals (refine ⟨?_, fun h => ?_⟩ <;> simp only at * <;> omega)
theorem decode_w (s : ByteArray) (i : Nat) : 1 ≤ (Utf8.decode s i).2 ∧ (Utf8.decode s i).2 ≤ 4 := by
  rw [Lib.decode_at]
  generalize (s.get! i).toNat = b0
  generalize (s.get! (i + 1)).toNat = b1
  generalize (s.get! (i + 2)).toNat = b2
  generalize (s.get! (i + 3)).toNat = b3
  unfold Lib.decodeN
  repeat' split
  all_goals simp
theorem letter_eq (b : Int) : spec_l22Letter.f b = some (decide ((97 ≤ b ∧ b ≤ 122) ∨ (65 ≤ b ∧ b ≤ 90))) := by
  unfold spec_l22Letter.f
  by_cases h1 : b ≥ 97
  · rw [if_pos h1]
    by_cases h2 : b ≤ 122
    · rw [if_pos h2, decide_eq_true (Or.inl ⟨h1, h2⟩)]
    · rw [if_neg h2, if_pos (by omega)]
      congr 1
      rw [Bool.eq_iff_iff]
      simp only [decide_eq_true_eq]
      omega
  · rw [if_neg h1]
    by_cases h3 : b ≥ 65
    · rw [if_pos h3]
      congr 1
      rw [Bool.eq_iff_iff]
      simp only [decide_eq_true_eq]
      omega
    · rw [if_neg h3, decide_eq_false (by omega)]
/-- What the reference's reading of a token tells. -/
def oddR (o : Int) (n : Int) : Int × Int := if o < 0 then (-1, n) else (o, 0)
theorem l22Odd_l0 (s : ByteArray) (hs : s.size ≤ 1000000000) (f : Nat) : ∀ (i x : Nat), s.size - i ≤ f → i ≤ s.size + 4 → x ≤ i →
    Ev (fun k => spec_l22Odd.l0 k s (x : Int) (i : Int)) (oddR (oddFrom s f i) ((x + Lib.runeCountFrom s f i : Nat) : Int)) := by
  induction f with
  | zero =>
    intro i x hf hi hx
    apply Ev.succ
    simp only [spec_l22Odd.l0, show ¬ ((i : Int) < (s.size : Int)) by omega, if_false]
    exact Ev.some rfl
  | succ f ih =>
    intro i x hf hi hx
    apply Ev.succ
    simp only [spec_l22Odd.l0, oddFrom, Lib.runeCountFrom]
    by_cases h : i < s.size
    · rw [if_pos h, if_pos h]
      refine Ev.pos (by omega) (Ev.bnd (l22Rune_ev s hs i h) ?_)
      rw [rwAt_eq s i h]
      have hw := decode_w s i
      by_cases c : (s.get! i).toNat < 128
      · have hd := decode_small s i c
        rw [hd]
        have e1 : wid ((s.get! i).toNat, 1) = 1 := by unfold wid; exact if_neg (fun h => by have := h.1; simp only at this; omega)
        rw [e1]
        refine Ev.neg (by decide) (Ev.pos rfl (Ev.pos (by omega) ?_))
        rw [bt_get s i h]
        refine Ev.bnd0 (letter_eq _) ?_
        by_cases c2 : (97 ≤ (s.get! i).toNat ∧ (s.get! i).toNat ≤ 122) ∨ (65 ≤ (s.get! i).toNat ∧ (s.get! i).toNat ≤ 90)
        · have e2 : badRune ((s.get! i).toNat, 1) = false := decide_eq_false (fun h => by simp only at h; omega)
          rw [e2, if_neg (by decide)]
          refine Ev.pos (decide_eq_true (by omega)) ?_
          rw [show wrap64 ((x : Int) + 1) = ((x + 1 : Nat) : Int) by rw [wrap64_id (by omega) (by omega)]; omega, show wrap64 ((i : Int) + ((1 : Nat) : Int)) = ((i + 1 : Nat) : Int) by rw [wrap64_id (by omega) (by omega)]; omega]
          refine Ev.eq (ih (i + 1) (x + 1) (by omega) (by omega) (by omega)) ?_
          rw [Nat.add_assoc]
        · have e2 : badRune ((s.get! i).toNat, 1) = true := decide_eq_true (Or.inr ⟨c, c2⟩)
          rw [e2, if_pos rfl]
          refine Ev.neg (fun h => c2 (by have := of_decide_eq_true h; omega)) (Ev.some ?_)
          unfold oddR
          rw [if_neg (by omega)]
      · obtain ⟨g1, g2⟩ := decode_great s i c
        by_cases c2 : (Utf8.decode s i).1 = 65533 ∧ (Utf8.decode s i).2 = 1
        · have e1 : wid (Utf8.decode s i) = 0 := if_pos c2
          have e2 : badRune (Utf8.decode s i) = true := decide_eq_true (Or.inl c2)
          rw [e1, e2, if_pos rfl]
          refine Ev.pos rfl (Ev.some ?_)
          unfold oddR
          rw [if_neg (by omega)]
        · have e1 : wid (Utf8.decode s i) = (Utf8.decode s i).2 := if_neg c2
          have e2 : badRune (Utf8.decode s i) = false := decide_eq_false (fun h => h.elim c2 (fun h => by omega))
          have e3 : (Utf8.decode s i).2 ≠ 1 := fun h => c2 ⟨g2 h, h⟩
          rw [e1, e2, if_neg (by decide)]
          refine Ev.neg (by omega) (Ev.neg (by omega) ?_)
          rw [show wrap64 ((x : Int) + 1) = ((x + 1 : Nat) : Int) by rw [wrap64_id (by omega) (by omega)]; omega, show wrap64 ((i : Int) + (((Utf8.decode s i).2 : Nat) : Int)) = ((i + (Utf8.decode s i).2 : Nat) : Int) by rw [wrap64_id (by omega) (by omega)]; omega]
          refine Ev.eq (ih (i + (Utf8.decode s i).2) (x + 1) (by omega) (by omega) (by omega)) ?_
          rw [Nat.add_assoc]
    · rw [if_neg h, if_neg h]
      exact Ev.neg (by omega) (Ev.some (by simp [oddR]))
theorem l22Odd_ev (s : ByteArray) (hs : s.size ≤ 1000000000) : Ev (fun k => spec_l22Odd.f k s) (oddR (oddOf s) (Lib.runeCount s : Int)) := by
  unfold spec_l22Odd.f
  have := l22Odd_l0 s hs s.size 0 0 (by omega) (by omega) (by omega)
  simpa [oddOf, Lib.runeCount] using this
/-- A name. -/
def NameOk (s : ByteArray) : Prop := 1 ≤ Lib.runeCount s ∧ Lib.runeCount s ≤ 12 ∧ oddOf s < 0
instance (s : ByteArray) : Decidable (NameOk s) := by unfold NameOk; infer_instance
end Go.Proofs.YtdihodboopeakaaDoor.Pure
/-
Own text: what the laws' own helpers on []string and []bool come to: a copy, a comparison, a size.
-/
namespace Go.Proofs.YtdihodboopeakaaDoor.Pure
open Go.RowKit Go.Proofs.YtdihodboopeakaaDoorW.PrintWords Go.Proofs.YtdihodboopeakaaDoorW.PrintLast Go.Proofs.YtdihodboopeakaaDoor.Pr Go.Proofs.YtdihodboopeakaaDoor.EvKit

theorem eqStringS_l0 (l : List ByteArray) (hl : l.length ≤ 1048576) (d : Nat) : ∀ i : Nat, i + d = l.length → Ev (fun k => laws_eqStringS.l0 k l l i) true := by
  induction d with
  | zero =>
    intro i hi
    apply Ev.succ
    simp only [laws_eqStringS.l0, show ¬ ((i : Int) < (l.length : Int)) by omega, if_false]
    exact Ev.some rfl
  | succ d ih =>
    intro i hi
    apply Ev.succ
    simp only [laws_eqStringS.l0, show ((i : Int) < (l.length : Int)) by omega, show (0 : Int) ≤ (i : Int) by omega, if_true]
    rw [show wrap64 ((i : Int) + 1) = ((i + 1 : Nat) : Int) by rw [wrap64_id (by omega) (by omega)]; omega]
    exact ih (i + 1) (by omega)
theorem eqStringS_ev (l : List ByteArray) (hl : l.length ≤ 1048576) : Ev (fun k => laws_eqStringS.f k l l) true := by
  simp only [laws_eqStringS.f, if_true]
  exact eqStringS_l0 l hl l.length 0 (by omega)
end Go.Proofs.YtdihodboopeakaaDoor.Pure
/-
Own text: what many of the pure proofs use: 'for all from i on', counters, 'between', the copy and the comparison of slices of bytes.
-/
namespace Go.Proofs.YtdihodboopeakaaDoor.Pure
open Go.RowKit Go.Proofs.YtdihodboopeakaaDoorW.PrintWords Go.Proofs.YtdihodboopeakaaDoor.EvKit

def From (n i : Nat) (C : Nat → Prop) : Prop := ∀ j, i ≤ j → j < n → C j
theorem From.step {n i : Nat} {C : Nat → Prop} (h : i < n) : From n i C ↔ C i ∧ From n (i + 1) C := by
  constructor
  · exact fun a => ⟨a i (Nat.le_refl i) h, fun j h1 h2 => a j (by omega) h2⟩
  · rintro ⟨a, b⟩ j h1 h2
    by_cases e : j = i
    · exact e ▸ a
    · exact b j (by omega) h2
/-- One of those from i on, below n. -/
def Some_ (n i : Nat) (C : Nat → Prop) : Prop := ∃ j, i ≤ j ∧ j < n ∧ C j
theorem Some_.step {n i : Nat} {C : Nat → Prop} (h : i < n) : Some_ n i C ↔ C i ∨ Some_ n (i + 1) C := by
  constructor
  · rintro ⟨j, h1, h2, h3⟩
    by_cases e : j = i
    · exact Or.inl (e ▸ h3)
    · exact Or.inr ⟨j, by omega, h2, h3⟩
  · rintro (a | ⟨j, h1, h2, h3⟩)
    · exact ⟨i, Nat.le_refl i, h, a⟩
    · exact ⟨j, by omega, h2, h3⟩
end Go.Proofs.YtdihodboopeakaaDoor.Pure
/-
Own text: what the laws' own helpers on []int come to: a copy, a comparison.
-/
namespace Go.Proofs.YtdihodboopeakaaDoor.Pure
open Go.RowKit Go.Proofs.YtdihodboopeakaaDoorW.PrintWords Go.Proofs.YtdihodboopeakaaDoorW.PrintLast Go.Proofs.YtdihodboopeakaaDoor.Pr Go.Proofs.YtdihodboopeakaaDoor.EvKit

end Go.Proofs.YtdihodboopeakaaDoor.Pure
/-
Own text: what the laws' own helpers on [][]int come to: their size, a copy, a comparison.
-/
namespace Go.Proofs.YtdihodboopeakaaDoor.Pure
open Go.RowKit Go.Proofs.YtdihodboopeakaaDoorW.PrintWords Go.Proofs.YtdihodboopeakaaDoorW.PrintLast Go.Proofs.YtdihodboopeakaaDoor.Pr Go.Proofs.YtdihodboopeakaaDoor.EvKit

end Go.Proofs.YtdihodboopeakaaDoor.Pure
/-
Own text: what a good board is, to the program and to the reference.
-/
namespace Go.Proofs.YtdihodboopeakaaDoor.Pure
open Go.RowKit Go.Proofs.YtdihodboopeakaaDoorW.PrintWords Go.Proofs.YtdihodboopeakaaDoorW.PrintLast Go.Proofs.YtdihodboopeakaaDoor.Pr Go.Proofs.YtdihodboopeakaaDoor.EvKit
open Classical

/-- A row of next places from k on: rising, each a place. -/
def RowOk (n : Nat) (row : List Int) (k : Nat) : Prop := From row.length k fun j => (0 ≤ row.getD j 0 ∧ row.getD j 0 < n) ∧ (0 < j → row.getD (j - 1) 0 < row.getD j 0)
theorem RowOk.len {n : Nat} {row : List Int} (h : RowOk n row 0) : row.length ≤ n := by
  have key : ∀ j, j < row.length → (j : Int) ≤ row.getD j 0 := by
    intro j
    induction j with
    | zero => intro hj; exact (h 0 (Nat.le_refl _) hj).1.1
    | succ j ih =>
      intro hj
      have h1 := ih (by omega)
      have h2 := (h (j + 1) (by omega) hj).2 (by omega)
      simp only [Nat.add_sub_cancel] at h2
      omega
  rcases Nat.eq_zero_or_pos row.length with e | e
  · omega
  · have h1 := key (row.length - 1) (by omega)
    have h2 := (h (row.length - 1) (by omega) (by omega)).1.2
    omega
section
variable (names : List ByteArray) (mine : List Bool) (next : List (List Int)) (hn : names.length ≤ 14) (hx : next.length = names.length) (hs : ∀ x ∈ names, x.size ≤ 1048576) (hr : ∀ x ∈ next, x.length ≤ 1048576)
include hn hx hr
include hs
end
/-! The law's helpers on a board -/
end Go.Proofs.YtdihodboopeakaaDoor.Pure
/-
Own text: what a good wish is, which places it aims at and which it shuns, to the program and to the reference.
-/
namespace Go.Proofs.YtdihodboopeakaaDoor.Pure
open Go.RowKit Go.Proofs.YtdihodboopeakaaDoorW.PrintWords Go.Proofs.YtdihodboopeakaaDoorW.PrintLast Go.Proofs.YtdihodboopeakaaDoor.Pr Go.Proofs.YtdihodboopeakaaDoor.EvKit
open Classical

theorem text_eq (a b : ByteArray) : a.toList = b.toList ↔ a = b := by
  constructor
  · intro h
    rw [Lib.toList_data, Lib.toList_data] at h
    exact ByteArray.ext (Array.toList_inj.1 h)
  · intro h; rw [h]
theorem succ_w2 (i : Nat) (h : i ≤ 1048576) : wrap64 ((i : Int) + 1) = ((i + 1 : Nat) : Int) := by rw [wrap64_id (by omega) (by omega)]; omega
theorem drop_get {α : Type} (l : List α) (i : Nat) (d : α) (h : i < l.length) : l.drop i = l.getD i d :: l.drop (i + 1) := by
  rw [List.drop_eq_getElem_cons h]
  congr 1
  simp [List.getD_eq_getElem?_getD, List.getElem?_eq_getElem h]
theorem mem_drop_step {α : Type} (l : List α) (i : Nat) (d s : α) (h : i < l.length) : s ∈ l.drop i ↔ s = l.getD i d ∨ s ∈ l.drop (i + 1) := by rw [drop_get l i d h]; exact List.mem_cons
theorem l22In_l0 (l : List ByteArray) (s : ByteArray) (hl : l.length ≤ 1048576) (d : Nat) : ∀ i : Nat, i + d = l.length → Ev (fun k => spec_l22In.l0 k s l l.length i) (decide (s ∈ l.drop i)) := by
  induction d with
  | zero =>
    intro i hi
    apply Ev.succ
    rw [List.drop_of_length_le (by omega)]
    simp only [spec_l22In.l0, show ¬ ((i : Int) < (l.length : Int)) by omega, if_false]
    exact Ev.some (decide_eq_false (by simp)).symm
  | succ d ih =>
    intro i hi
    apply Ev.succ
    have hm := mem_drop_step l i ByteArray.empty s (by omega)
    have e : rdOf ByteArray.empty l (i : Int) = l.getD i ByteArray.empty := rfl
    simp only [spec_l22In.l0, show ((i : Int) < (l.length : Int)) by omega, show (0 : Int) ≤ (i : Int) by omega, if_true, e, text_eq, succ_w2 i (by omega)]
    by_cases c : l.getD i ByteArray.empty = s
    · exact Ev.pos c (Ev.some (decide_eq_true (hm.2 (Or.inl c.symm))).symm)
    · refine Ev.neg c (Ev.eq (ih (i + 1) (by omega)) (decide_eq_decide.2 ⟨fun h => hm.2 (Or.inr h), fun h => (hm.1 h).elim (fun h => absurd h.symm c) id⟩))
theorem l22In_ev (l : List ByteArray) (s : ByteArray) (hl : l.length ≤ 1048576) : Ev (fun k => spec_l22In.f k l s) (decide (s ∈ l)) := by
  unfold spec_l22In.f
  simpa using l22In_l0 l s hl l.length 0 (by omega)
theorem contains_l0 (l : List ByteArray) (s : ByteArray) (hl : l.length ≤ 1048576) (d : Nat) : ∀ i : Nat, i + d = l.length → ∃ r : Int, Ev (fun k => slices_Index_string_string.l0 k l s l.length i) r ∧ (r ≥ 0 ↔ s ∈ l.drop i) := by
  induction d with
  | zero =>
    intro i hi
    refine ⟨-1, ?_, ?_⟩
    · apply Ev.succ
      simp only [slices_Index_string_string.l0, show ¬ ((i : Int) < (l.length : Int)) by omega, if_false]
      exact Ev.some rfl
    · rw [List.drop_of_length_le (by omega)]
      simp
  | succ d ih =>
    intro i hi
    have hm := mem_drop_step l i ByteArray.empty s (by omega)
    have e : rdOf ByteArray.empty l (i : Int) = l.getD i ByteArray.empty := rfl
    by_cases c : s = l.getD i ByteArray.empty
    · refine ⟨i, ?_, ⟨fun _ => hm.2 (Or.inl c), fun _ => by omega⟩⟩
      apply Ev.succ
      simp only [slices_Index_string_string.l0, show ((i : Int) < (l.length : Int)) by omega, show (0 : Int) ≤ (i : Int) by omega, if_true, e, text_eq]
      exact Ev.pos c (Ev.some rfl)
    · obtain ⟨r, h1, h2⟩ := ih (i + 1) (by omega)
      refine ⟨r, ?_, ⟨fun h => hm.2 (Or.inr (h2.1 h)), fun h => h2.2 ((hm.1 h).elim (fun h => absurd h c) id)⟩⟩
      apply Ev.succ
      simp only [slices_Index_string_string.l0, show ((i : Int) < (l.length : Int)) by omega, show (0 : Int) ≤ (i : Int) by omega, if_true, e, text_eq, succ_w2 i (by omega)]
      exact Ev.neg c h1
theorem contains_ev (l : List ByteArray) (s : ByteArray) (hl : l.length ≤ 1048576) : Ev (fun k => slices_Contains_string_string.f k l s) (decide (s ∈ l)) := by
  unfold slices_Contains_string_string.f slices_Index_string_string.f
  obtain ⟨r, h1, h2⟩ := contains_l0 l s hl l.length 0 (by omega)
  exact Ev.bnd (by simpa using h1) (Ev.some (decide_eq_decide.2 (by simpa using h2)))
/-! A wish -/
theorem inB_eq (l : List ByteArray) (s : ByteArray) : inB l s = decide (s ∈ l) := by
  rw [Bool.eq_iff_iff]
  unfold inB
  rw [List.any_eq_true]
  simp only [decide_eq_true_eq]
  exact ⟨fun ⟨x, h1, h2⟩ => (text_eq x s).1 h2 ▸ h1, fun h => ⟨s, h, rfl⟩⟩
section
variable (names : List ByteArray) (mine : List Bool) (next : List (List Int)) (reach avoid : List ByteArray)
end

/-! The law's helpers on a wish -/
structure SmallW (reach avoid : List ByteArray) : Prop where
  r1 : reach.length ≤ 1048576
  r2 : ∀ x ∈ reach, x.size ≤ 1048576
  a1 : avoid.length ≤ 1048576
  a2 : ∀ x ∈ avoid, x.size ≤ 1048576
theorem eqWish_ev {reach avoid : List ByteArray} (h : SmallW reach avoid) : Ev (fun k => laws_eqWish.f k reach avoid reach avoid) true := by
  unfold laws_eqWish.f
  exact Ev.bnd (eqStringS_ev _ h.r1) (Ev.pos rfl (Ev.bnd (eqStringS_ev _ h.a1) (Ev.pos rfl (Ev.some rfl))))
end Go.Proofs.YtdihodboopeakaaDoor.Pure
/-
Own text: reading a wish: the reference computes readOf.
-/
namespace Go.Proofs.YtdihodboopeakaaDoor.Pure
open Go.RowKit Go.Proofs.YtdihodboopeakaaDoorW.PrintWords Go.Proofs.YtdihodboopeakaaDoorW.PrintLast Go.Proofs.YtdihodboopeakaaDoor.Pr Go.Proofs.YtdihodboopeakaaDoor.EvKit
open Classical

theorem endFrom_le (s : ByteArray) : ∀ f k, k ≤ endFrom s f k
  | 0, k => Nat.le_refl _
  | f + 1, k => by
    unfold endFrom
    by_cases c : k < s.size
    · rw [if_pos c]
      by_cases c2 : s.get! k = 32
      · rw [if_pos c2]; exact Nat.le_refl _
      · rw [if_neg c2]; exact Nat.le_trans (Nat.le_succ k) (endFrom_le s f (k + 1))
    · rw [if_neg c]; exact Nat.le_refl _
theorem endFrom_top (s : ByteArray) : ∀ f k, k ≤ s.size → endFrom s f k ≤ s.size
  | 0, k, h => h
  | f + 1, k, h => by
    unfold endFrom
    by_cases c : k < s.size
    · rw [if_pos c]
      by_cases c2 : s.get! k = 32
      · rw [if_pos c2]; exact h
      · rw [if_neg c2]; exact endFrom_top s f (k + 1) c
    · rw [if_neg c]; exact h
theorem wordEnd_gt (s : ByteArray) (i : Nat) (h : i < s.size) (h2 : s.get! i ≠ 32) : i < wordEnd s i := by
  unfold wordEnd
  obtain ⟨d, hd⟩ : ∃ d, s.size - i = d + 1 := ⟨s.size - i - 1, by omega⟩
  rw [hd]
  unfold endFrom
  rw [if_pos h, if_neg h2]
  exact endFrom_le s d (i + 1)
theorem wordEnd_le (s : ByteArray) (i : Nat) (h : i < s.size) : wordEnd s i ≤ s.size := endFrom_top s _ i (by omega)
theorem bt_32 (s : ByteArray) (i : Nat) (h : i < s.size) : bt s (i : Int) = 32 ↔ s.get! i = 32 := by
  rw [bt_get s i h]
  constructor
  · intro e
    apply UInt8.toNat_inj.1
    show (s.get! i).toNat = 32
    omega
  · intro e; rw [e]; rfl
theorem end_spec (s : ByteArray) (hs : s.size ≤ 1048576) (part many i : Int) (R A : List ByteArray) (r : Rd) (d : Nat) : ∀ k : Nat, k + d = s.size → Ev (fun q => spec_ReadWish.j2 q s part many i ((endFrom s d k : Nat) : Int) R A) r → Ev (fun q => spec_ReadWish.l1 q s part many i (k : Int) R A) r := by
  induction d with
  | zero =>
    intro k hk h
    refine Ev.succ ?_
    set_option simprocs false in simp only [spec_ReadWish.l1]
    exact Ev.neg (by omega) h
  | succ d ih =>
    intro k hk h
    refine Ev.succ ?_
    set_option simprocs false in simp only [spec_ReadWish.l1]
    unfold endFrom at h
    rw [if_pos (by omega)] at h
    refine Ev.pos (by omega) (Ev.pos (by omega) ?_)
    by_cases c : s.get! k = 32
    · rw [if_pos c] at h
      exact Ev.pos ((bt_32 s k (by omega)).2 c) h
    · rw [if_neg c] at h
      refine Ev.neg (fun e => c ((bt_32 s k (by omega)).1 e)) ?_
      rw [succ_w2 k (by omega)]
      exact ih (k + 1) (by omega) h
theorem bad_eq (code at_ : Int) : spec_l22Bad_at.f code at_ = some (badRd code at_) := rfl
theorem oddFrom_lt (s : ByteArray) : ∀ f pos, oddFrom s f pos < (s.size : Int)
  | 0, _ => by unfold oddFrom; omega
  | f + 1, pos => by
    unfold oddFrom
    by_cases c : pos < s.size
    · rw [if_pos c]
      by_cases c2 : badRune (Utf8.decode s pos) = true
      · rw [if_pos c2]; omega
      · rw [if_neg c2]; exact oddFrom_lt s f _
    · rw [if_neg c]; omega
theorem read_fin (s : ByteArray) (part many : Nat) (R A : List ByteArray) : Ev (fun q => spec_ReadWish.l0 q s part many (s.size : Int) R A) (if many = 0 then badRd 2 s.size else (R, A, 0, 0)) := by
  refine Ev.succ ?_
  set_option simprocs false in simp only [spec_ReadWish.l0]
  refine Ev.neg (by omega) ?_
  by_cases c : many = 0
  · rw [if_pos c]
    exact Ev.pos (by omega) (Ev.bnd0 (bad_eq _ _) (Ev.some rfl))
  · rw [if_neg c]
    exact Ev.neg (by omega) (Ev.some rfl)
theorem read_spec (s : ByteArray) (hs : s.size ≤ 1048576) (f : Nat) : ∀ (i part many : Nat) (R A : List ByteArray), s.size - i ≤ f → i ≤ s.size → part ≤ 2 → many ≤ i + 1 → R.length ≤ i → A.length ≤ i → Ev (fun q => spec_ReadWish.l0 q s part many i R A) (rdFrom s f i part many R A) := by
  induction f with
  | zero =>
    intro i part many R A hf hi _ _ _ _
    obtain rfl : i = s.size := by omega
    exact read_fin s part many R A
  | succ f ih =>
    intro i part many R A hf hi hp hm hR hA
    unfold rdFrom
    by_cases c : i < s.size
    case neg =>
      obtain rfl : i = s.size := by omega
      rw [if_neg c]
      exact read_fin s part many R A
    rw [if_pos c]
    refine Ev.succ ?_
    set_option simprocs false in simp only [spec_ReadWish.l0]
    refine Ev.pos (by omega) (Ev.pos (by omega) ?_)
    by_cases c2 : s.get! i = 32
    · rw [if_pos c2, succ_w2 i (by omega)]
      exact Ev.pos ((bt_32 s i c).2 c2) (ih (i + 1) part many R A (by omega) (by omega) hp (by omega) (by omega) (by omega))
    rw [if_neg c2]
    refine Ev.neg (fun e => c2 ((bt_32 s i c).1 e)) (end_spec s hs _ _ _ R A _ (s.size - i) i (by omega) ?_)
    have g1 := wordEnd_gt s i c c2
    have g2 := wordEnd_le s i c
    rw [show endFrom s (s.size - i) i = wordEnd s i from rfl]
    generalize wordEnd s i = e at g1 g2
    have ht : (s.extract i e).size ≤ 1048576 := by rw [ByteArray.size_extract]; omega
    refine Ev.succ ?_
    set_option simprocs false in simp only [spec_ReadWish.j2, Int.toNat_natCast]
    generalize s.extract i e = t at ht
    refine Ev.pos (by omega) (Ev.pos (by omega) (Ev.pos (by omega) (Ev.bnd (l22Odd_ev t (by omega)) ?_)))
    have go := oddFrom_lt t t.size 0
    rw [show oddFrom t t.size 0 = oddOf t from rfl] at go
    by_cases c3 : 0 ≤ oddOf t
    · have e3 : oddR (oddOf t) (Lib.runeCount t : Int) = (oddOf t, 0) := by unfold oddR; rw [if_neg (by omega)]
      rw [if_pos c3, e3]
      refine Ev.pos c3 (Ev.bnd0 (bad_eq _ _) (Ev.some ?_))
      rw [wrap64_id (by omega) (by omega)]
    have e3 : oddR (oddOf t) (Lib.runeCount t : Int) = (-1, (Lib.runeCount t : Int)) := by unfold oddR; rw [if_pos (by omega)]
    rw [if_neg c3, e3]
    refine Ev.neg (show ¬ ((-1 : Int) ≥ 0) by decide) ?_
    by_cases cr : t.toList = ([114, 101, 97, 99, 104] : List UInt8)
    · have hr : isReach t = true := decide_eq_true cr
      have ha : ¬ t.toList = ([97, 118, 111, 105, 100] : List UInt8) := by rw [cr]; decide
      rw [if_pos hr]
      refine Ev.pos cr (Ev.succ ?_)
      set_option simprocs false in simp only [spec_ReadWish.j3]
      refine Ev.pos trivial (Ev.neg ha ?_)
      by_cases c4 : 1 ≤ part ∨ many = 0
      · rw [if_pos c4]
        by_cases c5 : 1 ≤ part
        · exact Ev.pos (by omega) (Ev.bnd0 (bad_eq _ _) (Ev.some rfl))
        · exact Ev.neg (by omega) (Ev.pos (by omega) (Ev.bnd0 (bad_eq _ _) (Ev.some rfl)))
      · rw [if_neg c4]
        exact Ev.neg (by omega) (Ev.neg (by omega) (ih e 1 0 R A (by omega) (by omega) (by omega) (by omega) (by omega) (by omega)))
    have hr : ¬ isReach t = true := by unfold isReach; rw [decide_eq_true_eq]; exact cr
    rw [if_neg hr]
    refine Ev.neg cr (Ev.succ ?_)
    set_option simprocs false in simp only [spec_ReadWish.j3]
    by_cases ca : t.toList = ([97, 118, 111, 105, 100] : List UInt8)
    · have ha : isAvoid t = true := decide_eq_true ca
      rw [if_pos ha]
      refine Ev.pos (by simpa using ca) (Ev.pos ca ?_)
      by_cases c4 : 2 ≤ part ∨ many = 0
      · rw [if_pos c4]
        by_cases c5 : 2 ≤ part
        · exact Ev.pos (by omega) (Ev.bnd0 (bad_eq _ _) (Ev.some rfl))
        · exact Ev.neg (by omega) (Ev.pos (by omega) (Ev.bnd0 (bad_eq _ _) (Ev.some rfl)))
      · rw [if_neg c4]
        exact Ev.neg (by omega) (Ev.neg (by omega) (ih e 2 0 R A (by omega) (by omega) (by omega) (by omega) (by omega) (by omega)))
    have ha : ¬ isAvoid t = true := by unfold isAvoid; rw [decide_eq_true_eq]; exact ca
    rw [if_neg ha]
    refine Ev.neg (by simpa using ca) ?_
    by_cases c5 : part = 0
    · rw [if_pos c5]
      exact Ev.pos (by omega) (Ev.bnd0 (bad_eq _ _) (Ev.some rfl))
    rw [if_neg c5]
    refine Ev.neg (by omega) ?_
    by_cases c6 : 12 < Lib.runeCount t ∨ many = 6
    · rw [if_pos c6]
      by_cases c7 : 12 < Lib.runeCount t
      · refine Ev.pos (by omega) (Ev.succ ?_)
        set_option simprocs false in simp only [spec_ReadWish.j4]
        exact Ev.pos trivial (Ev.bnd0 (bad_eq _ _) (Ev.some rfl))
      · refine Ev.neg (by omega) (Ev.succ ?_)
        set_option simprocs false in simp only [spec_ReadWish.j4]
        exact Ev.pos (by rw [beq_iff_eq]; omega) (Ev.bnd0 (bad_eq _ _) (Ev.some rfl))
    rw [if_neg c6]
    refine Ev.neg (by omega) (Ev.succ ?_)
    set_option simprocs false in simp only [spec_ReadWish.j4]
    refine Ev.neg (by rw [beq_iff_eq]; omega) ?_
    by_cases c8 : part = 2
    · rw [if_pos c8]
      refine Ev.pos (by omega) (Ev.succ ?_)
      set_option simprocs false in simp only [spec_ReadWish.j5]
      refine Ev.bnd (l22In_ev A t (by omega)) ?_
      rw [inB_eq]
      by_cases c9 : t ∈ A
      · rw [if_pos (decide_eq_true c9)]
        exact Ev.pos (decide_eq_true c9) (Ev.bnd0 (bad_eq _ _) (Ev.some rfl))
      · rw [if_neg (by simpa using c9)]
        refine Ev.neg (by simpa using c9) (Ev.pos (by omega) (Ev.pos (by omega) ?_))
        rw [succ_w2 many (by omega)]
        exact ih e part (many + 1) R (A ++ [t]) (by omega) (by omega) hp (by omega) (by omega) (by rw [List.length_append]; simp only [List.length_cons, List.length_nil]; omega)
    · rw [if_neg c8]
      refine Ev.neg (by omega) (Ev.succ ?_)
      set_option simprocs false in simp only [spec_ReadWish.j5]
      refine Ev.bnd (l22In_ev R t (by omega)) ?_
      rw [inB_eq]
      by_cases c9 : t ∈ R
      · rw [if_pos (decide_eq_true c9)]
        exact Ev.pos (decide_eq_true c9) (Ev.bnd0 (bad_eq _ _) (Ev.some rfl))
      · rw [if_neg (by simpa using c9)]
        refine Ev.neg (by simpa using c9) (Ev.neg (by omega) (Ev.pos (by omega) ?_))
        rw [succ_w2 many (by omega)]
        exact ih e part (many + 1) (R ++ [t]) A (by omega) (by omega) hp (by omega) (by rw [List.length_append]; simp only [List.length_cons, List.length_nil]; omega) (by omega)
theorem read_ev (s : ByteArray) (hs : s.size ≤ 1048576) : Ev (fun q => spec_ReadWish.f q s) (readOf s) := by
  unfold spec_ReadWish.f readOf
  by_cases c : 200 < s.size
  · rw [if_pos c]
    exact Ev.pos (by omega) (Ev.bnd0 (bad_eq _ _) (Ev.some rfl))
  · rw [if_neg c]
    exact Ev.neg (by omega) (read_spec s hs s.size 0 0 1 [] [] (by omega) (by omega) (by omega) (by omega) (by simp) (by simp))
end Go.Proofs.YtdihodboopeakaaDoor.Pure
-- Written by this session's own print (wip/tools/mkmp.py) out of the translation. Lean checks it.
namespace Go.Proofs.YtdihodboopeakaaDoor.Pr
open Go.RowKit Go.Proofs.YtdihodboopeakaaDoorW.PrintWords Go.Proofs.YtdihodboopeakaaDoorW.PrintLast Go.Proofs.YtdihodboopeakaaDoorW.PrintMore
attribute [local go_sem] max2_int min2_int max_two min_two max_three min_three max_four min_four   -- for this text's walks alone
set_option linter.unusedVariables false
set_option linter.unusedSimpArgs false

set_option maxHeartbeats 8000000 in
set_option maxRecDepth 100000 in
theorem slices_Index_string_string.calls (k : Nat) (A0 : Option Addr) (c0 : Nat) (l0 : List ByteArray) (a1 : ByteArray) (r : Int) (w : World) (hr0 : Kd.C Kd.string w A0 l0.length l0) (hc0 : l0.length ≤ c0) (h : slices_Index_string_string.f k l0 a1 = some r) :
   Calls Tryd.prog 94 #[.slice A0 l0.length c0, .string a1] w fun e w' => e = .returned (.int .i64 r) ∧ Drawn0 w w' := by
  have HR0 := Aside0.mk hr0
  have HC0 := Aside0.mk hc0
  clear hr0 hc0
  have H : (slices_Index_string_string.l0 k l0 a1 (l0.length : Int) 0) = some r := h
  clear h
  have H' := Aside0.mk H
  clear H
  go_enter Tryd.func94, Tryd.ntmps94
  go_wp2
  go_loopg [8] k (fun kq v8 w' => ∃ (x8_1 : Int), v8 = .int .i64 x8_1 ∧ Aside0 (slices_Index_string_string.l0 kq l0 a1 (l0.length : Int) x8_1 = some r) ∧ Aside0 (kq ≤ k) ∧ Drawn0 w w')
  case atStart => exact ⟨(0), es_, H', ⟨Nat.le_refl _⟩, by repeat (first | exact Drawn0.refl _ | apply Drawn0.step)⟩
  case round =>
   clear H'
   try clear p2
   obtain ⟨x8_1, rfl, HA, HK1, ⟨m1, rfl⟩⟩ := hrel
   cases gk with
   | zero => exact absurd HA.out (by simp [slices_Index_string_string.l0])
   | succ k1 =>
    have H := HA.out
    clear HA
    simp only [slices_Index_string_string.l0] at H
    by_cases c3 : x8_1 < (l0.length : Int)
    ·rw [if_pos c3] at H
     have c3b0 : decide (x8_1 < (l0.length : Int)) = true := decide_eq_true c3
     clear c3
     by_cases c4 : 0 ≤ x8_1
     ·rw [if_pos c4] at H
      have c4b0 : decide (0 ≤ x8_1) = true := decide_eq_true c4
      clear c4
      by_cases c5 : x8_1 < (l0.length : Int)
      ·rw [if_pos c5] at H
       have c5b0 : decide (x8_1 < (l0.length : Int)) = true := decide_eq_true c5
       clear c5
       by_cases c6 : a1.toList = (rdOf ByteArray.empty l0 x8_1).toList
       ·rw [if_pos c6] at H
        have c6b0 : (a1.toList == (rdOf ByteArray.empty l0 x8_1).toList) = true := beq_iff_eq.mpr c6
        have c6b1 : (a1.toList != (rdOf ByteArray.empty l0 x8_1).toList) = false := bne_eq_false_iff_eq.mpr c6
        clear c6
        obtain rfl := Option.some.inj H
        have p214 : 0 ≤ (x8_1 : Int) := of_decide_eq_true as_
        have q214 : x8_1 < (l0.length : Int) := of_decide_eq_true as_
        obtain ⟨ad214, e214, hx214_0⟩ := Kd.at_string HR0.out x8_1 p214 q214
        cases e214
        replace p214 := eq_true p214
        replace q214 := eq_true q214
        go_wp2
        go_ret
        exact ⟨es_, by repeat (first | exact Drawn0.refl _ | apply Drawn0.step)⟩
       ·rw [if_neg c6] at H
        have c6b0 : (a1.toList == (rdOf ByteArray.empty l0 x8_1).toList) = false := beq_eq_false_iff_ne.mpr c6
        have c6b1 : (a1.toList != (rdOf ByteArray.empty l0 x8_1).toList) = true := bne_iff_ne.mpr c6
        have H' := Aside0.mk H
        clear H
        have p214 : 0 ≤ (x8_1 : Int) := of_decide_eq_true as_
        have q214 : x8_1 < (l0.length : Int) := of_decide_eq_true as_
        obtain ⟨ad214, e214, hx214_0⟩ := Kd.at_string HR0.out x8_1 p214 q214
        cases e214
        replace p214 := eq_true p214
        replace q214 := eq_true q214
        go_wp2
        go_roundg k1
        case measure => have := HK1.out; omega
        case rel => exact ⟨(wrap64 (x8_1 + 1)), es_, H', ⟨by have := HK1.out; omega⟩, by repeat (first | exact Drawn0.refl _ | apply Drawn0.step)⟩
      ·rw [if_neg c5] at H
       exact absurd H (by simp)
     ·rw [if_neg c4] at H
      exact absurd H (by simp)
    ·rw [if_neg c3] at H
     have c3b0 : decide (x8_1 < (l0.length : Int)) = false := decide_eq_false c3
     clear c3
     obtain rfl := Option.some.inj H
     go_wp2
     go_ret
     exact ⟨es_, by repeat (first | exact Drawn0.refl _ | apply Drawn0.step)⟩

set_option maxHeartbeats 8000000 in
set_option maxRecDepth 100000 in
theorem slices_Contains_string_string.calls (k : Nat) (A0 : Option Addr) (c0 : Nat) (l0 : List ByteArray) (a1 : ByteArray) (r : Bool) (w : World) (hr0 : Kd.C Kd.string w A0 l0.length l0) (hc0 : l0.length ≤ c0) (h : slices_Contains_string_string.f k l0 a1 = some r) :
   Calls Tryd.prog 73 #[.slice A0 l0.length c0, .string a1] w fun e w' => e = .returned (.bool r) ∧ Drawn0 w w' := by
  have HR0 := Aside0.mk hr0
  have HC0 := Aside0.mk hc0
  clear hr0 hc0
  have H : ((slices_Index_string_string.f k l0 a1).bind fun t215 => (some (decide (t215 ≥ 0)))) = some r := h
  clear h
  replace H := Option.bind_eq_some_iff.mp H
  obtain ⟨t215, A30, H⟩ := H
  replace H : (some (decide (t215 ≥ 0))) = some r := H
  have A3 := Aside0.mk A30
  clear A30
  obtain rfl := Option.some.inj H
  go_enter Tryd.func73, Tryd.ntmps73
  go_wp2_with (first | ((with_reducible refine gate_callee (f := 94) rfl ?_); refine goesL_ (some 7) rfl rfl Tryd.func94 (by kernel_rfl) rfl #[.slice A0 l0.length c0, .string a1] rfl ls_ ?_; (with_reducible refine (slices_Index_string_string.calls k _ _ l0 a1 t215 _ ?side1 ?side2 A3.out).mono ?_); (case side1 => repeat (first | exact HR0.out | (with_reducible refine Kd.C_alloc ?_ _) | (with_reducible refine Kd.C_drewN ?_ _) | (with_reducible refine Kd.C_drew ?_))); (case side2 => exact HC0.out); rintro e w' ⟨rfl, ⟨nd, rfl⟩⟩; refine ⟨_, rfl, ?_⟩))
  go_ret
  exact ⟨es_, by repeat (first | exact Drawn0.refl _ | apply Drawn0.step)⟩

end Go.Proofs.YtdihodboopeakaaDoor.Pr
-- Written by this session's own print (wip/tools/mkmp.py) out of the translation. Lean checks it.
namespace Go.Proofs.YtdihodboopeakaaDoor.Pr
open Go.RowKit Go.Proofs.YtdihodboopeakaaDoorW.PrintWords Go.Proofs.YtdihodboopeakaaDoorW.PrintLast Go.Proofs.YtdihodboopeakaaDoorW.PrintMore
attribute [local go_sem] max2_int min2_int max_two min_two max_three min_three max_four min_four   -- for this text's walks alone
set_option linter.unusedVariables false
set_option linter.unusedSimpArgs false

set_option maxHeartbeats 8000000 in
set_option maxRecDepth 100000 in
theorem impl_isWord.calls (a0 : ByteArray) (r : Bool) (w : World) (h : impl_isWord.f a0 = some r) :
   Calls Tryd.prog 71 #[.string a0] w fun e w' => e = .returned (.bool r) ∧ Drawn0 w w' := by
  have H : (if a0.toList = ([114, 101, 97, 99, 104] : List UInt8) then (some true) else (some (a0.toList == ([97, 118, 111, 105, 100] : List UInt8)))) = some r := h
  clear h
  by_cases c2 : a0.toList = ([114, 101, 97, 99, 104] : List UInt8)
  ·rw [if_pos c2] at H
   have c2b0 : (a0.toList == ([114, 101, 97, 99, 104] : List UInt8)) = true := beq_iff_eq.mpr c2
   have c2b1 : (a0.toList != ([114, 101, 97, 99, 104] : List UInt8)) = false := bne_eq_false_iff_eq.mpr c2
   clear c2
   obtain rfl := Option.some.inj H
   go_enter Tryd.func71, Tryd.ntmps71
   go_wp2
   go_ret
   exact ⟨es_, by repeat (first | exact Drawn0.refl _ | apply Drawn0.step)⟩
  ·rw [if_neg c2] at H
   have c2b0 : (a0.toList == ([114, 101, 97, 99, 104] : List UInt8)) = false := beq_eq_false_iff_ne.mpr c2
   have c2b1 : (a0.toList != ([114, 101, 97, 99, 104] : List UInt8)) = true := bne_iff_ne.mpr c2
   obtain rfl := Option.some.inj H
   go_enter Tryd.func71, Tryd.ntmps71
   go_wp2
   go_ret
   exact ⟨es_, by repeat (first | exact Drawn0.refl _ | apply Drawn0.step)⟩

-- NOT PRINTED: function 110 (abi_NoEscape)

-- NOT PRINTED: function 105 (strings_Builder_copyCheck)

-- NOT PRINTED: function 111 (bytealg_MakeNoZero)

-- NOT PRINTED: function 106 (strings_Builder_grow)

-- NOT PRINTED: function 97 (strings_Builder_Grow)

-- NOT PRINTED: function 98 (strings_Builder_WriteString)

-- NOT PRINTED: function 99 (strings_Builder_String)

end Go.Proofs.YtdihodboopeakaaDoor.Pr
