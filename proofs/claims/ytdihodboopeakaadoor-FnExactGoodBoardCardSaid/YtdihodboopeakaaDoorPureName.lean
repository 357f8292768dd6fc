/-
Own text: what a name is: the program's reading of runes (over the model's own decoding) and the reference's come to the same.
-/
import Derived.Test.YtdihodboopeakaaDoorPrd1
import Derived.Test.YtdihodboopeakaaDoorOdd
import Derived.Test.YtdihodboopeakaaDoorEvKit
import Derived.Lib.DecodeN
import Derived.Lib.RuneCountTail
import Derived.Lib.Strings
namespace Go.Proofs.YtdihodboopeakaaDoor.Pure
open Go.RowKit Go.Proofs.YtdihodboopeakaaDoorW.PrintWords Go.Proofs.YtdihodboopeakaaDoorW.PrintLast Go.Proofs.YtdihodboopeakaaDoor.Pr Go.Proofs.YtdihodboopeakaaDoor.EvKit

def szOf (b : Nat) : Nat := if 194 ≤ b ∧ b ≤ 223 then 2 else if 224 ≤ b ∧ b ≤ 239 then 3 else if 240 ≤ b ∧ b ≤ 244 then 4 else 0
def loOf (b : Nat) : Nat := if b = 224 then 160 else if b = 240 then 144 else 128
def hiOf (b : Nat) : Nat := if b = 237 then 159 else if b = 244 then 143 else 191
abbrev contOk (n b1 b2 b3 sz lo hi : Nat) : Prop := (1 < n ∧ lo ≤ b1 ∧ b1 ≤ hi) ∧ (3 ≤ sz → 2 < n ∧ 128 ≤ b2 ∧ b2 ≤ 191) ∧ (4 ≤ sz → 3 < n ∧ 128 ≤ b3 ∧ b3 ≤ 191)
/-- How many bytes the rune has; 0: there is none. -/
def rw4 (n b0 b1 b2 b3 : Nat) : Nat := if b0 < 128 then 1 else if szOf b0 = 0 then 0 else if contOk n b1 b2 b3 (szOf b0) (loOf b0) (hiOf b0) then szOf b0 else 0
def wid (d : Nat × Nat) : Nat := if d.1 = 65533 ∧ d.2 = 1 then 0 else d.2
theorem slow_wid (n b0 b1 b2 b3 sz lo hi : Nat) (hs : 2 ≤ sz) (hs4 : sz ≤ 4) : wid (Lib.slowN n b0 b1 b2 b3 sz lo hi) = if contOk n b1 b2 b3 sz lo hi then sz else 0 := by
  have w0 : wid (65533, 1) = 0 := by decide
  have w2 (x y : Nat) (hy : 2 ≤ y) : wid (x, y) = y := by unfold wid; exact if_neg (fun h => by have := h.2; simp only at this; omega)
  unfold Lib.slowN contOk
  by_cases a : n < sz
  · rw [if_pos a, w0, if_neg (by omega)]
  rw [if_neg a]
  by_cases b : b1 < lo ∨ hi < b1
  · rw [if_pos b, w0, if_neg (by omega)]
  rw [if_neg b]
  by_cases c : sz ≤ 2
  · rw [if_pos c, w2 _ _ (by decide), if_pos (by omega)]
    omega
  rw [if_neg c]
  by_cases d : b2 < 128 ∨ 191 < b2
  · rw [if_pos d, w0, if_neg (by omega)]
  rw [if_neg d]
  by_cases e : sz ≤ 3
  · rw [if_pos e, w2 _ _ (by decide), if_pos (by omega)]
    omega
  rw [if_neg e]
  by_cases f : b3 < 128 ∨ 191 < b3
  · rw [if_pos f, w0, if_neg (by omega)]
  rw [if_neg f, w2 _ _ (by decide), if_pos (by omega)]
  omega
theorem rw4_eq (n b0 b1 b2 b3 : Nat) (hn : 1 ≤ n) (h0 : b0 < 256) (h1 : b1 < 256) (h2 : b2 < 256) (h3 : b3 < 256) : wid (Lib.decodeN n b0 b1 b2 b3) = rw4 n b0 b1 b2 b3 := by
  unfold rw4
  by_cases c1 : b0 < 128
  · rw [if_pos c1]
    have e : Lib.decodeN n b0 b1 b2 b3 = (b0, 1) := by unfold Lib.decodeN; rw [if_pos c1]
    rw [e]
    unfold wid
    rw [if_neg (by simp only; omega)]
  rw [if_neg c1]
  by_cases c2 : 194 ≤ b0 ∧ b0 < 224
  · have es : szOf b0 = 2 := by unfold szOf; rw [if_pos (by omega)]
    have el : loOf b0 = 128 := by unfold loOf; rw [if_neg (by omega), if_neg (by omega)]
    have eh : hiOf b0 = 191 := by unfold hiOf; rw [if_neg (by omega), if_neg (by omega)]
    rw [es, el, eh, if_neg (by decide), ← Lib.slow_C2 n b0 b1 b2 b3 hn h1 h2 h3 c2, slow_wid _ _ _ _ _ _ _ _ (by decide) (by decide)]
  by_cases c3 : b0 = 224
  · have es : szOf b0 = 3 := by unfold szOf; rw [if_neg (by omega), if_pos (by omega)]
    have el : loOf b0 = 160 := by unfold loOf; rw [if_pos c3]
    have eh : hiOf b0 = 191 := by unfold hiOf; rw [if_neg (by omega), if_neg (by omega)]
    rw [es, el, eh, if_neg (by decide), ← Lib.slow_E0 n b0 b1 b2 b3 hn h1 h2 h3 c3, slow_wid _ _ _ _ _ _ _ _ (by decide) (by decide)]
  by_cases c4 : (225 ≤ b0 ∧ b0 < 237) ∨ (238 ≤ b0 ∧ b0 < 240)
  · have es : szOf b0 = 3 := by unfold szOf; rw [if_neg (by omega), if_pos (by omega)]
    have el : loOf b0 = 128 := by unfold loOf; rw [if_neg (by omega), if_neg (by omega)]
    have eh : hiOf b0 = 191 := by unfold hiOf; rw [if_neg (by omega), if_neg (by omega)]
    rw [es, el, eh, if_neg (by decide), ← Lib.slow_E1 n b0 b1 b2 b3 hn h1 h2 h3 c4, slow_wid _ _ _ _ _ _ _ _ (by decide) (by decide)]
  by_cases c5 : b0 = 237
  · have es : szOf b0 = 3 := by unfold szOf; rw [if_neg (by omega), if_pos (by omega)]
    have el : loOf b0 = 128 := by unfold loOf; rw [if_neg (by omega), if_neg (by omega)]
    have eh : hiOf b0 = 159 := by unfold hiOf; rw [if_pos c5]
    rw [es, el, eh, if_neg (by decide), ← Lib.slow_ED n b0 b1 b2 b3 hn h1 h2 h3 c5, slow_wid _ _ _ _ _ _ _ _ (by decide) (by decide)]
  by_cases c6 : b0 = 240
  · have es : szOf b0 = 4 := by unfold szOf; rw [if_neg (by omega), if_neg (by omega), if_pos (by omega)]
    have el : loOf b0 = 144 := by unfold loOf; rw [if_neg (by omega), if_pos c6]
    have eh : hiOf b0 = 191 := by unfold hiOf; rw [if_neg (by omega), if_neg (by omega)]
    rw [es, el, eh, if_neg (by decide), ← Lib.slow_F0 n b0 b1 b2 b3 hn h1 h2 h3 c6, slow_wid _ _ _ _ _ _ _ _ (by decide) (by decide)]
  by_cases c7 : 241 ≤ b0 ∧ b0 < 244
  · have es : szOf b0 = 4 := by unfold szOf; rw [if_neg (by omega), if_neg (by omega), if_pos (by omega)]
    have el : loOf b0 = 128 := by unfold loOf; rw [if_neg (by omega), if_neg (by omega)]
    have eh : hiOf b0 = 191 := by unfold hiOf; rw [if_neg (by omega), if_neg (by omega)]
    rw [es, el, eh, if_neg (by decide), ← Lib.slow_F1 n b0 b1 b2 b3 hn h1 h2 h3 c7, slow_wid _ _ _ _ _ _ _ _ (by decide) (by decide)]
  by_cases c8 : b0 = 244
  · have es : szOf b0 = 4 := by unfold szOf; rw [if_neg (by omega), if_neg (by omega), if_pos (by omega)]
    have el : loOf b0 = 128 := by unfold loOf; rw [if_neg (by omega), if_neg (by omega)]
    have eh : hiOf b0 = 143 := by unfold hiOf; rw [if_neg (by omega), if_pos c8]
    rw [es, el, eh, if_neg (by decide), ← Lib.slow_F4 n b0 b1 b2 b3 hn h1 h2 h3 c8, slow_wid _ _ _ _ _ _ _ _ (by decide) (by decide)]
  · have es : szOf b0 = 0 := by unfold szOf; rw [if_neg (by omega), if_neg (by omega), if_neg (by omega)]
    rw [es, if_pos rfl]
    unfold Lib.decodeN wid
    repeat' split
    all_goals first | rfl | (exfalso; omega)
theorem bt_get (s : ByteArray) (i : Nat) (h : i < s.size) : bt s (i : Int) = ((s.get! i).toNat : Int) := by
  unfold bt
  rw [dif_pos (by simpa using h)]
  have : s.get! i = s[i]'h := by
    have h2 : i < s.data.size := h
    cases s with
    | mk a => simp [ByteArray.get!, getElem!_pos, h2]; rfl
  rw [this]
  rfl
def rwAt (s : ByteArray) (i : Nat) : Nat := rw4 (s.size - i) (s.get! i).toNat (s.get! (i + 1)).toNat (s.get! (i + 2)).toNat (s.get! (i + 3)).toNat
theorem rwAt_eq (s : ByteArray) (i : Nat) (h : i < s.size) : rwAt s i = wid (Utf8.decode s i) := by
  unfold rwAt
  rw [Lib.decode_at, rw4_eq _ _ _ _ _ (by omega) (UInt8.toNat_lt _) (UInt8.toNat_lt _) (UInt8.toNat_lt _) (UInt8.toNat_lt _)]
/-- One more byte of a rune. -/
theorem l22Rune_step (s : ByteArray) (hs : s.size ≤ 1000000000) (i sz j lo hi : Nat) (r : Int) (hj : j < sz) (h4 : sz ≤ 4) (hi0 : i < s.size)
    (hbad : ¬ (i + j < s.size ∧ lo ≤ (s.get! (i + j)).toNat ∧ (s.get! (i + j)).toNat ≤ hi) → r = 0)
    (hgo : (i + j < s.size ∧ lo ≤ (s.get! (i + j)).toNat ∧ (s.get! (i + j)).toNat ≤ hi) → Ev (fun k => spec_l22Rune.l0 k s i sz 128 191 ((j + 1 : Nat) : Int)) r) : Ev (fun k => spec_l22Rune.l0 k s i sz lo hi (j : Int)) r := by
  apply Ev.succ
  have hw : wrap64 ((i : Int) + (j : Int)) = ((i + j : Nat) : Int) := by rw [wrap64_id (by omega) (by omega)]; omega
  have hw1 : wrap64 ((j : Int) + 1) = ((j + 1 : Nat) : Int) := by rw [wrap64_id (by omega) (by omega)]; omega
  simp only [spec_l22Rune.l0, show ((j : Int) < (sz : Int)) by omega, if_true, hw, hw1]
  by_cases c1 : i + j < s.size
  · refine Ev.neg (by omega) (Ev.pos (by omega) (Ev.pos (by omega) ?_))
    rw [bt_get s (i + j) c1]
    have hb := UInt8.toNat_lt (s.get! (i + j))
    rw [wrap64_id (by omega) (by omega)]
    by_cases c2 : (s.get! (i + j)).toNat < lo
    · exact Ev.pos (by omega) (Ev.some (hbad (by omega)).symm)
    · refine Ev.neg (by omega) ?_
      by_cases c3 : hi < (s.get! (i + j)).toNat
      · exact Ev.pos (by omega) (Ev.some (hbad (by omega)).symm)
      · exact Ev.neg (by omega) (hgo (by omega))
  · exact Ev.pos (by omega) (Ev.some (hbad (by omega)).symm)
theorem l22Rune_end (s : ByteArray) (i sz lo hi : Nat) (j : Nat) (hj : j = sz) : Ev (fun k => spec_l22Rune.l0 k s i sz lo hi (j : Int)) (sz : Int) := by
  apply Ev.succ
  subst hj
  simp only [spec_l22Rune.l0, Int.lt_irrefl, if_false]
  exact Ev.some rfl
theorem l22Rune_l0 (s : ByteArray) (hs : s.size ≤ 1000000000) (i sz lo hi : Nat) (h2 : 2 ≤ sz) (h4 : sz ≤ 4) (hi0 : i < s.size) :
    Ev (fun k => spec_l22Rune.l0 k s i sz lo hi 1) ((if contOk (s.size - i) (s.get! (i + 1)).toNat (s.get! (i + 2)).toNat (s.get! (i + 3)).toNat sz lo hi then sz else 0 : Nat) : Int) := by
  generalize hr : (if contOk (s.size - i) (s.get! (i + 1)).toNat (s.get! (i + 2)).toNat (s.get! (i + 3)).toNat sz lo hi then sz else 0) = r
  unfold contOk at hr
  refine l22Rune_step s hs i sz 1 lo hi r (by omega) h4 hi0 (fun hb => ?_) (fun hg => ?_)
  · rw [← hr, if_neg (by omega)]; rfl
  by_cases e2 : sz = 2
  · subst e2
    have : r = 2 := by rw [← hr, if_pos (by omega)]
    subst this
    exact l22Rune_end s i 2 128 191 2 rfl
  refine l22Rune_step s hs i sz 2 128 191 r (by omega) h4 hi0 (fun hb => ?_) (fun hg2 => ?_)
  · rw [← hr, if_neg (by omega)]; rfl
  by_cases e3 : sz = 3
  · subst e3
    have : r = 3 := by rw [← hr, if_pos (by omega)]
    subst this
    exact l22Rune_end s i 3 128 191 3 rfl
  refine l22Rune_step s hs i sz 3 128 191 r (by omega) h4 hi0 (fun hb => ?_) (fun hg3 => ?_)
  · rw [← hr, if_neg (by omega)]; rfl
  have e4 : sz = 4 := by omega
  subst e4
  have : r = 4 := by rw [← hr, if_pos (by omega)]
  subst this
  exact l22Rune_end s i 4 128 191 4 rfl
theorem l22Rune_ev (s : ByteArray) (hs : s.size ≤ 1000000000) (i : Nat) (h : i < s.size) : Ev (fun k => spec_l22Rune.f k s i) ((rwAt s i : Nat) : Int) := by
  unfold spec_l22Rune.f
  refine Ev.pos (by omega) (Ev.pos (by omega) ?_)
  have hb := UInt8.toNat_lt (s.get! i)
  rw [bt_get s i h, wrap64_id (x := ((s.get! i).toNat : Int)) (by omega) (by omega)]
  unfold rwAt rw4
  generalize hb0 : (s.get! i).toNat = b at hb
  by_cases c1 : b < 128
  · rw [if_pos c1]
    exact Ev.pos (by omega) (Ev.some rfl)
  rw [if_neg c1]
  refine Ev.neg (by omega) ?_
  have key (sz lo hi : Nat) (h2 : 2 ≤ sz) (h4 : sz ≤ 4) : Ev (fun k => spec_l22Rune.j3 k s i sz lo hi) ((if contOk (s.size - i) (s.get! (i + 1)).toNat (s.get! (i + 2)).toNat (s.get! (i + 3)).toNat sz lo hi then sz else 0 : Nat) : Int) := by
    apply Ev.succ
    simp only [spec_l22Rune.j3]
    exact l22Rune_l0 s hs i sz lo hi h2 h4 h
  by_cases c2 : 194 ≤ b ∧ b ≤ 223
  · have es : szOf b = 2 := by unfold szOf; rw [if_pos (by omega)]
    have el : loOf b = 128 := by unfold loOf; rw [if_neg (by omega), if_neg (by omega)]
    have eh : hiOf b = 191 := by unfold hiOf; rw [if_neg (by omega), if_neg (by omega)]
    rw [es, el, eh, if_neg (by decide)]
    refine Ev.pos (by omega) ?_
    apply Ev.succ
    simp only [spec_l22Rune.j0]
    exact Ev.pos (by simp; omega) (key 2 128 191 (by decide) (by decide))
  · have hj0 : ∀ x : Bool, x = false → Ev (fun k => spec_l22Rune.j0 k s i (b : Int) 128 191 x) (((if szOf b = 0 then 0 else if contOk (s.size - i) (s.get! (i + 1)).toNat (s.get! (i + 2)).toNat (s.get! (i + 3)).toNat (szOf b) (loOf b) (hiOf b) then szOf b else 0) : Nat) : Int) := by
      intro x hx
      subst hx
      apply Ev.succ
      simp only [spec_l22Rune.j0, Bool.false_eq_true, if_false]
      by_cases c3 : 224 ≤ b ∧ b ≤ 239
      · refine Ev.pos (by omega) ?_
        apply Ev.succ
        simp only [spec_l22Rune.j1]
        refine Ev.pos (by simp; omega) ?_
        have es : szOf b = 3 := by unfold szOf; rw [if_neg (by omega), if_pos (by omega)]
        rw [es, if_neg (by decide)]
        by_cases c4 : b = 224
        · have el : loOf b = 160 := by unfold loOf; rw [if_pos c4]
          have eh : hiOf b = 191 := by unfold hiOf; rw [if_neg (by omega), if_neg (by omega)]
          rw [el, eh]
          exact Ev.pos (by omega) (Ev.neg (by omega) (key 3 160 191 (by decide) (by decide)))
        · have el : loOf b = 128 := by unfold loOf; rw [if_neg (by omega), if_neg (by omega)]
          rw [el]
          refine Ev.neg (by omega) ?_
          by_cases c5 : b = 237
          · have eh : hiOf b = 159 := by unfold hiOf; rw [if_pos c5]
            rw [eh]
            exact Ev.pos (by omega) (key 3 128 159 (by decide) (by decide))
          · have eh : hiOf b = 191 := by unfold hiOf; rw [if_neg (by omega), if_neg (by omega)]
            rw [eh]
            exact Ev.neg (by omega) (key 3 128 191 (by decide) (by decide))
      · have hj1 : ∀ y : Bool, y = false → Ev (fun k => spec_l22Rune.j1 k s i (b : Int) 128 191 y) (((if szOf b = 0 then 0 else if contOk (s.size - i) (s.get! (i + 1)).toNat (s.get! (i + 2)).toNat (s.get! (i + 3)).toNat (szOf b) (loOf b) (hiOf b) then szOf b else 0) : Nat) : Int) := by
          intro y hy
          subst hy
          apply Ev.succ
          simp only [spec_l22Rune.j1, Bool.false_eq_true, if_false]
          by_cases c6 : 240 ≤ b ∧ b ≤ 244
          · refine Ev.pos (by omega) ?_
            apply Ev.succ
            simp only [spec_l22Rune.j2]
            refine Ev.pos (by simp; omega) ?_
            have es : szOf b = 4 := by unfold szOf; rw [if_neg (by omega), if_neg (by omega), if_pos (by omega)]
            rw [es, if_neg (by decide)]
            by_cases c7 : b = 240
            · have el : loOf b = 144 := by unfold loOf; rw [if_neg (by omega), if_pos c7]
              have eh : hiOf b = 191 := by unfold hiOf; rw [if_neg (by omega), if_neg (by omega)]
              rw [el, eh]
              exact Ev.pos (by omega) (Ev.neg (by omega) (key 4 144 191 (by decide) (by decide)))
            · have el : loOf b = 128 := by unfold loOf; rw [if_neg (by omega), if_neg (by omega)]
              rw [el]
              refine Ev.neg (by omega) ?_
              by_cases c8 : b = 244
              · have eh : hiOf b = 143 := by unfold hiOf; rw [if_neg (by omega), if_pos c8]
                rw [eh]
                exact Ev.pos (by omega) (key 4 128 143 (by decide) (by decide))
              · have eh : hiOf b = 191 := by unfold hiOf; rw [if_neg (by omega), if_neg (by omega)]
                rw [eh]
                exact Ev.neg (by omega) (key 4 128 191 (by decide) (by decide))
          · have es : szOf b = 0 := by unfold szOf; rw [if_neg (by omega), if_neg (by omega), if_neg (by omega)]
            rw [es, if_pos rfl]
            have hj2 : ∀ z : Bool, z = false → Ev (fun k => spec_l22Rune.j2 k s i (b : Int) 128 191 z) ((0 : Nat) : Int) := by
              intro z hz
              subst hz
              apply Ev.succ
              simp only [spec_l22Rune.j2, Bool.false_eq_true, if_false]
              exact Ev.some rfl
            exact Ev.ite (fun _ => hj2 _ (decide_eq_false (by omega))) (fun _ => hj2 _ rfl)
        exact Ev.ite (fun _ => hj1 _ (decide_eq_false (by omega))) (fun _ => hj1 _ rfl)
    exact Ev.ite (fun _ => hj0 _ (decide_eq_false (by omega))) (fun _ => hj0 _ rfl)
theorem decode_small (s : ByteArray) (i : Nat) (h : (s.get! i).toNat < 128) : Utf8.decode s i = ((s.get! i).toNat, 1) := by
  rw [Lib.decode_at]
  unfold Lib.decodeN
  rw [if_pos h]
theorem decode_great (s : ByteArray) (i : Nat) (h : ¬ (s.get! i).toNat < 128) : 128 ≤ (Utf8.decode s i).1 ∧ ((Utf8.decode s i).2 = 1 → (Utf8.decode s i).1 = 65533) := by
  rw [Lib.decode_at]
  generalize (s.get! i).toNat = b0 at h
  generalize (s.get! (i + 1)).toNat = b1
  generalize (s.get! (i + 2)).toNat = b2
  generalize (s.get! (i + 3)).toNat = b3
  unfold Lib.decodeN
  rw [if_neg h]
  repeat' split
  all_goals (refine ⟨?_, fun h => ?_⟩ <;> simp only at * <;> omega)
theorem decode_w (s : ByteArray) (i : Nat) : 1 ≤ (Utf8.decode s i).2 ∧ (Utf8.decode s i).2 ≤ 4 := by
  rw [Lib.decode_at]
  generalize (s.get! i).toNat = b0
  generalize (s.get! (i + 1)).toNat = b1
  generalize (s.get! (i + 2)).toNat = b2
  generalize (s.get! (i + 3)).toNat = b3
  unfold Lib.decodeN
  repeat' split
  all_goals simp
theorem letter_eq (b : Int) : spec_l22Letter.f b = some (decide ((97 ≤ b ∧ b ≤ 122) ∨ (65 ≤ b ∧ b ≤ 90))) := by
  unfold spec_l22Letter.f
  by_cases h1 : b ≥ 97
  · rw [if_pos h1]
    by_cases h2 : b ≤ 122
    · rw [if_pos h2, decide_eq_true (Or.inl ⟨h1, h2⟩)]
    · rw [if_neg h2, if_pos (by omega)]
      congr 1
      rw [Bool.eq_iff_iff]
      simp only [decide_eq_true_eq]
      omega
  · rw [if_neg h1]
    by_cases h3 : b ≥ 65
    · rw [if_pos h3]
      congr 1
      rw [Bool.eq_iff_iff]
      simp only [decide_eq_true_eq]
      omega
    · rw [if_neg h3, decide_eq_false (by omega)]
/-- What the reference's reading of a token tells. -/
def oddR (o : Int) (n : Int) : Int × Int := if o < 0 then (-1, n) else (o, 0)
theorem oddFrom_range (s : ByteArray) : ∀ f pos, oddFrom s f pos = -1 ∨ (pos : Int) ≤ oddFrom s f pos := by
  intro f
  induction f with
  | zero => intro pos; exact Or.inl rfl
  | succ f ih =>
    intro pos
    simp only [oddFrom]
    by_cases h : pos < s.size
    · rw [if_pos h]
      by_cases h2 : badRune (Utf8.decode s pos) = true
      · rw [if_pos h2]; exact Or.inr (Int.le_refl _)
      · rw [if_neg h2]
        rcases ih (pos + (Utf8.decode s pos).2) with e | e
        · exact Or.inl e
        · exact Or.inr (by omega)
    · rw [if_neg h]; exact Or.inl rfl
theorem l22Odd_l0 (s : ByteArray) (hs : s.size ≤ 1000000000) (f : Nat) : ∀ (i x : Nat), s.size - i ≤ f → i ≤ s.size + 4 → x ≤ i →
    Ev (fun k => spec_l22Odd.l0 k s (x : Int) (i : Int)) (oddR (oddFrom s f i) ((x + Lib.runeCountFrom s f i : Nat) : Int)) := by
  induction f with
  | zero =>
    intro i x hf hi hx
    apply Ev.succ
    simp only [spec_l22Odd.l0, show ¬ ((i : Int) < (s.size : Int)) by omega, if_false]
    exact Ev.some rfl
  | succ f ih =>
    intro i x hf hi hx
    apply Ev.succ
    simp only [spec_l22Odd.l0, oddFrom, Lib.runeCountFrom]
    by_cases h : i < s.size
    · rw [if_pos h, if_pos h]
      refine Ev.pos (by omega) (Ev.bnd (l22Rune_ev s hs i h) ?_)
      rw [rwAt_eq s i h]
      have hw := decode_w s i
      by_cases c : (s.get! i).toNat < 128
      · have hd := decode_small s i c
        rw [hd]
        have e1 : wid ((s.get! i).toNat, 1) = 1 := by unfold wid; exact if_neg (fun h => by have := h.1; simp only at this; omega)
        rw [e1]
        refine Ev.neg (by decide) (Ev.pos rfl (Ev.pos (by omega) ?_))
        rw [bt_get s i h]
        refine Ev.bnd0 (letter_eq _) ?_
        by_cases c2 : (97 ≤ (s.get! i).toNat ∧ (s.get! i).toNat ≤ 122) ∨ (65 ≤ (s.get! i).toNat ∧ (s.get! i).toNat ≤ 90)
        · have e2 : badRune ((s.get! i).toNat, 1) = false := decide_eq_false (fun h => by simp only at h; omega)
          rw [e2, if_neg (by decide)]
          refine Ev.pos (decide_eq_true (by omega)) ?_
          rw [show wrap64 ((x : Int) + 1) = ((x + 1 : Nat) : Int) by rw [wrap64_id (by omega) (by omega)]; omega, show wrap64 ((i : Int) + ((1 : Nat) : Int)) = ((i + 1 : Nat) : Int) by rw [wrap64_id (by omega) (by omega)]; omega]
          refine Ev.eq (ih (i + 1) (x + 1) (by omega) (by omega) (by omega)) ?_
          rw [Nat.add_assoc]
        · have e2 : badRune ((s.get! i).toNat, 1) = true := decide_eq_true (Or.inr ⟨c, c2⟩)
          rw [e2, if_pos rfl]
          refine Ev.neg (fun h => c2 (by have := of_decide_eq_true h; omega)) (Ev.some ?_)
          unfold oddR
          rw [if_neg (by omega)]
      · obtain ⟨g1, g2⟩ := decode_great s i c
        by_cases c2 : (Utf8.decode s i).1 = 65533 ∧ (Utf8.decode s i).2 = 1
        · have e1 : wid (Utf8.decode s i) = 0 := if_pos c2
          have e2 : badRune (Utf8.decode s i) = true := decide_eq_true (Or.inl c2)
          rw [e1, e2, if_pos rfl]
          refine Ev.pos rfl (Ev.some ?_)
          unfold oddR
          rw [if_neg (by omega)]
        · have e1 : wid (Utf8.decode s i) = (Utf8.decode s i).2 := if_neg c2
          have e2 : badRune (Utf8.decode s i) = false := decide_eq_false (fun h => h.elim c2 (fun h => by omega))
          have e3 : (Utf8.decode s i).2 ≠ 1 := fun h => c2 ⟨g2 h, h⟩
          rw [e1, e2, if_neg (by decide)]
          refine Ev.neg (by omega) (Ev.neg (by omega) ?_)
          rw [show wrap64 ((x : Int) + 1) = ((x + 1 : Nat) : Int) by rw [wrap64_id (by omega) (by omega)]; omega, show wrap64 ((i : Int) + (((Utf8.decode s i).2 : Nat) : Int)) = ((i + (Utf8.decode s i).2 : Nat) : Int) by rw [wrap64_id (by omega) (by omega)]; omega]
          refine Ev.eq (ih (i + (Utf8.decode s i).2) (x + 1) (by omega) (by omega) (by omega)) ?_
          rw [Nat.add_assoc]
    · rw [if_neg h, if_neg h]
      exact Ev.neg (by omega) (Ev.some (by simp [oddR]))
theorem l22Odd_ev (s : ByteArray) (hs : s.size ≤ 1000000000) : Ev (fun k => spec_l22Odd.f k s) (oddR (oddOf s) (Lib.runeCount s : Int)) := by
  unfold spec_l22Odd.f
  have := l22Odd_l0 s hs s.size 0 0 (by omega) (by omega) (by omega)
  simpa [oddOf, Lib.runeCount] using this
/-- A name. -/
def NameOk (s : ByteArray) : Prop := 1 ≤ Lib.runeCount s ∧ Lib.runeCount s ≤ 12 ∧ oddOf s < 0
instance (s : ByteArray) : Decidable (NameOk s) := by unfold NameOk; infer_instance
theorem goodName_eq (s : ByteArray) (hs : s.size ≤ 1000000000) : impl_goodName.f s = some (decide (NameOk s)) := by
  unfold impl_goodName.f
  rw [if_pos (by omega)]
  rfl
theorem l22Name_ev (s : ByteArray) (hs : s.size ≤ 1000000000) : Ev (fun k => spec_l22Name.f k s) (decide (NameOk s)) := by
  unfold spec_l22Name.f
  refine Ev.bnd (l22Odd_ev s hs) ?_
  unfold oddR
  by_cases h : oddOf s < 0
  · rw [if_pos h]
    refine Ev.pos (by show (-1 : Int) < 0; decide) ?_
    by_cases h1 : 1 ≤ Lib.runeCount s
    · refine Ev.pos (by simp only; omega) (Ev.some ?_)
      rw [Bool.eq_iff_iff]
      simp only [decide_eq_true_eq]
      unfold NameOk
      omega
    · refine Ev.neg (by simp only; omega) (Ev.some ?_)
      rw [decide_eq_false]
      exact fun h2 => h1 h2.1
  · rw [if_neg h]
    refine Ev.neg (by simp only; omega) (Ev.some ?_)
    rw [decide_eq_false]
    exact fun h2 => h h2.2.2
end Go.Proofs.YtdihodboopeakaaDoor.Pure
