-- Joined and pruned by wip/tools/prune.py out of this session's own texts (PureName, PureText, PureBase, PureInts, PureIntSS, PureBoard, PureWish, PureRank, PureRank2, PureRank3, PureMet)
import Derived.Test.YtdihodboopeakaaDoorZfw15
import Derived.Lib.DecodeN
import Derived.Lib.RuneCountTail
import Derived.Lib.Strings
/-
Own text: what a name is: the program's reading of runes (over the model's own decoding) and the reference's come to the same.
-/
namespace Go.Proofs.YtdihodboopeakaaDoor.Pure
open Go.RowKit Go.Proofs.YtdihodboopeakaaDoorW.PrintWords Go.Proofs.YtdihodboopeakaaDoorW.PrintLast Go.Proofs.YtdihodboopeakaaDoor.Pr Go.Proofs.YtdihodboopeakaaDoor.EvKit

def szOf (b : Nat) : Nat:=if 194 ≤ b ∧ b ≤ 223 then 2 else if 224 ≤ b ∧ b ≤ 239 then 3 else if 240 ≤ b ∧ b ≤ 244 then 4 else 0
def loOf (b : Nat) : Nat:=if b = 224 then 160 else if b = 240 then 144 else 128
def hiOf (b : Nat) : Nat:=if b = 237 then 159 else if b = 244 then 143 else 191
abbrev contOk (n b1 b2 b3 sz lo hi : Nat) : Prop:=(1 < n ∧ lo ≤ b1 ∧ b1 ≤ hi) ∧ (3 ≤ sz → 2 < n ∧ 128 ≤ b2 ∧ b2 ≤ 191) ∧ (4 ≤ sz → 3 < n ∧ 128 ≤ b3 ∧ b3 ≤ 191)
/-- How many bytes the rune has; 0: there is none. -/
def rw4 (n b0 b1 b2 b3 : Nat) : Nat:=if b0 < 128 then 1 else if szOf b0 = 0 then 0 else if contOk n b1 b2 b3 (szOf b0) (loOf b0) (hiOf b0) then szOf b0 else 0
def wid (d : Nat × Nat) : Nat:=if d.1 = 65533 ∧ d.2 = 1 then 0 else d.2
theorem slow_wid (n b0 b1 b2 b3 sz lo hi : Nat) (hs : 2 ≤ sz) (hs4 : sz ≤ 4) : wid (Lib.slowN n b0 b1 b2 b3 sz lo hi) = if contOk n b1 b2 b3 sz lo hi then sz else 0:=by
  (have w0 : wid (65533,1) = 0:=by decide);(have w2 (x y : Nat) (hy : 2 ≤ y) : wid (x,y) = y:=by unfold wid;exact if_neg (fun h => by have:=h.2;simp only at this;omega));unfold Lib.slowN contOk;by_cases a : n < sz
  · rw [if_pos a,w0,if_neg (by omega)]
  rw [if_neg a];by_cases b : b1 < lo ∨ hi < b1
  · rw [if_pos b,w0,if_neg (by omega)]
  rw [if_neg b];by_cases c : sz ≤ 2
  · rw [if_pos c,w2 _ _ (by decide),if_pos (by omega)]
    omega
  rw [if_neg c];by_cases d : b2 < 128 ∨ 191 < b2
  · rw [if_pos d,w0,if_neg (by omega)]
  rw [if_neg d];by_cases e : sz ≤ 3
  · rw [if_pos e,w2 _ _ (by decide),if_pos (by omega)]
    omega
  rw [if_neg e];by_cases f : b3 < 128 ∨ 191 < b3
  · rw [if_pos f,w0,if_neg (by omega)]
  rw [if_neg f,w2 _ _ (by decide),if_pos (by omega)]
  omega
theorem rw4_eq (n b0 b1 b2 b3 : Nat) (hn : 1 ≤ n) (h0 : b0 < 256) (h1 : b1 < 256) (h2 : b2 < 256) (h3 : b3 < 256) : wid (Lib.decodeN n b0 b1 b2 b3) = rw4 n b0 b1 b2 b3:=by
  unfold rw4;by_cases c1 : b0 < 128
  · rw [if_pos c1]
    (have e : Lib.decodeN n b0 b1 b2 b3 = (b0,1):=by unfold Lib.decodeN;rw [if_pos c1]);rw [e];unfold wid;rw [if_neg (by simp only;omega)]
  rw [if_neg c1];by_cases c2 : 194 ≤ b0 ∧ b0 < 224
  · have es : szOf b0 = 2:=by unfold szOf;rw [if_pos (by omega)]
    (have el : loOf b0 = 128:=by unfold loOf;rw [if_neg (by omega),if_neg (by omega)]);(have eh : hiOf b0 = 191:=by unfold hiOf;rw [if_neg (by omega),if_neg (by omega)]);rw [es,el,eh,if_neg (by decide),← Lib.slow_C2 n b0 b1 b2 b3 hn h1 h2 h3 c2,slow_wid _ _ _ _ _ _ _ _ (by decide) (by decide)]
  by_cases c3 : b0 = 224
  · have es : szOf b0 = 3:=by unfold szOf;rw [if_neg (by omega),if_pos (by omega)]
    (have el : loOf b0 = 160:=by unfold loOf;rw [if_pos c3]);(have eh : hiOf b0 = 191:=by unfold hiOf;rw [if_neg (by omega),if_neg (by omega)]);rw [es,el,eh,if_neg (by decide),← Lib.slow_E0 n b0 b1 b2 b3 hn h1 h2 h3 c3,slow_wid _ _ _ _ _ _ _ _ (by decide) (by decide)]
  by_cases c4 : (225 ≤ b0 ∧ b0 < 237) ∨ (238 ≤ b0 ∧ b0 < 240)
  · have es : szOf b0 = 3:=by unfold szOf;rw [if_neg (by omega),if_pos (by omega)]
    (have el : loOf b0 = 128:=by unfold loOf;rw [if_neg (by omega),if_neg (by omega)]);(have eh : hiOf b0 = 191:=by unfold hiOf;rw [if_neg (by omega),if_neg (by omega)]);rw [es,el,eh,if_neg (by decide),← Lib.slow_E1 n b0 b1 b2 b3 hn h1 h2 h3 c4,slow_wid _ _ _ _ _ _ _ _ (by decide) (by decide)]
  by_cases c5 : b0 = 237
  · have es : szOf b0 = 3:=by unfold szOf;rw [if_neg (by omega),if_pos (by omega)]
    (have el : loOf b0 = 128:=by unfold loOf;rw [if_neg (by omega),if_neg (by omega)]);(have eh : hiOf b0 = 159:=by unfold hiOf;rw [if_pos c5]);rw [es,el,eh,if_neg (by decide),← Lib.slow_ED n b0 b1 b2 b3 hn h1 h2 h3 c5,slow_wid _ _ _ _ _ _ _ _ (by decide) (by decide)]
  by_cases c6 : b0 = 240
  · have es : szOf b0 = 4:=by unfold szOf;rw [if_neg (by omega),if_neg (by omega),if_pos (by omega)]
    (have el : loOf b0 = 144:=by unfold loOf;rw [if_neg (by omega),if_pos c6]);(have eh : hiOf b0 = 191:=by unfold hiOf;rw [if_neg (by omega),if_neg (by omega)]);rw [es,el,eh,if_neg (by decide),← Lib.slow_F0 n b0 b1 b2 b3 hn h1 h2 h3 c6,slow_wid _ _ _ _ _ _ _ _ (by decide) (by decide)]
  by_cases c7 : 241 ≤ b0 ∧ b0 < 244
  · have es : szOf b0 = 4:=by unfold szOf;rw [if_neg (by omega),if_neg (by omega),if_pos (by omega)]
    (have el : loOf b0 = 128:=by unfold loOf;rw [if_neg (by omega),if_neg (by omega)]);(have eh : hiOf b0 = 191:=by unfold hiOf;rw [if_neg (by omega),if_neg (by omega)]);rw [es,el,eh,if_neg (by decide),← Lib.slow_F1 n b0 b1 b2 b3 hn h1 h2 h3 c7,slow_wid _ _ _ _ _ _ _ _ (by decide) (by decide)]
  by_cases c8 : b0 = 244
  · have es : szOf b0 = 4:=by unfold szOf;rw [if_neg (by omega),if_neg (by omega),if_pos (by omega)]
    (have el : loOf b0 = 128:=by unfold loOf;rw [if_neg (by omega),if_neg (by omega)]);(have eh : hiOf b0 = 143:=by unfold hiOf;rw [if_neg (by omega),if_pos c8]);rw [es,el,eh,if_neg (by decide),← Lib.slow_F4 n b0 b1 b2 b3 hn h1 h2 h3 c8,slow_wid _ _ _ _ _ _ _ _ (by decide) (by decide)]
  · have es : szOf b0 = 0:=by unfold szOf;rw [if_neg (by omega),if_neg (by omega),if_neg (by omega)]
    rw [es,if_pos rfl];unfold Lib.decodeN wid
    repeat' split
    all_goals first | rfl | (exfalso;omega)
theorem bt_get (s : ByteArray) (i : Nat) (h : i < s.size) : bt s (i : Int) = ((s.get! i).toNat : Int):=by
  unfold bt;rw [dif_pos (by simpa using h)]
  have : s.get! i = s[i]'h:=by
    have h2 : i < s.data.size:=h
    cases s with
    | mk a => simp [ByteArray.get!,getElem!_pos,h2];rfl
  rw [this]
  rfl
def rwAt (s : ByteArray) (i : Nat) : Nat:=rw4 (s.size - i) (s.get! i).toNat (s.get! (i + 1)).toNat (s.get! (i + 2)).toNat (s.get! (i + 3)).toNat
theorem rwAt_eq (s : ByteArray) (i : Nat) (h : i < s.size) : rwAt s i = wid (Utf8.decode s i):=by
  unfold rwAt;rw [Lib.decode_at,rw4_eq _ _ _ _ _ (by omega) (UInt8.toNat_lt _) (UInt8.toNat_lt _) (UInt8.toNat_lt _) (UInt8.toNat_lt _)]
/-- One more byte of a rune. -/
theorem l22Rune_step (s : ByteArray) (hs : s.size ≤ 1000000000) (i sz j lo hi : Nat) (r : Int) (hj : j < sz) (h4 : sz ≤ 4) (hi0 : i < s.size)
    (hbad : ¬ (i + j < s.size ∧ lo ≤ (s.get! (i + j)).toNat ∧ (s.get! (i + j)).toNat ≤ hi) → r = 0)
    (hgo : (i + j < s.size ∧ lo ≤ (s.get! (i + j)).toNat ∧ (s.get! (i + j)).toNat ≤ hi) → Ev (fun k => spec_l22Rune.l0 k s i sz 128 191 ((j + 1 : Nat) : Int)) r) : Ev (fun k => spec_l22Rune.l0 k s i sz lo hi (j : Int)) r:=by
  apply Ev.succ;(have hw : wrap64 ((i : Int) + (j : Int)) = ((i + j : Nat) : Int):=by rw [wrap64_id (by omega) (by omega)];omega);(have hw1 : wrap64 ((j : Int) + 1) = ((j + 1 : Nat) : Int):=by rw [wrap64_id (by omega) (by omega)];omega);simp only [spec_l22Rune.l0,show ((j : Int) < (sz : Int)) by omega,if_true,hw,hw1];by_cases c1 : i + j < s.size
  · refine Ev.neg (by omega) (Ev.pos (by omega) (Ev.pos (by omega) ?_))
    rw [bt_get s (i + j) c1];have hb:=UInt8.toNat_lt (s.get! (i + j));rw [wrap64_id (by omega) (by omega)];by_cases c2 : (s.get! (i + j)).toNat < lo
    · exact Ev.pos (by omega) (Ev.some (hbad (by omega)).symm)
    · refine Ev.neg (by omega) ?_
      by_cases c3 : hi < (s.get! (i + j)).toNat
      · exact Ev.pos (by omega) (Ev.some (hbad (by omega)).symm)
      · exact Ev.neg (by omega) (hgo (by omega))
  · exact Ev.pos (by omega) (Ev.some (hbad (by omega)).symm)
theorem l22Rune_end (s : ByteArray) (i sz lo hi : Nat) (j : Nat) (hj : j = sz) : Ev (fun k => spec_l22Rune.l0 k s i sz lo hi (j : Int)) (sz : Int):=by
  apply Ev.succ;subst hj;simp only [spec_l22Rune.l0,Int.lt_irrefl,if_false];exact Ev.some rfl
theorem l22Rune_l0 (s : ByteArray) (hs : s.size ≤ 1000000000) (i sz lo hi : Nat) (h2 : 2 ≤ sz) (h4 : sz ≤ 4) (hi0 : i < s.size) :
    Ev (fun k => spec_l22Rune.l0 k s i sz lo hi 1) ((if contOk (s.size - i) (s.get! (i + 1)).toNat (s.get! (i + 2)).toNat (s.get! (i + 3)).toNat sz lo hi then sz else 0 : Nat) : Int):=by
  generalize hr : (if contOk (s.size - i) (s.get! (i + 1)).toNat (s.get! (i + 2)).toNat (s.get! (i + 3)).toNat sz lo hi then sz else 0) = r;unfold contOk at hr;refine l22Rune_step s hs i sz 1 lo hi r (by omega) h4 hi0 (fun hb => ?_) (fun hg => ?_)
  · rw [← hr,if_neg (by omega)];rfl
  by_cases e2 : sz = 2
  · subst e2
    (have : r = 2:=by rw [← hr,if_pos (by omega)]);subst this;exact l22Rune_end s i 2 128 191 2 rfl
  refine l22Rune_step s hs i sz 2 128 191 r (by omega) h4 hi0 (fun hb => ?_) (fun hg2 => ?_)
  · rw [← hr,if_neg (by omega)];rfl
  by_cases e3 : sz = 3
  · subst e3
    (have : r = 3:=by rw [← hr,if_pos (by omega)]);subst this;exact l22Rune_end s i 3 128 191 3 rfl
  refine l22Rune_step s hs i sz 3 128 191 r (by omega) h4 hi0 (fun hb => ?_) (fun hg3 => ?_)
  · rw [← hr,if_neg (by omega)];rfl
  (have e4 : sz = 4:=by omega);subst e4;(have : r = 4:=by rw [← hr,if_pos (by omega)]);subst this;exact l22Rune_end s i 4 128 191 4 rfl
theorem l22Rune_ev (s : ByteArray) (hs : s.size ≤ 1000000000) (i : Nat) (h : i < s.size) : Ev (fun k => spec_l22Rune.f k s i) ((rwAt s i : Nat) : Int):=by
  unfold spec_l22Rune.f;refine Ev.pos (by omega) (Ev.pos (by omega) ?_);have hb:=UInt8.toNat_lt (s.get! i);rw [bt_get s i h,wrap64_id (x:=((s.get! i).toNat : Int)) (by omega) (by omega)];unfold rwAt rw4;generalize hb0 : (s.get! i).toNat = b at hb;by_cases c1 : b < 128
  · rw [if_pos c1]
    exact Ev.pos (by omega) (Ev.some rfl)
  rw [if_neg c1];refine Ev.neg (by omega) ?_
  have key (sz lo hi : Nat) (h2 : 2 ≤ sz) (h4 : sz ≤ 4) : Ev (fun k => spec_l22Rune.j3 k s i sz lo hi) ((if contOk (s.size - i) (s.get! (i + 1)).toNat (s.get! (i + 2)).toNat (s.get! (i + 3)).toNat sz lo hi then sz else 0 : Nat) : Int):=by
    apply Ev.succ;simp only [spec_l22Rune.j3];exact l22Rune_l0 s hs i sz lo hi h2 h4 h
  by_cases c2 : 194 ≤ b ∧ b ≤ 223
  · have es : szOf b = 2:=by unfold szOf;rw [if_pos (by omega)]
    (have el : loOf b = 128:=by unfold loOf;rw [if_neg (by omega),if_neg (by omega)]);(have eh : hiOf b = 191:=by unfold hiOf;rw [if_neg (by omega),if_neg (by omega)]);rw [es,el,eh,if_neg (by decide)];refine Ev.pos (by omega) ?_;apply Ev.succ;simp only [spec_l22Rune.j0];exact Ev.pos (by simp;omega) (key 2 128 191 (by decide) (by decide))
  · have hj0 : ∀ x : Bool,x = false → Ev (fun k => spec_l22Rune.j0 k s i (b : Int) 128 191 x) (((if szOf b = 0 then 0 else if contOk (s.size - i) (s.get! (i + 1)).toNat (s.get! (i + 2)).toNat (s.get! (i + 3)).toNat (szOf b) (loOf b) (hiOf b) then szOf b else 0) : Nat) : Int):=by
      intro x hx;subst hx;apply Ev.succ;simp only [spec_l22Rune.j0,Bool.false_eq_true,if_false];by_cases c3 : 224 ≤ b ∧ b ≤ 239
      · refine Ev.pos (by omega) ?_
        apply Ev.succ;simp only [spec_l22Rune.j1];refine Ev.pos (by simp;omega) ?_;(have es : szOf b = 3:=by unfold szOf;rw [if_neg (by omega),if_pos (by omega)]);rw [es,if_neg (by decide)];by_cases c4 : b = 224
        · have el : loOf b = 160:=by unfold loOf;rw [if_pos c4]
          (have eh : hiOf b = 191:=by unfold hiOf;rw [if_neg (by omega),if_neg (by omega)]);rw [el,eh];exact Ev.pos (by omega) (Ev.neg (by omega) (key 3 160 191 (by decide) (by decide)))
        · have el : loOf b = 128:=by unfold loOf;rw [if_neg (by omega),if_neg (by omega)]
          rw [el];refine Ev.neg (by omega) ?_;by_cases c5 : b = 237
          · have eh : hiOf b = 159:=by unfold hiOf;rw [if_pos c5]
            rw [eh];exact Ev.pos (by omega) (key 3 128 159 (by decide) (by decide))
          · have eh : hiOf b = 191:=by unfold hiOf;rw [if_neg (by omega),if_neg (by omega)]
            rw [eh];exact Ev.neg (by omega) (key 3 128 191 (by decide) (by decide))
      · have hj1 : ∀ y : Bool,y = false → Ev (fun k => spec_l22Rune.j1 k s i (b : Int) 128 191 y) (((if szOf b = 0 then 0 else if contOk (s.size - i) (s.get! (i + 1)).toNat (s.get! (i + 2)).toNat (s.get! (i + 3)).toNat (szOf b) (loOf b) (hiOf b) then szOf b else 0) : Nat) : Int):=by
          intro y hy;subst hy;apply Ev.succ;simp only [spec_l22Rune.j1,Bool.false_eq_true,if_false];by_cases c6 : 240 ≤ b ∧ b ≤ 244
          · refine Ev.pos (by omega) ?_
            apply Ev.succ;simp only [spec_l22Rune.j2];refine Ev.pos (by simp;omega) ?_;(have es : szOf b = 4:=by unfold szOf;rw [if_neg (by omega),if_neg (by omega),if_pos (by omega)]);rw [es,if_neg (by decide)];by_cases c7 : b = 240
            · have el : loOf b = 144:=by unfold loOf;rw [if_neg (by omega),if_pos c7]
              (have eh : hiOf b = 191:=by unfold hiOf;rw [if_neg (by omega),if_neg (by omega)]);rw [el,eh];exact Ev.pos (by omega) (Ev.neg (by omega) (key 4 144 191 (by decide) (by decide)))
            · have el : loOf b = 128:=by unfold loOf;rw [if_neg (by omega),if_neg (by omega)]
              rw [el];refine Ev.neg (by omega) ?_;by_cases c8 : b = 244
              · have eh : hiOf b = 143:=by unfold hiOf;rw [if_neg (by omega),if_pos c8]
                rw [eh];exact Ev.pos (by omega) (key 4 128 143 (by decide) (by decide))
              · have eh : hiOf b = 191:=by unfold hiOf;rw [if_neg (by omega),if_neg (by omega)]
                rw [eh];exact Ev.neg (by omega) (key 4 128 191 (by decide) (by decide))
          · have es : szOf b = 0:=by unfold szOf;rw [if_neg (by omega),if_neg (by omega),if_neg (by omega)]
            rw [es,if_pos rfl]
            have hj2 : ∀ z : Bool,z = false → Ev (fun k => spec_l22Rune.j2 k s i (b : Int) 128 191 z) ((0 : Nat) : Int):=by
              intro z hz;subst hz;apply Ev.succ;simp only [spec_l22Rune.j2,Bool.false_eq_true,if_false];exact Ev.some rfl
            exact Ev.ite (fun _ => hj2 _ (decide_eq_false (by omega))) (fun _ => hj2 _ rfl)
        exact Ev.ite (fun _ => hj1 _ (decide_eq_false (by omega))) (fun _ => hj1 _ rfl)
    exact Ev.ite (fun _ => hj0 _ (decide_eq_false (by omega))) (fun _ => hj0 _ rfl)
theorem decode_small (s : ByteArray) (i : Nat) (h : (s.get! i).toNat < 128) : Utf8.decode s i = ((s.get! i).toNat,1):=by
  rw [Lib.decode_at];unfold Lib.decodeN;rw [if_pos h]
theorem decode_great (s : ByteArray) (i : Nat) (h : ¬ (s.get! i).toNat < 128) : 128 ≤ (Utf8.decode s i).1 ∧ ((Utf8.decode s i).2 = 1 → (Utf8.decode s i).1 = 65533):=by
  rw [Lib.decode_at];generalize (s.get! i).toNat = b0 at h;generalize (s.get! (i + 1)).toNat = b1;generalize (s.get! (i + 2)).toNat = b2;generalize (s.get! (i + 3)).toNat = b3;unfold Lib.decodeN;rw [if_neg h]
  repeat' split
  all_goals (refine ⟨?_,fun h => ?_⟩ <;> simp only at * <;> omega)
theorem decode_w (s : ByteArray) (i : Nat) : 1 ≤ (Utf8.decode s i).2 ∧ (Utf8.decode s i).2 ≤ 4:=by
  rw [Lib.decode_at];generalize (s.get! i).toNat = b0;generalize (s.get! (i + 1)).toNat = b1;generalize (s.get! (i + 2)).toNat = b2;generalize (s.get! (i + 3)).toNat = b3;unfold Lib.decodeN
  repeat' split
  all_goals simp
theorem letter_eq (b : Int) : spec_l22Letter.f b = some (decide ((97 ≤ b ∧ b ≤ 122) ∨ (65 ≤ b ∧ b ≤ 90))):=by
  unfold spec_l22Letter.f;by_cases h1 : b ≥ 97
  · rw [if_pos h1]
    by_cases h2 : b ≤ 122
    · rw [if_pos h2,decide_eq_true (Or.inl ⟨h1,h2⟩)]
    · rw [if_neg h2,if_pos (by omega)]
      congr 1
      rw [Bool.eq_iff_iff];simp only [decide_eq_true_eq]
      omega
  · rw [if_neg h1]
    by_cases h3 : b ≥ 65
    · rw [if_pos h3]
      congr 1
      rw [Bool.eq_iff_iff];simp only [decide_eq_true_eq]
      omega
    · rw [if_neg h3,decide_eq_false (by omega)]
/-- What the reference's reading of a token tells. -/
def oddR (o : Int) (n : Int) : Int × Int:=if o < 0 then (-1,n) else (o,0)
theorem l22Odd_l0 (s : ByteArray) (hs : s.size ≤ 1000000000) (f : Nat) : ∀ (i x : Nat),s.size - i ≤ f → i ≤ s.size + 4 → x ≤ i →
    Ev (fun k => spec_l22Odd.l0 k s (x : Int) (i : Int)) (oddR (oddFrom s f i) ((x + Lib.runeCountFrom s f i : Nat) : Int)):=by
  induction f with
  | zero =>
    intro i x hf hi hx;apply Ev.succ;simp only [spec_l22Odd.l0,show ¬ ((i : Int) < (s.size : Int)) by omega,if_false];exact Ev.some rfl
  | succ f ih =>
    intro i x hf hi hx;apply Ev.succ;simp only [spec_l22Odd.l0,oddFrom,Lib.runeCountFrom];by_cases h : i < s.size
    · rw [if_pos h,if_pos h]
      refine Ev.pos (by omega) (Ev.bnd (l22Rune_ev s hs i h) ?_);rw [rwAt_eq s i h];have hw:=decode_w s i;by_cases c : (s.get! i).toNat < 128
      · have hd:=decode_small s i c
        rw [hd];(have e1 : wid ((s.get! i).toNat,1) = 1:=by unfold wid;exact if_neg (fun h => by have:=h.1;simp only at this;omega));rw [e1];refine Ev.neg (by decide) (Ev.pos rfl (Ev.pos (by omega) ?_));rw [bt_get s i h];refine Ev.bnd0 (letter_eq _) ?_;by_cases c2 : (97 ≤ (s.get! i).toNat ∧ (s.get! i).toNat ≤ 122) ∨ (65 ≤ (s.get! i).toNat ∧ (s.get! i).toNat ≤ 90)
        · have e2 : badRune ((s.get! i).toNat,1) = false:=decide_eq_false (fun h => by simp only at h;omega)
          rw [e2,if_neg (by decide)];refine Ev.pos (decide_eq_true (by omega)) ?_;rw [show wrap64 ((x : Int) + 1) = ((x + 1 : Nat) : Int) by rw [wrap64_id (by omega) (by omega)];omega,show wrap64 ((i : Int) + ((1 : Nat) : Int)) = ((i + 1 : Nat) : Int) by rw [wrap64_id (by omega) (by omega)];omega];refine Ev.eq (ih (i + 1) (x + 1) (by omega) (by omega) (by omega)) ?_;rw [Nat.add_assoc]
        · have e2 : badRune ((s.get! i).toNat,1) = true:=decide_eq_true (Or.inr ⟨c,c2⟩)
          rw [e2,if_pos rfl];refine Ev.neg (fun h => c2 (by have:=of_decide_eq_true h;omega)) (Ev.some ?_);unfold oddR;rw [if_neg (by omega)]
      · obtain ⟨g1,g2⟩:=decode_great s i c
        by_cases c2 : (Utf8.decode s i).1 = 65533 ∧ (Utf8.decode s i).2 = 1
        · have e1 : wid (Utf8.decode s i) = 0:=if_pos c2
          have e2 : badRune (Utf8.decode s i) = true:=decide_eq_true (Or.inl c2);rw [e1,e2,if_pos rfl];refine Ev.pos rfl (Ev.some ?_);unfold oddR;rw [if_neg (by omega)]
        · have e1 : wid (Utf8.decode s i) = (Utf8.decode s i).2:=if_neg c2
          have e2 : badRune (Utf8.decode s i) = false:=decide_eq_false (fun h => h.elim c2 (fun h => by omega));(have e3 : (Utf8.decode s i).2 ≠ 1:=fun h => c2 ⟨g2 h,h⟩);rw [e1,e2,if_neg (by decide)];refine Ev.neg (by omega) (Ev.neg (by omega) ?_);rw [show wrap64 ((x : Int) + 1) = ((x + 1 : Nat) : Int) by rw [wrap64_id (by omega) (by omega)];omega,show wrap64 ((i : Int) + (((Utf8.decode s i).2 : Nat) : Int)) = ((i + (Utf8.decode s i).2 : Nat) : Int) by rw [wrap64_id (by omega) (by omega)];omega];refine Ev.eq (ih (i + (Utf8.decode s i).2) (x + 1) (by omega) (by omega) (by omega)) ?_;rw [Nat.add_assoc]
    · rw [if_neg h,if_neg h]
      exact Ev.neg (by omega) (Ev.some (by simp [oddR]))
theorem l22Odd_ev (s : ByteArray) (hs : s.size ≤ 1000000000) : Ev (fun k => spec_l22Odd.f k s) (oddR (oddOf s) (Lib.runeCount s : Int)):=by
  unfold spec_l22Odd.f;have:=l22Odd_l0 s hs s.size 0 0 (by omega) (by omega) (by omega)
  simpa [oddOf,Lib.runeCount] using this
/-- A name. -/
def NameOk (s : ByteArray) : Prop:=1 ≤ Lib.runeCount s ∧ Lib.runeCount s ≤ 12 ∧ oddOf s < 0
instance (s : ByteArray) : Decidable (NameOk s):=by unfold NameOk;infer_instance
theorem goodName_eq (s : ByteArray) (hs : s.size ≤ 1000000000) : impl_goodName.f s = some (decide (NameOk s)):=by
  unfold impl_goodName.f;rw [if_pos (by omega)]
  rfl
theorem l22Name_ev (s : ByteArray) (hs : s.size ≤ 1000000000) : Ev (fun k => spec_l22Name.f k s) (decide (NameOk s)):=by
  unfold spec_l22Name.f;refine Ev.bnd (l22Odd_ev s hs) ?_;unfold oddR;by_cases h : oddOf s < 0
  · rw [if_pos h]
    refine Ev.pos (by show (-1 : Int) < 0;decide) ?_;by_cases h1 : 1 ≤ Lib.runeCount s
    · refine Ev.pos (by simp only;omega) (Ev.some ?_)
      rw [Bool.eq_iff_iff];simp only [decide_eq_true_eq];unfold NameOk
      omega
    · refine Ev.neg (by simp only;omega) (Ev.some ?_)
      rw [decide_eq_false];(exact fun h2 => h1 h2.1)
  · rw [if_neg h]
    refine Ev.neg (by simp only;omega) (Ev.some ?_);rw [decide_eq_false];(exact fun h2 => h h2.2.2)
end Go.Proofs.YtdihodboopeakaaDoor.Pure
/-
Own text: what the laws' own helpers on []string and []bool come to: a copy,a comparison,a size.
-/
namespace Go.Proofs.YtdihodboopeakaaDoor.Pure
open Go.RowKit Go.Proofs.YtdihodboopeakaaDoorW.PrintWords Go.Proofs.YtdihodboopeakaaDoorW.PrintLast Go.Proofs.YtdihodboopeakaaDoor.Pr Go.Proofs.YtdihodboopeakaaDoor.EvKit

end Go.Proofs.YtdihodboopeakaaDoor.Pure
/-
Own text: what many of the pure proofs use: 'for all from i on',counters,'between',the copy and the comparison of slices of bytes.
-/
namespace Go.Proofs.YtdihodboopeakaaDoor.Pure
open Go.RowKit Go.Proofs.YtdihodboopeakaaDoorW.PrintWords Go.Proofs.YtdihodboopeakaaDoor.EvKit

def From (n i : Nat) (C : Nat → Prop) : Prop:=∀ j,i ≤ j → j < n → C j
theorem From.end_ {n i : Nat} {C : Nat → Prop} (h : n ≤ i) : From n i C:=fun j h1 h2 => by omega
theorem From.step {n i : Nat} {C : Nat → Prop} (h : i < n) : From n i C ↔ C i ∧ From n (i + 1) C:=by
  constructor
  · exact fun a => ⟨a i (Nat.le_refl i) h,fun j h1 h2 => a j (by omega) h2⟩
  · rintro ⟨a,b⟩ j h1 h2
    by_cases e : j = i
    · exact e ▸ a
    · exact b j (by omega) h2
/-- One of those from i on, below n. -/
def Some_ (n i : Nat) (C : Nat → Prop) : Prop:=∃ j,i ≤ j ∧ j < n ∧ C j
theorem Some_.end_ {n i : Nat} {C : Nat → Prop} (h : n ≤ i) : ¬ Some_ n i C:=by
  rintro ⟨j,h1,h2,_⟩
  omega
theorem Some_.step {n i : Nat} {C : Nat → Prop} (h : i < n) : Some_ n i C ↔ C i ∨ Some_ n (i + 1) C:=by
  constructor
  · rintro ⟨j,h1,h2,h3⟩
    by_cases e : j = i
    · exact Or.inl (e ▸ h3)
    · exact Or.inr ⟨j,by omega,h2,h3⟩
  · rintro (a | ⟨j,h1,h2,h3⟩)
    · exact ⟨i,Nat.le_refl i,h,a⟩
    · exact ⟨j,by omega,h2,h3⟩
end Go.Proofs.YtdihodboopeakaaDoor.Pure
/-
Own text: what the laws' own helpers on []int come to: a copy,a comparison.
-/
namespace Go.Proofs.YtdihodboopeakaaDoor.Pure
open Go.RowKit Go.Proofs.YtdihodboopeakaaDoorW.PrintWords Go.Proofs.YtdihodboopeakaaDoorW.PrintLast Go.Proofs.YtdihodboopeakaaDoor.Pr Go.Proofs.YtdihodboopeakaaDoor.EvKit

end Go.Proofs.YtdihodboopeakaaDoor.Pure
/-
Own text: what the laws' own helpers on [][]int come to: their size,a copy,a comparison.
-/
namespace Go.Proofs.YtdihodboopeakaaDoor.Pure
open Go.RowKit Go.Proofs.YtdihodboopeakaaDoorW.PrintWords Go.Proofs.YtdihodboopeakaaDoorW.PrintLast Go.Proofs.YtdihodboopeakaaDoor.Pr Go.Proofs.YtdihodboopeakaaDoor.EvKit

end Go.Proofs.YtdihodboopeakaaDoor.Pure
/-
Own text: what a good board is,to the program and to the reference.
-/
namespace Go.Proofs.YtdihodboopeakaaDoor.Pure
open Go.RowKit Go.Proofs.YtdihodboopeakaaDoorW.PrintWords Go.Proofs.YtdihodboopeakaaDoorW.PrintLast Go.Proofs.YtdihodboopeakaaDoor.Pr Go.Proofs.YtdihodboopeakaaDoor.EvKit
open Classical

/-- A row of next places from k on: rising, each a place. -/
def RowOk (n : Nat) (row : List Int) (k : Nat) : Prop:=From row.length k fun j => (0 ≤ row.getD j 0 ∧ row.getD j 0 < n) ∧ (0 < j → row.getD (j - 1) 0 < row.getD j 0)
/-- The places from i on. -/
def BoardOk (names : List ByteArray) (next : List (List Int)) (i : Nat) : Prop:=From names.length i fun j => ((names.getD j ByteArray.empty).toList = [] ∨ NameOk (names.getD j ByteArray.empty)) ∧ RowOk names.length (next.getD j []) 0
def Good (names : List ByteArray) (mine : List Bool) (next : List (List Int)) : Prop:=(1 ≤ names.length ∧ names.length ≤ 14) ∧ (mine.length = names.length ∧ next.length = names.length) ∧ BoardOk names next 0
theorem RowOk.len {n : Nat} {row : List Int} (h : RowOk n row 0) : row.length ≤ n:=by
  have key : ∀ j,j < row.length → (j : Int) ≤ row.getD j 0:=by
    intro j
    induction j with
    | zero => intro hj;exact (h 0 (Nat.le_refl _) hj).1.1
    | succ j ih =>
      intro hj;have h1:=ih (by omega);have h2:=(h (j + 1) (by omega) hj).2 (by omega);simp only [Nat.add_sub_cancel] at h2
      omega
  rcases Nat.eq_zero_or_pos row.length with e | e
  · omega
  · have h1:=key (row.length - 1) (by omega)
    have h2:=(h (row.length - 1) (by omega) (by omega)).1.2
    omega
theorem rd_get (l : List Int) (j : Nat) : rd l (j : Int) = l.getD j 0:=rfl
section
variable (names : List ByteArray) (mine : List Bool) (next : List (List Int)) (hn : names.length ≤ 14) (hx : next.length = names.length) (hs : ∀ x ∈ names,x.size ≤ 1048576) (hr : ∀ x ∈ next,x.length ≤ 1048576)
include hn hx hr
theorem specRow (i : Nat) (hi : i < names.length) (r : Bool) (d : Nat) : ∀ k : Nat,k + d = (next.getD i []).length →
    (RowOk names.length (next.getD i []) k → Ev (fun q => spec_GoodBoard.l0 q names.length names names.length ((i + 1 : Nat) : Int) names mine next) r) → (¬ RowOk names.length (next.getD i []) k → r = false) →
    Ev (fun q => spec_GoodBoard.l1 q names.length i names names.length i (next.getD i []) (next.getD i []).length k names mine next) r:=by
  have hlen : (next.getD i []).length ≤ 1048576:=hr _ (getD_mem next i [] (by omega))
  induction d with
  | zero =>
    intro k hk h1 h2;apply Ev.succ;simp only [spec_GoodBoard.l1,show ¬ ((k : Int) < ((next.getD i []).length : Int)) by omega,if_false];rw [show wrap64 ((i : Int) + 1) = ((i + 1 : Nat) : Int) by rw [wrap64_id (by omega) (by omega)];omega];exact h1 (From.end_ (by omega))
  | succ d ih =>
    intro k hk h1 h2;apply Ev.succ;simp only [spec_GoodBoard.l1,show ((k : Int) < ((next.getD i []).length : Int)) by omega,show (0 : Int) ≤ (k : Int) by omega,if_true,rd_get];have hstep:=From.step (C:=fun j => (0 ≤ (next.getD i []).getD j 0 ∧ (next.getD i []).getD j 0 < names.length) ∧ (0 < j → (next.getD i []).getD (j - 1) 0 < (next.getD i []).getD j 0)) (n:=(next.getD i []).length) (i:=k) (by omega);have e3 : rd_L3 next (i : Int) = next.getD i []:=rfl;by_cases c1 : (next.getD i []).getD k 0 < 0
    · exact Ev.pos c1 (Ev.some (h2 (fun h => by have:=(hstep.1 h).1.1.1;omega)).symm)
    refine Ev.neg c1 ?_;by_cases c2 : (next.getD i []).getD k 0 ≥ (names.length : Int)
    · exact Ev.pos c2 (Ev.some (h2 (fun h => by have:=(hstep.1 h).1.1.2;omega)).symm)
    refine Ev.neg c2 ?_;(have hw : wrap64 ((k : Int) + 1) = ((k + 1 : Nat) : Int):=by rw [wrap64_id (by omega) (by omega)];omega);by_cases c3 : 0 < k
    · refine Ev.pos (by omega) (Ev.pos (by omega) (Ev.pos (by omega) ?_))
      (have hw1 : wrap64 ((k : Int) - 1) = ((k - 1 : Nat) : Int):=by rw [wrap64_id (by omega) (by omega)];omega);rw [hw1,hw,e3];refine Ev.pos (by omega) (Ev.pos (by omega) ?_);rw [rd_get];by_cases c4 : (next.getD i []).getD (k - 1) 0 ≥ (next.getD i []).getD k 0
      · exact Ev.pos c4 (Ev.some (h2 (fun h => by have:=(hstep.1 h).1.2 c3;omega)).symm)
      · refine Ev.neg c4 (ih (k + 1) (by omega) (fun h => h1 (hstep.2 ⟨⟨⟨by omega,by omega⟩,fun _ => by omega⟩,h⟩)) (fun h => h2 (fun h' => h (hstep.1 h').2)))
    · rw [hw]
      refine Ev.neg (by omega) (ih (k + 1) (by omega) (fun h => h1 (hstep.2 ⟨⟨⟨by omega,by omega⟩,fun h0 => absurd h0 c3⟩,h⟩)) (fun h => h2 (fun h' => h (hstep.1 h').2)))
theorem implRow (i : Nat) (hi : i < names.length) (r : Bool) (d : Nat) : ∀ k : Nat,k + d = (next.getD i []).length →
    (RowOk names.length (next.getD i []) k → Ev (fun q => impl_GoodBoard.l0 q names.length names names.length ((i + 1 : Nat) : Int) names mine next) r) → (¬ RowOk names.length (next.getD i []) k → r = false) →
    Ev (fun q => impl_GoodBoard.l1 q names.length i names names.length i (next.getD i []) (next.getD i []).length k names mine next) r:=by
  have hlen : (next.getD i []).length ≤ 1048576:=hr _ (getD_mem next i [] (by omega))
  induction d with
  | zero =>
    intro k hk h1 h2;apply Ev.succ;simp only [impl_GoodBoard.l1,show ¬ ((k : Int) < ((next.getD i []).length : Int)) by omega,if_false];rw [show wrap64 ((i : Int) + 1) = ((i + 1 : Nat) : Int) by rw [wrap64_id (by omega) (by omega)];omega];exact h1 (From.end_ (by omega))
  | succ d ih =>
    intro k hk h1 h2;apply Ev.succ;simp only [impl_GoodBoard.l1,show ((k : Int) < ((next.getD i []).length : Int)) by omega,show (0 : Int) ≤ (k : Int) by omega,if_true,rd_get];have hstep:=From.step (C:=fun j => (0 ≤ (next.getD i []).getD j 0 ∧ (next.getD i []).getD j 0 < names.length) ∧ (0 < j → (next.getD i []).getD (j - 1) 0 < (next.getD i []).getD j 0)) (n:=(next.getD i []).length) (i:=k) (by omega);have e3 : rd_L3 next (i : Int) = next.getD i []:=rfl;by_cases c1 : (next.getD i []).getD k 0 < 0
    · exact Ev.pos c1 (Ev.some (h2 (fun h => by have:=(hstep.1 h).1.1.1;omega)).symm)
    refine Ev.neg c1 ?_;by_cases c2 : (next.getD i []).getD k 0 ≥ (names.length : Int)
    · exact Ev.pos c2 (Ev.some (h2 (fun h => by have:=(hstep.1 h).1.1.2;omega)).symm)
    refine Ev.neg c2 ?_;(have hw : wrap64 ((k : Int) + 1) = ((k + 1 : Nat) : Int):=by rw [wrap64_id (by omega) (by omega)];omega);by_cases c3 : 0 < k
    · refine Ev.pos (by omega) (Ev.pos (by omega) (Ev.pos (by omega) ?_))
      (have hw1 : wrap64 ((k : Int) - 1) = ((k - 1 : Nat) : Int):=by rw [wrap64_id (by omega) (by omega)];omega);rw [hw1,hw,e3];refine Ev.pos (by omega) (Ev.pos (by omega) ?_);rw [rd_get];by_cases c4 : (next.getD i []).getD k 0 ≤ (next.getD i []).getD (k - 1) 0
      · exact Ev.pos c4 (Ev.some (h2 (fun h => by have:=(hstep.1 h).1.2 c3;omega)).symm)
      · refine Ev.neg c4 (ih (k + 1) (by omega) (fun h => h1 (hstep.2 ⟨⟨⟨by omega,by omega⟩,fun _ => by omega⟩,h⟩)) (fun h => h2 (fun h' => h (hstep.1 h').2)))
    · rw [hw]
      refine Ev.neg (by omega) (ih (k + 1) (by omega) (fun h => h1 (hstep.2 ⟨⟨⟨by omega,by omega⟩,fun h0 => absurd h0 c3⟩,h⟩)) (fun h => h2 (fun h' => h (hstep.1 h').2)))
include hs
theorem board_l0 (d : Nat) : ∀ i : Nat,i + d = names.length →
    Ev (fun q => spec_GoodBoard.l0 q names.length names names.length i names mine next) (decide (BoardOk names next i)) ∧ Ev (fun q => impl_GoodBoard.l0 q names.length names names.length i names mine next) (decide (BoardOk names next i)):=by
  induction d with
  | zero =>
    intro i hi;have e : decide (BoardOk names next i) = true:=decide_eq_true (From.end_ (by omega));rw [e]
    constructor <;> apply Ev.succ
    · simp only [spec_GoodBoard.l0,show ¬ ((i : Int) < (names.length : Int)) by omega,if_false]
      exact Ev.some rfl
    · simp only [impl_GoodBoard.l0,show ¬ ((i : Int) < (names.length : Int)) by omega,if_false]
      exact Ev.some rfl
  | succ d ih =>
    intro i hi;obtain ⟨ih1,ih2⟩:=ih (i + 1) (by omega);have hsz : (names.getD i ByteArray.empty).size ≤ 1000000000:=Nat.le_trans (hs _ (getD_mem names i _ (by omega))) (by decide);have e0 : rdOf ByteArray.empty names (i : Int) = names.getD i ByteArray.empty:=rfl;have e3 : rd_L3 next (i : Int) = next.getD i []:=rfl;have hstep:=From.step (C:=fun j => ((names.getD j ByteArray.empty).toList = [] ∨ NameOk (names.getD j ByteArray.empty)) ∧ RowOk names.length (next.getD j []) 0) (n:=names.length) (i:=i) (by omega);(have hT : RowOk names.length (next.getD i []) 0 → ((names.getD i ByteArray.empty).toList = [] ∨ NameOk (names.getD i ByteArray.empty)) → decide (BoardOk names next (i + 1)) = decide (BoardOk names next i):=fun a b => decide_eq_decide.2 ⟨fun h => hstep.2 ⟨⟨b,a⟩,h⟩,fun h => (hstep.1 h).2⟩);(have hF : ¬ RowOk names.length (next.getD i []) 0 → decide (BoardOk names next i) = false:=fun a => decide_eq_false (fun h => a (hstep.1 h).1.2));(have hF2 : ¬ ((names.getD i ByteArray.empty).toList = [] ∨ NameOk (names.getD i ByteArray.empty)) → decide (BoardOk names next i) = false:=fun a => decide_eq_false (fun h => a (hstep.1 h).1.1))
    have hs2 : ((names.getD i ByteArray.empty).toList = [] ∨ NameOk (names.getD i ByteArray.empty)) → Ev (fun q => spec_GoodBoard.j2 q names.length i names names.length i false names mine next) (decide (BoardOk names next i)):=fun b => by
      apply Ev.succ;simp only [spec_GoodBoard.j2,Bool.false_eq_true,if_false];refine Ev.pos (by omega) (Ev.pos (by omega) ?_);rw [e3];exact specRow names mine next hn hx hr i (by omega) _ (next.getD i []).length 0 (by omega) (fun a => by rw [← hT a b];exact ih1) hF
    have hi2 : ((names.getD i ByteArray.empty).toList = [] ∨ NameOk (names.getD i ByteArray.empty)) → Ev (fun q => impl_GoodBoard.j2 q names.length i names names.length i (decide (((next.getD i []).length : Int) > 14)) names mine next) (decide (BoardOk names next i)):=fun b => by
      apply Ev.succ;simp only [impl_GoodBoard.j2];by_cases c : ((next.getD i []).length : Int) > 14
      · refine Ev.pos (decide_eq_true c) (Ev.some (hF (fun a => by have:=a.len;omega)).symm)
      · refine Ev.neg (by simpa using c) (Ev.pos (by omega) (Ev.pos (by omega) ?_))
        rw [e3];exact implRow names mine next hn hx hr i (by omega) _ (next.getD i []).length 0 (by omega) (fun a => by rw [← hT a b];exact ih2) hF
    constructor <;> apply Ev.succ
    · simp only [spec_GoodBoard.l0,show ((i : Int) < (names.length : Int)) by omega,show (0 : Int) ≤ (i : Int) by omega,if_true,e0]
      by_cases c : (names.getD i ByteArray.empty).toList = []
      · exact Ev.pos c (hs2 (Or.inl c))
      · refine Ev.neg c (Ev.bnd (l22Name_ev _ hsz) ?_)
        by_cases c2 : NameOk (names.getD i ByteArray.empty)
        · rw [decide_eq_true c2]
          exact hs2 (Or.inr c2)
        · rw [decide_eq_false c2]
          apply Ev.succ;simp only [spec_GoodBoard.j2,Bool.not_false,if_true];exact Ev.some (hF2 (fun h => h.elim c c2)).symm
    · simp only [impl_GoodBoard.l0,show ((i : Int) < (names.length : Int)) by omega,show (0 : Int) ≤ (i : Int) by omega,if_true,e0,e3,show ((i : Int) < (next.length : Int)) by omega]
      by_cases c : (names.getD i ByteArray.empty).toList = []
      · exact Ev.pos c (hi2 (Or.inl c))
      · refine Ev.neg c (Ev.bnd0 (goodName_eq _ hsz) ?_)
        by_cases c2 : NameOk (names.getD i ByteArray.empty)
        · exact Ev.pos (decide_eq_true c2) (hi2 (Or.inr c2))
        · refine Ev.neg (by simpa using c2) ?_
          apply Ev.succ;simp only [impl_GoodBoard.j2,if_true];exact Ev.some (hF2 (fun h => h.elim c c2)).symm
end
theorem goodBoard_both (names : List ByteArray) (mine : List Bool) (next : List (List Int)) (hs : ∀ x ∈ names,x.size ≤ 1048576) (hr : ∀ x ∈ next,x.length ≤ 1048576) :
    Ev (fun q => spec_GoodBoard.f q names mine next) (decide (Good names mine next)) ∧ Ev (fun q => impl_GoodBoard.f q names mine next) (decide (Good names mine next)):=by
  have js (x : Bool) (hx : x = true) (hg : ¬ Good names mine next) : Ev (fun q => spec_GoodBoard.j0 q names.length x names mine next) (decide (Good names mine next)):=by
    subst hx;apply Ev.succ;simp only [spec_GoodBoard.j0,if_true];exact Ev.some (decide_eq_false hg).symm
  have ji (x : Bool) (hx : x = true) (hg : ¬ Good names mine next) : Ev (fun q => impl_GoodBoard.j0 q names.length x names mine next) (decide (Good names mine next)):=by
    subst hx;apply Ev.succ;simp only [impl_GoodBoard.j0,if_true];exact Ev.some (decide_eq_false hg).symm
  unfold spec_GoodBoard.f impl_GoodBoard.f;by_cases c1 : names.length < 1
  · have hg : ¬ Good names mine next:=fun h => by have:=h.1.1;omega
    exact ⟨Ev.pos (by omega) (js _ rfl hg),Ev.pos (by omega) (ji _ rfl hg)⟩
  by_cases c2 : names.length > 14
  · have hg : ¬ Good names mine next:=fun h => by have:=h.1.2;omega
    exact ⟨Ev.neg (by omega) (Ev.pos (by omega) (js _ rfl hg)),Ev.neg (by omega) (Ev.pos (by omega) (ji _ rfl hg))⟩
  by_cases c3 : mine.length = names.length
  · by_cases c4 : next.length = names.length
    · have e : ((next.length : Int) != (names.length : Int)) = false:=by rw [bne_eq_false_iff_eq];omega
      obtain ⟨a,b⟩:=board_l0 names mine next (by omega) c4 hs hr names.length 0 (by omega);have ed : decide (BoardOk names next 0) = decide (Good names mine next):=decide_eq_decide.2 ⟨fun h => ⟨⟨by omega,by omega⟩,⟨c3,c4⟩,h⟩,fun h => h.2.2⟩;rw [ed] at a b;refine ⟨Ev.neg (by omega) (Ev.neg (by omega) (Ev.pos (by omega) ?_)),Ev.neg (by omega) (Ev.neg (by omega) (Ev.pos (by omega) ?_))⟩
      · rw [e]
        apply Ev.succ;simp only [spec_GoodBoard.j0,Bool.false_eq_true,if_false];exact a
      · rw [e]
        apply Ev.succ;simp only [impl_GoodBoard.j0,Bool.false_eq_true,if_false];exact b
    · have e : ((next.length : Int) != (names.length : Int)) = true:=by rw [bne_iff_ne];omega
      (have hg : ¬ Good names mine next:=fun h => c4 h.2.1.2);exact ⟨Ev.neg (by omega) (Ev.neg (by omega) (Ev.pos (by omega) (js _ e hg))),Ev.neg (by omega) (Ev.neg (by omega) (Ev.pos (by omega) (ji _ e hg)))⟩
  · have hg : ¬ Good names mine next:=fun h => c3 h.2.1.1
    exact ⟨Ev.neg (by omega) (Ev.neg (by omega) (Ev.neg (by omega) (js _ rfl hg))),Ev.neg (by omega) (Ev.neg (by omega) (Ev.neg (by omega) (ji _ rfl hg)))⟩

/-! The law's helpers on a board -/
/-- A board whose size is held. -/
structure Small (names : List ByteArray) (mine : List Bool) (next : List (List Int)) : Prop where
  n1 : names.length ≤ 1048576
  n2 : ∀ x ∈ names,x.size ≤ 1048576
  m1 : mine.length ≤ 1048576
  x1 : next.length ≤ 1048576
  x2 : ∀ x ∈ next,x.length ≤ 1048576
end Go.Proofs.YtdihodboopeakaaDoor.Pure
/-
Own text: what a good wish is,which places it aims at and which it shuns,to the program and to the reference.
-/
namespace Go.Proofs.YtdihodboopeakaaDoor.Pure
open Go.RowKit Go.Proofs.YtdihodboopeakaaDoorW.PrintWords Go.Proofs.YtdihodboopeakaaDoorW.PrintLast Go.Proofs.YtdihodboopeakaaDoor.Pr Go.Proofs.YtdihodboopeakaaDoor.EvKit
open Classical

theorem text_eq (a b : ByteArray) : a.toList = b.toList ↔ a = b:=by
  constructor
  · intro h
    rw [Lib.toList_data,Lib.toList_data] at h;exact ByteArray.ext (Array.toList_inj.1 h)
  · intro h;rw [h]
theorem succ_w2 (i : Nat) (h : i ≤ 1048576) : wrap64 ((i : Int) + 1) = ((i + 1 : Nat) : Int):=by rw [wrap64_id (by omega) (by omega)];omega
theorem drop_get {α : Type} (l : List α) (i : Nat) (d : α) (h : i < l.length) : l.drop i = l.getD i d :: l.drop (i + 1):=by
  rw [List.drop_eq_getElem_cons h]
  congr 1
  simp [List.getD_eq_getElem?_getD,List.getElem?_eq_getElem h]
theorem mem_drop_step {α : Type} (l : List α) (i : Nat) (d s : α) (h : i < l.length) : s ∈ l.drop i ↔ s = l.getD i d ∨ s ∈ l.drop (i + 1):=by rw [drop_get l i d h];exact List.mem_cons
theorem l22In_l0 (l : List ByteArray) (s : ByteArray) (hl : l.length ≤ 1048576) (d : Nat) : ∀ i : Nat,i + d = l.length → Ev (fun k => spec_l22In.l0 k s l l.length i) (decide (s ∈ l.drop i)):=by
  induction d with
  | zero =>
    intro i hi;apply Ev.succ;rw [List.drop_of_length_le (by omega)];simp only [spec_l22In.l0,show ¬ ((i : Int) < (l.length : Int)) by omega,if_false];exact Ev.some (decide_eq_false (by simp)).symm
  | succ d ih =>
    intro i hi;apply Ev.succ;have hm:=mem_drop_step l i ByteArray.empty s (by omega);have e : rdOf ByteArray.empty l (i : Int) = l.getD i ByteArray.empty:=rfl;simp only [spec_l22In.l0,show ((i : Int) < (l.length : Int)) by omega,show (0 : Int) ≤ (i : Int) by omega,if_true,e,text_eq,succ_w2 i (by omega)];by_cases c : l.getD i ByteArray.empty = s
    · exact Ev.pos c (Ev.some (decide_eq_true (hm.2 (Or.inl c.symm))).symm)
    · refine Ev.neg c (Ev.eq (ih (i + 1) (by omega)) (decide_eq_decide.2 ⟨fun h => hm.2 (Or.inr h),fun h => (hm.1 h).elim (fun h => absurd h.symm c) id⟩))
theorem l22In_ev (l : List ByteArray) (s : ByteArray) (hl : l.length ≤ 1048576) : Ev (fun k => spec_l22In.f k l s) (decide (s ∈ l)):=by
  unfold spec_l22In.f
  simpa using l22In_l0 l s hl l.length 0 (by omega)
theorem contains_l0 (l : List ByteArray) (s : ByteArray) (hl : l.length ≤ 1048576) (d : Nat) : ∀ i : Nat,i + d = l.length → ∃ r : Int,Ev (fun k => slices_Index_string_string.l0 k l s l.length i) r ∧ (r ≥ 0 ↔ s ∈ l.drop i):=by
  induction d with
  | zero =>
    intro i hi;refine ⟨-1,?_,?_⟩
    · apply Ev.succ
      simp only [slices_Index_string_string.l0,show ¬ ((i : Int) < (l.length : Int)) by omega,if_false];exact Ev.some rfl
    · rw [List.drop_of_length_le (by omega)]
      simp
  | succ d ih =>
    intro i hi;have hm:=mem_drop_step l i ByteArray.empty s (by omega);have e : rdOf ByteArray.empty l (i : Int) = l.getD i ByteArray.empty:=rfl;by_cases c : s = l.getD i ByteArray.empty
    · refine ⟨i,?_,⟨fun _ => hm.2 (Or.inl c),fun _ => by omega⟩⟩
      apply Ev.succ;simp only [slices_Index_string_string.l0,show ((i : Int) < (l.length : Int)) by omega,show (0 : Int) ≤ (i : Int) by omega,if_true,e,text_eq];exact Ev.pos c (Ev.some rfl)
    · obtain ⟨r,h1,h2⟩:=ih (i + 1) (by omega)
      refine ⟨r,?_,⟨fun h => hm.2 (Or.inr (h2.1 h)),fun h => h2.2 ((hm.1 h).elim (fun h => absurd h c) id)⟩⟩;apply Ev.succ;simp only [slices_Index_string_string.l0,show ((i : Int) < (l.length : Int)) by omega,show (0 : Int) ≤ (i : Int) by omega,if_true,e,text_eq,succ_w2 i (by omega)];exact Ev.neg c h1
theorem contains_ev (l : List ByteArray) (s : ByteArray) (hl : l.length ≤ 1048576) : Ev (fun k => slices_Contains_string_string.f k l s) (decide (s ∈ l)):=by
  unfold slices_Contains_string_string.f slices_Index_string_string.f;obtain ⟨r,h1,h2⟩:=contains_l0 l s hl l.length 0 (by omega);exact Ev.bnd (by simpa using h1) (Ev.some (decide_eq_decide.2 (by simpa using h2)))
theorem containsI_l0 (l : List Int) (s : Int) (hl : l.length ≤ 1048576) (d : Nat) : ∀ i : Nat,i + d = l.length → ∃ r : Int,Ev (fun k => slices_Index_int_int.l0 k l s l.length i) r ∧ (r ≥ 0 ↔ s ∈ l.drop i):=by
  induction d with
  | zero =>
    intro i hi;refine ⟨-1,?_,?_⟩
    · apply Ev.succ
      simp only [slices_Index_int_int.l0,show ¬ ((i : Int) < (l.length : Int)) by omega,if_false];exact Ev.some rfl
    · rw [List.drop_of_length_le (by omega)]
      simp
  | succ d ih =>
    intro i hi;have hm:=mem_drop_step l i 0 s (by omega);have e : rd l (i : Int) = l.getD i 0:=rfl;by_cases c : s = l.getD i 0
    · refine ⟨i,?_,⟨fun _ => hm.2 (Or.inl c),fun _ => by omega⟩⟩
      apply Ev.succ;simp only [slices_Index_int_int.l0,show ((i : Int) < (l.length : Int)) by omega,show (0 : Int) ≤ (i : Int) by omega,if_true,e];exact Ev.pos c (Ev.some rfl)
    · obtain ⟨r,h1,h2⟩:=ih (i + 1) (by omega)
      refine ⟨r,?_,⟨fun h => hm.2 (Or.inr (h2.1 h)),fun h => h2.2 ((hm.1 h).elim (fun h => absurd h c) id)⟩⟩;apply Ev.succ;simp only [slices_Index_int_int.l0,show ((i : Int) < (l.length : Int)) by omega,show (0 : Int) ≤ (i : Int) by omega,if_true,e,succ_w2 i (by omega)];exact Ev.neg c h1
theorem containsI_ev (l : List Int) (s : Int) (hl : l.length ≤ 1048576) : Ev (fun k => slices_Contains_int_int.f k l s) (decide (s ∈ l)):=by
  unfold slices_Contains_int_int.f slices_Index_int_int.f;obtain ⟨r,h1,h2⟩:=containsI_l0 l s hl l.length 0 (by omega);exact Ev.bnd (by simpa using h1) (Ev.some (decide_eq_decide.2 (by simpa using h2)))

/-! A wish -/
def NamesFrom (l : List ByteArray) (i : Nat) : Prop:=From l.length i fun j => NameOk (l.getD j ByteArray.empty) ∧ l.getD j ByteArray.empty ∉ l.take j
def ListOk (l : List ByteArray) : Prop:=l.length ≤ 6 ∧ NamesFrom l 0
def WishOk (reach avoid : List ByteArray) : Prop:=ListOk reach ∧ ListOk avoid
theorem l22Names_l0 (l : List ByteArray) (hl : l.length ≤ 6) (hs : ∀ x ∈ l,x.size ≤ 1048576) (d : Nat) : ∀ i : Nat,i + d = l.length → Ev (fun k => spec_l22Names.l0 k l l l.length i) (decide (NamesFrom l i)):=by
  induction d with
  | zero =>
    intro i hi;apply Ev.succ;simp only [spec_l22Names.l0,show ¬ ((i : Int) < (l.length : Int)) by omega,if_false];exact Ev.some (decide_eq_true (From.end_ (by omega))).symm
  | succ d ih =>
    intro i hi;apply Ev.succ;have hsz : (l.getD i ByteArray.empty).size ≤ 1000000000:=Nat.le_trans (hs _ (getD_mem l i _ (by omega))) (by decide);have e : rdOf ByteArray.empty l (i : Int) = l.getD i ByteArray.empty:=rfl;have hstep:=From.step (C:=fun j => NameOk (l.getD j ByteArray.empty) ∧ l.getD j ByteArray.empty ∉ l.take j) (n:=l.length) (i:=i) (by omega);simp only [spec_l22Names.l0,show ((i : Int) < (l.length : Int)) by omega,show (0 : Int) ≤ (i : Int) by omega,if_true,e,show ((i : Int) ≤ (l.length : Int)) by omega,Int.toNat_natCast,succ_w2 i (by omega)];refine Ev.bnd (l22Name_ev _ hsz) ?_;by_cases c : NameOk (l.getD i ByteArray.empty)
    · refine Ev.pos (decide_eq_true c) (Ev.bnd (l22In_ev _ _ (by rw [List.length_take];omega)) ?_)
      by_cases c2 : l.getD i ByteArray.empty ∈ l.take i
      · exact Ev.pos (decide_eq_true c2) (Ev.some (decide_eq_false (fun h => (hstep.1 h).1.2 c2)).symm)
      · exact Ev.neg (by simpa using c2) (Ev.eq (ih (i + 1) (by omega)) (decide_eq_decide.2 ⟨fun h => hstep.2 ⟨⟨c,c2⟩,h⟩,fun h => (hstep.1 h).2⟩))
    · exact Ev.neg (by simpa using c) (Ev.some (decide_eq_false (fun h => c (hstep.1 h).1.1)).symm)
theorem l22Names_ev (l : List ByteArray) (hs : ∀ x ∈ l,x.size ≤ 1048576) : Ev (fun k => spec_l22Names.f k l) (decide (ListOk l)):=by
  unfold spec_l22Names.f;by_cases c : l.length ≤ 6
  · refine Ev.neg (by omega) (Ev.eq (l22Names_l0 l c hs l.length 0 (by omega)) (decide_eq_decide.2 ⟨fun h => ⟨c,h⟩,fun h => h.2⟩))
  · exact Ev.pos (by omega) (Ev.some (decide_eq_false (fun h => c h.1)).symm)
theorem l22Good_ev (reach avoid : List ByteArray) (h1 : ∀ x ∈ reach,x.size ≤ 1048576) (h2 : ∀ x ∈ avoid,x.size ≤ 1048576) : Ev (fun k => spec_l22Good.f k reach avoid) (decide (WishOk reach avoid)):=by
  unfold spec_l22Good.f;refine Ev.bnd (l22Names_ev reach h1) ?_;by_cases c : ListOk reach
  · exact Ev.pos (decide_eq_true c) (Ev.bnd (l22Names_ev avoid h2) (Ev.some (decide_eq_decide.2 ⟨fun h => ⟨c,h⟩,fun h => h.2⟩)))
  · exact Ev.neg (by simpa using c) (Ev.some (decide_eq_false (fun h => c h.1)).symm)
theorem inB_eq (l : List ByteArray) (s : ByteArray) : inB l s = decide (s ∈ l):=by
  rw [Bool.eq_iff_iff];unfold inB;rw [List.any_eq_true];simp only [decide_eq_true_eq];exact ⟨fun ⟨x,h1,h2⟩ => (text_eq x s).1 h2 ▸ h1,fun h => ⟨s,h,rfl⟩⟩
theorem gwFrom_eq (l : List ByteArray) (d : Nat) : d ≤ l.length → gwFrom l d = decide (NamesFrom l (l.length - d)):=by
  induction d with
  | zero => intro _;exact (decide_eq_true (From.end_ (by omega))).symm
  | succ d ih =>
    intro hd;have hstep:=From.step (C:=fun j => NameOk (l.getD j ByteArray.empty) ∧ l.getD j ByteArray.empty ∉ l.take j) (n:=l.length) (i:=l.length - (d + 1)) (by omega);unfold gwFrom;rw [ih (by omega),inB_eq,show l.length - d = l.length - (d + 1) + 1 by omega,Bool.eq_iff_iff];simp only [Bool.and_eq_true,Bool.not_eq_true',decide_eq_false_iff_not,decide_eq_true_eq,nameB];exact hstep.symm
theorem gwB_eq (l : List ByteArray) : gwB l = decide (ListOk l):=by
  unfold gwB;rw [gwFrom_eq l l.length (Nat.le_refl _),Nat.sub_self,Bool.eq_iff_iff];simp only [Bool.and_eq_true,decide_eq_true_eq];exact Iff.rfl
theorem goodWish_eq (reach avoid : List ByteArray) (a1 : reach.length ≤ 1048576) (h1 : ∀ x ∈ reach,x.size ≤ 1048576) (a2 : avoid.length ≤ 1048576) (h2 : ∀ x ∈ avoid,x.size ≤ 1048576) : impl_goodWish.f reach avoid = some (decide (WishOk reach avoid)):=by
  have ok (l : List ByteArray) (a : l.length ≤ 1048576) (h : ∀ x ∈ l,x.size ≤ 1048576) : okT l = true:=by
    unfold okT;rw [decide_eq_true a,Bool.true_and,List.all_eq_true];(exact fun x hx => decide_eq_true (h x hx))
  unfold impl_goodWish.f;rw [if_pos (ok reach a1 h1),if_pos (ok avoid a2 h2),gwB_eq,gwB_eq]
  congr 1
  rw [Bool.eq_iff_iff];simp only [Bool.and_eq_true,decide_eq_true_eq];exact Iff.rfl
section
variable (names : List ByteArray) (mine : List Bool) (next : List (List Int)) (reach avoid : List ByteArray)
/-- The name of a place. -/
def nm (at_ : Int) : ByteArray:=names.getD at_.toNat ByteArray.empty
theorem shuns_ev (ha : avoid.length ≤ 1048576) (i : Int) (h0 : 0 ≤ i) (h1 : i < names.length) : Ev (fun k => impl_Board_shuns.f k names mine next reach avoid i) (decide (nm names i ∈ avoid)):=by
  unfold impl_Board_shuns.f;exact Ev.pos h0 (Ev.pos h1 (Ev.bnd (contains_ev avoid _ ha) (Ev.some rfl)))
theorem aims_ev (hr : reach.length ≤ 1048576) (ha : avoid.length ≤ 1048576) (i : Int) (h0 : 0 ≤ i) (h1 : i < names.length) : Ev (fun k => impl_Board_aims.f k names mine next reach avoid i) (decide (nm names i ∈ reach ∧ nm names i ∉ avoid)):=by
  unfold impl_Board_aims.f;refine Ev.pos h0 (Ev.pos h1 (Ev.bnd (contains_ev reach _ hr) ?_));have e : rdOf ByteArray.empty names i = nm names i:=rfl;rw [e];by_cases c : nm names i ∈ reach
  · refine Ev.pos (decide_eq_true c) (Ev.bnd (shuns_ev names mine next reach avoid ha i h0 h1) (Ev.some ?_))
    rw [Bool.eq_iff_iff]
    simp [c]
  · exact Ev.neg (by simpa using c) (Ev.some (decide_eq_false (fun h => c h.1)).symm)
end

/-! The law's helpers on a wish -/
structure SmallW (reach avoid : List ByteArray) : Prop where
  r1 : reach.length ≤ 1048576
  r2 : ∀ x ∈ reach,x.size ≤ 1048576
  a1 : avoid.length ≤ 1048576
  a2 : ∀ x ∈ avoid,x.size ≤ 1048576
end Go.Proofs.YtdihodboopeakaaDoor.Pure
/-
Own text: after how many choices the wish is met: the program's and the reference's ranks are the same.
-/
namespace Go.Proofs.YtdihodboopeakaaDoor.Pure
open Go.RowKit Go.Proofs.YtdihodboopeakaaDoorW.PrintWords Go.Proofs.YtdihodboopeakaaDoorW.PrintLast Go.Proofs.YtdihodboopeakaaDoor.Pr Go.Proofs.YtdihodboopeakaaDoor.EvKit
open Classical

theorem if_congr_prop' {α : Sort _} {p q : Prop} [Decidable p] [Decidable q] {a b : α} (h : p ↔ q) : (if p then a else b) = (if q then a else b):=by
  by_cases c : p
  · rw [if_pos c,if_pos (h.1 c)]
  · rw [if_neg c,if_neg (fun d => c (h.2 d))]
def anyGe (r row : List Int) : Prop:=∃ p ∈ row,rd r p ≥ 0
def anyLt (r row : List Int) : Prop:=∃ p ∈ row,rd r p < 0
theorem anyGe_step (r row : List Int) (j : Nat) (h : j < row.length) : anyGe r (row.drop j) ↔ rd r (row.getD j 0) ≥ 0 ∨ anyGe r (row.drop (j + 1)):=by
  unfold anyGe;rw [drop_get row j 0 h]
  simp
theorem anyLt_step (r row : List Int) (j : Nat) (h : j < row.length) : anyLt r (row.drop j) ↔ rd r (row.getD j 0) < 0 ∨ anyLt r (row.drop (j + 1)):=by
  unfold anyLt;rw [drop_get row j 0 h]
  simp
theorem anyGe_nil (r : List Int) : ¬ anyGe r []:=by rintro ⟨p,h,_⟩;cases h
theorem anyLt_nil (r : List Int) : ¬ anyLt r []:=by rintro ⟨p,h,_⟩;cases h
section
variable (names : List ByteArray) (mine : List Bool) (next : List (List Int)) (reach avoid : List ByteArray)
def mn_ (i : Nat) : Bool:=mine.getD i false
def nx (i : Nat) : List Int:=next.getD i []
/-- A place is lost at these ranks. -/
def lose (r : List Int) (i : Nat) : Prop:=¬ rd r i < 0 ∧ nx next i ≠ [] ∧ ((mn_ mine i = true ∧ ¬ anyGe r (nx next i)) ∨ (mn_ mine i = false ∧ anyLt r (nx next i)))
noncomputable def sw1 (r : List Int) (i : Nat) : List Int:=if lose mine next r i then r.set i (-1) else r
noncomputable def sw (r : List Int) (i : Nat) : Nat → List Int
  | 0 => r
  | d + 1 => sw (sw1 mine next r i) (i + 1) d
noncomputable def swc (r : List Int) (i : Nat) : Nat → Bool
  | 0 => false
  | d + 1 => decide (lose mine next r i) || swc (sw1 mine next r i) (i + 1) d
noncomputable def iter (n : Nat) : Nat → List Int → List Int
  | 0,r => r
  | m + 1,r => iter n m (sw mine next r 0 n)
theorem sw1_length (r : List Int) (i : Nat) : (sw1 mine next r i).length = r.length:=by unfold sw1;split <;> simp
theorem sw_length (d : Nat) : ∀ (r : List Int) (i : Nat),(sw mine next r i d).length = r.length:=by
  induction d with
  | zero => intro r i;rfl
  | succ d ih => intro r i;simp only [sw];rw [ih,sw1_length]
theorem iter_length (n : Nat) (m : Nat) : ∀ r : List Int,(iter mine next n m r).length = r.length:=by
  induction m with
  | zero => intro r;rfl
  | succ m ih => intro r;simp only [iter];rw [ih,sw_length]
def cnt (r : List Int) : Nat:=(r.filter fun x => decide (x ≥ 0)).length
theorem cnt_le (r : List Int) : cnt r ≤ r.length:=List.length_filter_le _ _
theorem cnt_set (r : List Int) (i : Nat) (hi : i < r.length) (h : ¬ rd r i < 0) : cnt (r.set i (-1)) + 1 = cnt r:=by
  (have e : rd r (i : Int) = r[i]:=by unfold rd;simp [List.getD_eq_getElem?_getD,List.getElem?_eq_getElem hi]);rw [e] at h;clear e
  induction r generalizing i with
  | nil => simp at hi
  | cons a r ih =>
    cases i with
    | zero =>
      simp only [List.getElem_cons_zero] at h;simp only [List.set_cons_zero,cnt,List.filter_cons];rw [if_neg (by decide),if_pos (by simpa using h)]
      simp
    | succ i =>
      simp only [List.getElem_cons_succ] at h;have:=ih i (by simpa using hi) h;simp only [cnt,List.set_cons_succ,List.filter_cons] at this ⊢
      split <;> simp <;> omega
theorem sw1_cnt (r : List Int) (i : Nat) (hi : i < r.length) : (lose mine next r i → cnt (sw1 mine next r i) < cnt r) ∧ (¬ lose mine next r i → sw1 mine next r i = r):=by
  unfold sw1
  constructor
  · intro h
    rw [if_pos h];have:=cnt_set r i hi h.1
    omega
  · intro h;rw [if_neg h]
theorem sw_cnt (d : Nat) : ∀ (r : List Int) (i : Nat),i + d = r.length → cnt (sw mine next r i d) ≤ cnt r ∧ (swc mine next r i d = true → cnt (sw mine next r i d) < cnt r) ∧ (swc mine next r i d = false → sw mine next r i d = r):=by
  induction d with
  | zero => intro r i _;exact ⟨Nat.le_refl _,fun h => by simp [swc] at h,fun _ => rfl⟩
  | succ d ih =>
    intro r i hi;obtain ⟨c1,c2⟩:=sw1_cnt mine next r i (by omega);obtain ⟨a,b,c⟩:=ih (sw1 mine next r i) (i + 1) (by rw [sw1_length];omega);simp only [sw,swc];by_cases h : lose mine next r i
    · have:=c1 h
      refine ⟨by omega,fun _ => by omega,fun h2 => ?_⟩;rw [decide_eq_true h] at h2
      simp at h2
    · have e:=c2 h
      rw [e] at a b c ⊢;refine ⟨a,fun h2 => b (by simpa [h] using h2),fun h2 => c (by simpa [h] using h2)⟩
/-- A further sweep turns nothing once one has turned nothing. -/
theorem iter_fix (n : Nat) (m : Nat) (r : List Int) (h : sw mine next r 0 n = r) : iter mine next n m r = r:=by
  induction m with
  | zero => rfl
  | succ m ih => simp only [iter];rw [h];exact ih

variable (hg : Good names mine next) (hb : Small names mine next) (hw : SmallW reach avoid)
include hg
theorem nx_mem (i : Nat) (hi : i < names.length) (p : Int) (hp : p ∈ nx next i) : 0 ≤ p ∧ p < names.length:=by
  obtain ⟨j,hj,rfl⟩:=List.getElem_of_mem hp;have:=((hg.2.2 i (Nat.zero_le i) hi).2 j (Nat.zero_le j) hj).1;(have e : (next.getD i []).getD j 0 = (nx next i)[j]:=by unfold nx;rw [List.getD_eq_getElem?_getD (l:=next.getD i []),List.getElem?_eq_getElem (by exact hj)];rfl);rw [e] at this;exact this
theorem nx_get (i : Nat) (hi : i < names.length) (j : Nat) (hj : j < (nx next i).length) : 0 ≤ (nx next i).getD j 0 ∧ (nx next i).getD j 0 < names.length:=
  nx_mem names mine next hg i hi _ (getD_mem _ j 0 hj)
theorem nx_len (i : Nat) (hi : i < names.length) : (nx next i).length ≤ 14:=by
  have:=((hg.2.2 i (Nat.zero_le i) hi).2).len;have h2:=hg.1.2;unfold nx
  omega

/-! Without Reach: the program -/
theorem wi_l3 (r : List Int) (hr : r.length = names.length) (i : Nat) (hi : i < names.length) (x8 : Bool) (res : List Int) (d : Nat) : ∀ (j : Nat) (x10 x11 : Bool),j + d = (nx next i).length →
    (((mn_ mine i = true ∧ ¬ (x10 = true ∨ anyGe r ((nx next i).drop j))) ∨ (mn_ mine i = false ∧ (x11 = true ∨ anyLt r ((nx next i).drop j)))) → Ev (fun k => impl_Board_wins.l2 k (r.set i (-1)) true names.length ((i + 1 : Nat) : Int) names mine next) res) →
    (¬ ((mn_ mine i = true ∧ ¬ (x10 = true ∨ anyGe r ((nx next i).drop j))) ∨ (mn_ mine i = false ∧ (x11 = true ∨ anyLt r ((nx next i).drop j)))) → Ev (fun k => impl_Board_wins.l2 k r x8 names.length ((i + 1 : Nat) : Int) names mine next) res) →
    Ev (fun k => impl_Board_wins.l3 k r x8 i x10 x11 names.length i (nx next i) (nx next i).length j names mine next) res:=by
  have hn:=hg.1.2;have hnl:=nx_len names mine next hg i hi
  induction d with
  | zero =>
    intro j x10 x11 hj h1 h2;apply Ev.succ;rw [List.drop_of_length_le (by omega)] at h1 h2;have em : rdOf false mine (i : Int) = mn_ mine i:=rfl;simp only [impl_Board_wins.l3,show ¬ ((j : Int) < ((nx next i).length : Int)) by omega,if_false,em,succ_w2 i (by omega),Int.toNat_natCast];refine Ev.pos (by omega) (Ev.pos (by have:=hg.2.1.1;omega) ?_);by_cases m : mn_ mine i = true
    · refine Ev.pos m ?_
      by_cases c : x10 = true
      · exact Ev.pos c (h2 (by simp [m,c]))
      · exact Ev.neg c (Ev.pos (by omega) (h1 (Or.inl ⟨m,fun h => h.elim c (anyGe_nil r)⟩)))
    · refine Ev.neg m ?_
      (have m' : mn_ mine i = false:=by simpa using m);by_cases c : x11 = true
      · exact Ev.pos c (Ev.pos (by omega) (h1 (Or.inr ⟨m',Or.inl c⟩)))
      · exact Ev.neg c (h2 (fun h => h.elim (fun h => m h.1) (fun h => h.2.elim c (anyLt_nil r))))
  | succ d ih =>
    intro j x10 x11 hj h1 h2;apply Ev.succ;obtain ⟨g1,g2⟩:=nx_get names mine next hg i hi j (by omega);have e : rd (nx next i) (j : Int) = (nx next i).getD j 0:=rfl;have a1:=anyGe_step r (nx next i) j (by omega);have a2:=anyLt_step r (nx next i) j (by omega);simp only [impl_Board_wins.l3,show ((j : Int) < ((nx next i).length : Int)) by omega,show (0 : Int) ≤ (j : Int) by omega,if_true,e,g1,show (nx next i).getD j 0 < (r.length : Int) by omega,succ_w2 j (by omega)]
    have key (y10 y11 : Bool) (k1 : (x10 = true ∨ anyGe r ((nx next i).drop j)) ↔ (y10 = true ∨ anyGe r ((nx next i).drop (j + 1)))) (k2 : (x11 = true ∨ anyLt r ((nx next i).drop j)) ↔ (y11 = true ∨ anyLt r ((nx next i).drop (j + 1)))) :
        Ev (fun k => impl_Board_wins.l3 k r x8 i y10 y11 names.length i (nx next i) (nx next i).length ((j + 1 : Nat) : Int) names mine next) res:=
      ih (j + 1) y10 y11 (by omega) (fun h => h1 (by rw [k1,k2];exact h)) (fun h => h2 (by rw [k1,k2];exact h))
    by_cases c10 : x10 = true
    · refine Ev.pos c10 ?_
      by_cases c11 : x11 = true
      · exact Ev.pos c11 (key true true (by simp [c10]) (by simp [c11]))
      · exact Ev.neg c11 (key true _ (by simp [c10]) (by rw [a2];simp [c11]))
    · refine Ev.neg c10 ?_
      by_cases c11 : x11 = true
      · exact Ev.pos c11 (key _ true (by rw [a1];simp [c10]) (by simp [c11]))
      · exact Ev.neg c11 (key _ _ (by rw [a1];simp [c10]) (by rw [a2];simp [c11]))
theorem wi_l2 (res : List Int) (d : Nat) : ∀ (i : Nat) (r : List Int) (x8 : Bool),i + d = names.length → r.length = names.length →
    Ev (fun k => impl_Board_wins.l1 k (sw mine next r i d) (x8 || swc mine next r i d) names mine next) res → Ev (fun k => impl_Board_wins.l2 k r x8 names.length i names mine next) res:=by
  have hn:=hg.1.2;have hx:=hg.2.1.2
  induction d with
  | zero =>
    intro i r x8 hi hr h;apply Ev.succ;simp only [impl_Board_wins.l2,show ¬ ((i : Int) < (names.length : Int)) by omega,if_false]
    simpa [sw,swc] using h
  | succ d ih =>
    intro i r x8 hi hr h;apply Ev.succ;simp only [sw,swc] at h;have e3 : rd_L3 next (i : Int) = nx next i:=rfl;simp only [impl_Board_wins.l2,show ((i : Int) < (names.length : Int)) by omega,show (0 : Int) ≤ (i : Int) by omega,show ((i : Int) < (r.length : Int)) by omega,show ((i : Int) < (next.length : Int)) by omega,if_true,e3]
    have skip (x : Bool) (hx' : x = true) (hl : ¬ lose mine next r i) : Ev (fun k => impl_Board_wins.j3 k r x8 i names.length i x names mine next) res:=by
      subst hx';apply Ev.succ;simp only [impl_Board_wins.j3,if_true,succ_w2 i (by omega)];refine ih (i + 1) r x8 (by omega) hr ?_;rw [show sw1 mine next r i = r by unfold sw1;rw [if_neg hl],decide_eq_false hl,Bool.false_or] at h;exact h
    by_cases c1 : rd r (i : Int) < 0
    · exact Ev.pos c1 (skip true rfl (fun h' => h'.1 c1))
    · refine Ev.neg c1 ?_
      by_cases c2 : nx next i = []
      · exact skip _ (by rw [c2];rfl) (fun h' => h'.2.1 c2)
      · have hb0 : (((nx next i).length : Int) == 0) = false:=by
          rw [beq_eq_false_iff_ne];intro h0;exact c2 (List.eq_nil_of_length_eq_zero (by omega))
        rw [hb0];apply Ev.succ;simp only [impl_Board_wins.j3,Bool.false_eq_true,if_false,e3];refine Ev.pos (by omega) (Ev.pos (by omega) ?_);refine wi_l3 names mine next hg r hr i (by omega) x8 res (nx next i).length 0 false false (by omega) (fun hl => ?_) (fun hl => ?_)
        · have hl' : lose mine next r i:=⟨c1,c2,by simpa using hl⟩
          rw [show sw1 mine next r i = r.set i (-1) by unfold sw1;rw [if_pos hl'],decide_eq_true hl'] at h;refine ih (i + 1) _ true (by omega) (by simp [hr]) ?_
          simpa using h
        · have hl' : ¬ lose mine next r i:=fun h' => hl (by simpa using h'.2.2)
          rw [show sw1 mine next r i = r by unfold sw1;rw [if_neg hl'],decide_eq_false hl',Bool.false_or] at h;exact ih (i + 1) r x8 (by omega) hr h
theorem wi_l1 (c : Nat) : ∀ (r : List Int) (m : Nat),cnt r ≤ c → cnt r ≤ m → r.length = names.length → Ev (fun k => impl_Board_wins.l1 k r true names mine next) (iter mine next names.length m r):=by
  induction c with
  | zero =>
    intro r m hc hm hr;obtain ⟨a,b,e⟩:=sw_cnt mine next names.length r 0 (by omega);apply Ev.succ;simp only [impl_Board_wins.l1,if_true,hr]
    have hs : swc mine next r 0 names.length = false:=by
      cases h : swc mine next r 0 names.length with
      | false => rfl
      | true => have:=b h;omega
    refine wi_l2 names mine next hg _ names.length 0 r false (by omega) hr ?_;rw [hs,e hs,iter_fix mine next names.length m r (e hs)];apply Ev.succ;simp only [impl_Board_wins.l1,Bool.or_self,Bool.false_eq_true,if_false];exact Ev.some rfl
  | succ c ih =>
    intro r m hc hm hr;obtain ⟨a,b,e⟩:=sw_cnt mine next names.length r 0 (by omega);apply Ev.succ;simp only [impl_Board_wins.l1,if_true,hr];refine wi_l2 names mine next hg _ names.length 0 r false (by omega) hr ?_
    cases hs : swc mine next r 0 names.length with
    | false =>
      rw [e hs,iter_fix mine next names.length m r (e hs)];apply Ev.succ;simp only [impl_Board_wins.l1,Bool.or_self,Bool.false_eq_true,if_false];exact Ev.some rfl
    | true =>
      have hlt:=b hs;obtain ⟨m',rfl⟩ : ∃ m',m = m' + 1:=⟨m - 1,by omega⟩;simp only [iter,Bool.or_true];exact ih _ m' (by omega) (by omega) (by rw [sw_length];exact hr)
/-- The ranks at the beginning, without Reach: from the i-th on still 0. -/
noncomputable def ini (i : Nat) : List Int:=(List.range names.length).map fun j => if j < i ∧ nm names (j : Int) ∈ avoid then -1 else 0
omit hg in
theorem ini_length (i : Nat) : (ini names avoid i).length = names.length:=by simp [ini]
omit hg in
theorem ini_zero : ini names avoid 0 = List.replicate names.length 0:=by
  apply List.ext_getElem
  · simp [ini]
  · intro j h1 h2;simp [ini]
omit hg in
theorem ini_succ (i : Nat) (hi : i < names.length) : ini names avoid (i + 1) = if nm names (i : Int) ∈ avoid then (ini names avoid i).set i (-1) else ini names avoid i:=by
  by_cases c : nm names (i : Int) ∈ avoid
  · rw [if_pos c]
    apply List.ext_getElem
    · simp [ini]
    · intro j h1 h2
      by_cases e : j = i
      · subst e;simp [ini,c]
      · rw [List.getElem_set_ne (fun h => e h.symm)]
        simp only [ini,List.getElem_map,List.getElem_range];exact if_congr_prop' (by constructor <;> rintro ⟨a,b⟩ <;> exact ⟨by omega,b⟩)
  · rw [if_neg c]
    apply List.ext_getElem
    · simp [ini]
    · intro j h1 h2
      simp only [ini,List.getElem_map,List.getElem_range];refine if_congr_prop' ⟨fun ⟨a,b⟩ => ⟨?_,b⟩,fun ⟨a,b⟩ => ⟨by omega,b⟩⟩;by_cases e : j = i
      · subst e;exact absurd b c
      · omega
end
end Go.Proofs.YtdihodboopeakaaDoor.Pure
/-
Own text: the ranks: the rest of the two programs.
-/
namespace Go.Proofs.YtdihodboopeakaaDoor.Pure
open Go.RowKit Go.Proofs.YtdihodboopeakaaDoorW.PrintWords Go.Proofs.YtdihodboopeakaaDoorW.PrintLast Go.Proofs.YtdihodboopeakaaDoor.Pr Go.Proofs.YtdihodboopeakaaDoor.EvKit
open Classical
set_option linter.unusedVariables false

section
variable (names : List ByteArray) (mine : List Bool) (next : List (List Int)) (reach avoid : List ByteArray)
variable (hg : Good names mine next) (hb : Small names mine next) (hw : SmallW reach avoid)
include hg hw
theorem wi_l0 (res : List Int) (h : Ev (fun k => impl_Board_wins.l1 k (ini names avoid names.length) true names mine next) res) (d : Nat) : ∀ i : Nat,i + d = names.length →
    Ev (fun k => impl_Board_wins.l0 k (ini names avoid i) names.length i names mine next reach avoid) res:=by
  have hn:=hg.1.2
  induction d with
  | zero =>
    intro i hi;apply Ev.succ
    obtain rfl : i = names.length:=by omega
    simp only [impl_Board_wins.l0,Int.lt_irrefl,if_false];exact h
  | succ d ih =>
    intro i hi;apply Ev.succ;simp only [impl_Board_wins.l0,show ((i : Int) < (names.length : Int)) by omega,if_true,show (0 : Int) ≤ (i : Int) by omega,ini_length,succ_w2 i (by omega),Int.toNat_natCast];refine Ev.bnd (shuns_ev names mine next reach avoid hw.a1 i (by omega) (by omega)) ?_;have e:=ini_succ names avoid i (by omega);have:=ih (i + 1) (by omega);rw [e] at this;by_cases c : nm names (i : Int) ∈ avoid
    · rw [if_pos c] at this
      exact Ev.pos (decide_eq_true c) this
    · rw [if_neg c] at this
      exact Ev.neg (by simpa using c) this
theorem ws_l0 (res : List Int) (h : Ev (fun k => spec_l22Safe.l1 k (ini names avoid names.length) names.length 0 names mine next) res) (d : Nat) : ∀ i : Nat,i + d = names.length →
    Ev (fun k => spec_l22Safe.l0 k (ini names avoid i) names names.length i names mine next reach avoid) res:=by
  have hn:=hg.1.2
  induction d with
  | zero =>
    intro i hi;apply Ev.succ
    obtain rfl : i = names.length:=by omega
    simp only [spec_l22Safe.l0,Int.lt_irrefl,if_false,ini_length];exact h
  | succ d ih =>
    intro i hi;apply Ev.succ;simp only [spec_l22Safe.l0,show ((i : Int) < (names.length : Int)) by omega,if_true,show (0 : Int) ≤ (i : Int) by omega,ini_length,succ_w2 i (by omega),Int.toNat_natCast];have en : rdOf ByteArray.empty names (i : Int) = nm names (i : Int):=rfl;rw [en];refine Ev.bnd (l22In_ev avoid _ hw.a1) ?_;have e:=ini_succ names avoid i (by omega);have:=ih (i + 1) (by omega);rw [e] at this;by_cases c : nm names (i : Int) ∈ avoid
    · rw [if_pos c] at this
      exact Ev.pos (decide_eq_true c) this
    · rw [if_neg c] at this
      exact Ev.neg (by simpa using c) this
omit hw
/-! Without Reach: the reference -/
theorem ws_l3 (r : List Int) (hr : r.length = names.length) (t : Int) (i : Nat) (hi : i < names.length) (res : List Int) (d : Nat) : ∀ (j : Nat) (x10 x11 : Bool),j + d = (nx next i).length →
    (((mn_ mine i = true ∧ ¬ (x10 = true ∨ anyGe r ((nx next i).drop j))) ∨ (mn_ mine i = false ∧ (x11 = false ∨ anyLt r ((nx next i).drop j)))) → Ev (fun k => spec_l22Safe.l2 k (r.set i (-1)) names.length t names.length ((i + 1 : Nat) : Int) names mine next) res) →
    (¬ ((mn_ mine i = true ∧ ¬ (x10 = true ∨ anyGe r ((nx next i).drop j))) ∨ (mn_ mine i = false ∧ (x11 = false ∨ anyLt r ((nx next i).drop j)))) → Ev (fun k => spec_l22Safe.l2 k r names.length t names.length ((i + 1 : Nat) : Int) names mine next) res) →
    Ev (fun k => spec_l22Safe.l3 k r i x10 x11 names.length t names.length i (nx next i) (nx next i).length j names mine next) res:=by
  have hn:=hg.1.2;have hnl:=nx_len names mine next hg i hi
  induction d with
  | zero =>
    intro j x10 x11 hj h1 h2;apply Ev.succ;rw [List.drop_of_length_le (by omega)] at h1 h2;have em : rdOf false mine (i : Int) = mn_ mine i:=rfl;simp only [spec_l22Safe.l3,show ¬ ((j : Int) < ((nx next i).length : Int)) by omega,if_false,em,succ_w2 i (by omega),Int.toNat_natCast];refine Ev.pos (by omega) (Ev.pos (by have:=hg.2.1.1;omega) ?_);by_cases m : mn_ mine i = true
    · refine Ev.pos m ?_
      by_cases c : x10 = true
      · exact Ev.pos c (h2 (by simp [m,c]))
      · exact Ev.neg c (Ev.pos (by omega) (h1 (Or.inl ⟨m,fun h => h.elim c (anyGe_nil r)⟩)))
    · refine Ev.neg m ?_
      (have m' : mn_ mine i = false:=by simpa using m);by_cases c : x11 = true
      · exact Ev.pos c (h2 (fun h => h.elim (fun h => m h.1) (fun h => h.2.elim (fun h => by rw [c] at h;cases h) (anyLt_nil r))))
      · exact Ev.neg c (Ev.pos (by omega) (h1 (Or.inr ⟨m',Or.inl (by simpa using c)⟩)))
  | succ d ih =>
    intro j x10 x11 hj h1 h2;apply Ev.succ;obtain ⟨g1,g2⟩:=nx_get names mine next hg i hi j (by omega);have e : rd (nx next i) (j : Int) = (nx next i).getD j 0:=rfl;have a1:=anyGe_step r (nx next i) j (by omega);have a2:=anyLt_step r (nx next i) j (by omega);simp only [spec_l22Safe.l3,show ((j : Int) < ((nx next i).length : Int)) by omega,show (0 : Int) ≤ (j : Int) by omega,if_true,e,g1,show (nx next i).getD j 0 < (r.length : Int) by omega,succ_w2 j (by omega)]
    have key (y10 y11 : Bool) (k1 : (x10 = true ∨ anyGe r ((nx next i).drop j)) ↔ (y10 = true ∨ anyGe r ((nx next i).drop (j + 1)))) (k2 : (x11 = false ∨ anyLt r ((nx next i).drop j)) ↔ (y11 = false ∨ anyLt r ((nx next i).drop (j + 1)))) :
        Ev (fun k => spec_l22Safe.l3 k r i y10 y11 names.length t names.length i (nx next i) (nx next i).length ((j + 1 : Nat) : Int) names mine next) res:=
      ih (j + 1) y10 y11 (by omega) (fun h => h1 (by rw [k1,k2];exact h)) (fun h => h2 (by rw [k1,k2];exact h))
    (have q1 : (decide (rd r ((nx next i).getD j 0) ≥ 0) = true ∨ anyGe r ((nx next i).drop (j + 1))) ↔ (rd r ((nx next i).getD j 0) ≥ 0 ∨ anyGe r ((nx next i).drop (j + 1))):=by rw [decide_eq_true_eq])
    have q2 : (decide (rd r ((nx next i).getD j 0) ≥ 0) = false ∨ anyLt r ((nx next i).drop (j + 1))) ↔ (rd r ((nx next i).getD j 0) < 0 ∨ anyLt r ((nx next i).drop (j + 1))):=by
      rw [decide_eq_false_iff_not];exact ⟨fun h => h.elim (fun h => Or.inl (by omega)) Or.inr,fun h => h.elim (fun h => Or.inl (by omega)) Or.inr⟩
    by_cases c10 : x10 = true
    · refine Ev.pos c10 ?_
      by_cases c11 : x11 = true
      · exact Ev.pos c11 (key true _ (by simp [c10]) (by rw [a2,q2];simp [c11]))
      · exact Ev.neg c11 (key true false (by simp [c10]) (by simp at c11;simp [c11]))
    · refine Ev.neg c10 ?_
      by_cases c11 : x11 = true
      · exact Ev.pos c11 (key _ _ (by rw [a1,q1];simp [c10]) (by rw [a2,q2];simp [c11]))
      · exact Ev.neg c11 (key _ false (by rw [a1,q1];simp [c10]) (by simp at c11;simp [c11]))
theorem ws_l2 (t : Nat) (ht : t ≤ 100) (res : List Int) (d : Nat) : ∀ (i : Nat) (r : List Int),i + d = names.length → r.length = names.length →
    Ev (fun k => spec_l22Safe.l1 k (sw mine next r i d) names.length ((t + 1 : Nat) : Int) names mine next) res → Ev (fun k => spec_l22Safe.l2 k r names.length t names.length i names mine next) res:=by
  have hn:=hg.1.2;have hx:=hg.2.1.2
  induction d with
  | zero =>
    intro i r hi hr h;apply Ev.succ;simp only [spec_l22Safe.l2,show ¬ ((i : Int) < (names.length : Int)) by omega,if_false,succ_w2 t (by omega)]
    simpa [sw] using h
  | succ d ih =>
    intro i r hi hr h;apply Ev.succ;simp only [sw] at h;have e3 : rd_L3 next (i : Int) = nx next i:=rfl;simp only [spec_l22Safe.l2,show ((i : Int) < (names.length : Int)) by omega,show (0 : Int) ≤ (i : Int) by omega,show ((i : Int) < (r.length : Int)) by omega,show ((i : Int) < (next.length : Int)) by omega,if_true,e3]
    have skip (x : Bool) (hx' : x = true) (hl : ¬ lose mine next r i) : Ev (fun k => spec_l22Safe.j3 k r i names.length t names.length i x names mine next) res:=by
      subst hx';apply Ev.succ;simp only [spec_l22Safe.j3,if_true,succ_w2 i (by omega)];refine ih (i + 1) r (by omega) hr ?_;rw [show sw1 mine next r i = r by unfold sw1;rw [if_neg hl]] at h;exact h
    by_cases c1 : rd r (i : Int) < 0
    · exact Ev.pos c1 (skip true rfl (fun h' => h'.1 c1))
    · refine Ev.neg c1 ?_
      by_cases c2 : nx next i = []
      · exact skip _ (by rw [c2];rfl) (fun h' => h'.2.1 c2)
      · have hb0 : (((nx next i).length : Int) == 0) = false:=by
          rw [beq_eq_false_iff_ne];intro h0;exact c2 (List.eq_nil_of_length_eq_zero (by omega))
        rw [hb0];apply Ev.succ;simp only [spec_l22Safe.j3,Bool.false_eq_true,if_false,e3];refine Ev.pos (by omega) (Ev.pos (by omega) ?_);refine ws_l3 names mine next hg r hr t i (by omega) res (nx next i).length 0 false true (by omega) (fun hl => ?_) (fun hl => ?_)
        · have hl' : lose mine next r i:=⟨c1,c2,by simpa using hl⟩
          rw [show sw1 mine next r i = r.set i (-1) by unfold sw1;rw [if_pos hl']] at h;exact ih (i + 1) _ (by omega) (by simp [hr]) h
        · have hl' : ¬ lose mine next r i:=fun h' => hl (by simpa using h'.2.2)
          rw [show sw1 mine next r i = r by unfold sw1;rw [if_neg hl']] at h;exact ih (i + 1) r (by omega) hr h
theorem ws_l1 (d : Nat) : ∀ (t : Nat) (r : List Int),t + d = names.length → r.length = names.length → Ev (fun k => spec_l22Safe.l1 k r names.length t names mine next) (iter mine next names.length d r):=by
  have hn:=hg.1.2
  induction d with
  | zero =>
    intro t r ht hr;apply Ev.succ;simp only [spec_l22Safe.l1,show ¬ ((t : Int) < (names.length : Int)) by omega,if_false];exact Ev.some rfl
  | succ d ih =>
    intro t r ht hr;apply Ev.succ;simp only [spec_l22Safe.l1,show ((t : Int) < (names.length : Int)) by omega,if_true,hr];exact ws_l2 names mine next hg t (by omega) _ names.length 0 r (by omega) hr (ih (t + 1) _ (by omega) (by rw [sw_length];exact hr))
end
/-- The ranks without Reach. -/
noncomputable def rankSafe (names : List ByteArray) (mine : List Bool) (next : List (List Int)) (avoid : List ByteArray) : List Int:=iter mine next names.length names.length (ini names avoid names.length)

/-! With Reach -/
section
variable (names : List ByteArray) (mine : List Bool) (next : List (List Int)) (reach avoid : List ByteArray)
def aims (i : Nat) : Prop:=nm names (i : Int) ∈ reach ∧ nm names (i : Int) ∉ avoid
noncomputable def ini2 (i : Nat) (z : List Int) : List Int:=(List.range names.length).map fun j => if j < i then (if aims names reach avoid j then 0 else -1) else z.getD j 0
/-- A place is won in the next round. -/
def gain (r : List Int) (i : Nat) : Prop:=rd r i < 0 ∧ nm names (i : Int) ∉ avoid ∧ nx next i ≠ [] ∧ ((mn_ mine i = true ∧ anyGe r (nx next i)) ∨ (mn_ mine i = false ∧ ¬ anyLt r (nx next i)))
noncomputable def upd (r : List Int) (k : Int) (i : Nat) : List Int:=(List.range names.length).map fun j => if j < i ∧ gain names mine next avoid r j then k else r.getD j 0
noncomputable def rounds (m : Nat) : Nat → List Int → List Int
  | 0,r => r
  | d + 1,r => rounds (m + 1) d (upd names mine next avoid r (m : Int) names.length)
noncomputable def rankReach : List Int:=rounds names mine next avoid 1 names.length (ini2 names reach avoid names.length [])
theorem ini2_length (i : Nat) (z : List Int) : (ini2 names reach avoid i z).length = names.length:=by simp [ini2]
theorem upd_length (r : List Int) (k : Int) (i : Nat) : (upd names mine next avoid r k i).length = names.length:=by simp [upd]
theorem ini2_zero (z : List Int) (hz : z.length = names.length) : ini2 names reach avoid 0 z = z:=by
  apply List.ext_getElem
  · simp [ini2,hz]
  · intro j h1 h2;simp [ini2,List.getD_eq_getElem?_getD,List.getElem?_eq_getElem h2]
theorem ini2_succ (i : Nat) (hi : i < names.length) (z : List Int) (hz : z.length = names.length) : ini2 names reach avoid (i + 1) z = if aims names reach avoid i then ((ini2 names reach avoid i z).set i (-1)).set i 0 else (ini2 names reach avoid i z).set i (-1):=by
  by_cases c : aims names reach avoid i
  · rw [if_pos c]
    apply List.ext_getElem
    · simp [ini2]
    · intro j h1 h2
      by_cases e : j = i
      · subst e;simp [ini2,c]
      · rw [List.getElem_set_ne (fun h => e h.symm),List.getElem_set_ne (fun h => e h.symm)]
        simp only [ini2,List.getElem_map,List.getElem_range];exact if_congr_prop' (by omega)
  · rw [if_neg c]
    apply List.ext_getElem
    · simp [ini2]
    · intro j h1 h2
      by_cases e : j = i
      · subst e;simp [ini2,c]
      · rw [List.getElem_set_ne (fun h => e h.symm)]
        simp only [ini2,List.getElem_map,List.getElem_range];exact if_congr_prop' (by omega)
theorem ini2_all (z : List Int) : ini2 names reach avoid names.length z = ini2 names reach avoid names.length []:=by
  unfold ini2;apply List.map_congr_left;intro j hj;have:=List.mem_range.1 hj;rw [if_pos this,if_pos this]
theorem upd_zero (r : List Int) (k : Int) (hr : r.length = names.length) : upd names mine next avoid r k 0 = r:=by
  apply List.ext_getElem
  · simp [upd,hr]
  · intro j h1 h2;simp [upd,List.getD_eq_getElem?_getD,List.getElem?_eq_getElem h2]
theorem upd_succ (r : List Int) (k : Int) (i : Nat) (hi : i < names.length) : upd names mine next avoid r k (i + 1) = if gain names mine next avoid r i then (upd names mine next avoid r k i).set i k else upd names mine next avoid r k i:=by
  by_cases c : gain names mine next avoid r i
  · rw [if_pos c]
    apply List.ext_getElem
    · simp [upd]
    · intro j h1 h2
      by_cases e : j = i
      · subst e;simp [upd,c]
      · rw [List.getElem_set_ne (fun h => e h.symm)]
        simp only [upd,List.getElem_map,List.getElem_range];exact if_congr_prop' (by constructor <;> rintro ⟨a,b⟩ <;> exact ⟨by omega,b⟩)
  · rw [if_neg c]
    apply List.ext_getElem
    · simp [upd]
    · intro j h1 h2
      simp only [upd,List.getElem_map,List.getElem_range];refine if_congr_prop' ⟨fun ⟨a,b⟩ => ⟨?_,b⟩,fun ⟨a,b⟩ => ⟨by omega,b⟩⟩;by_cases e : j = i
      · subst e;exact absurd b c
      · omega
end
end Go.Proofs.YtdihodboopeakaaDoor.Pure
/-
Own text: the ranks with Reach;both programs' ranks are the same.
-/
namespace Go.Proofs.YtdihodboopeakaaDoor.Pure
open Go.RowKit Go.Proofs.YtdihodboopeakaaDoorW.PrintWords Go.Proofs.YtdihodboopeakaaDoorW.PrintLast Go.Proofs.YtdihodboopeakaaDoor.Pr Go.Proofs.YtdihodboopeakaaDoor.EvKit
open Classical
set_option linter.unusedVariables false

section
variable (names : List ByteArray) (mine : List Bool) (next : List (List Int)) (reach avoid : List ByteArray)
variable (hg : Good names mine next) (hw : SmallW reach avoid)
include hg
/-! the program -/
theorem wr_l7 (r q : List Int) (hr : r.length = names.length) (hq : q.length = names.length) (k0 : Int) (i : Nat) (hi : i < names.length) (res : List Int) (d : Nat) : ∀ (j : Nat) (x10 x11 : Bool),j + d = (nx next i).length →
    (((mn_ mine i = true ∧ (x10 = true ∨ anyGe r ((nx next i).drop j))) ∨ (mn_ mine i = false ∧ ¬ (x11 = false ∨ anyLt r ((nx next i).drop j)))) → Ev (fun k => impl_Board_wins.l6 k names.length (q.set i k0) k0 r names.length ((i + 1 : Nat) : Int) names mine next reach avoid) res) →
    (¬ ((mn_ mine i = true ∧ (x10 = true ∨ anyGe r ((nx next i).drop j))) ∨ (mn_ mine i = false ∧ ¬ (x11 = false ∨ anyLt r ((nx next i).drop j)))) → Ev (fun k => impl_Board_wins.l6 k names.length q k0 r names.length ((i + 1 : Nat) : Int) names mine next reach avoid) res) →
    Ev (fun k => impl_Board_wins.l7 k names.length q k0 r i x10 x11 names.length i (nx next i) (nx next i).length j names mine next reach avoid) res:=by
  have hn:=hg.1.2;have hnl:=nx_len names mine next hg i hi
  induction d with
  | zero =>
    intro j x10 x11 hj h1 h2;apply Ev.succ;rw [List.drop_of_length_le (by omega)] at h1 h2;have em : rdOf false mine (i : Int) = mn_ mine i:=rfl;simp only [impl_Board_wins.l7,show ¬ ((j : Int) < ((nx next i).length : Int)) by omega,if_false,em,succ_w2 i (by omega),Int.toNat_natCast];refine Ev.pos (by omega) (Ev.pos (by have:=hg.2.1.1;omega) ?_);by_cases m : mn_ mine i = true
    · refine Ev.pos m ?_
      by_cases c : x10 = true
      · exact Ev.pos c (Ev.pos (by omega) (h1 (Or.inl ⟨m,Or.inl c⟩)))
      · exact Ev.neg c (h2 (fun h => h.elim (fun h => h.2.elim c (anyGe_nil r)) (fun h => by rw [m] at h;exact absurd h.1 (by decide))))
    · refine Ev.neg m ?_
      (have m' : mn_ mine i = false:=by simpa using m);by_cases c : x11 = true
      · exact Ev.pos c (Ev.pos (by omega) (h1 (Or.inr ⟨m',fun h => h.elim (fun h => by rw [c] at h;cases h) (anyLt_nil r)⟩)))
      · exact Ev.neg c (h2 (fun h => h.elim (fun h => m h.1) (fun h => h.2 (Or.inl (by simpa using c)))))
  | succ d ih =>
    intro j x10 x11 hj h1 h2;apply Ev.succ;obtain ⟨g1,g2⟩:=nx_get names mine next hg i hi j (by omega);have e : rd (nx next i) (j : Int) = (nx next i).getD j 0:=rfl;have a1:=anyGe_step r (nx next i) j (by omega);have a2:=anyLt_step r (nx next i) j (by omega);simp only [impl_Board_wins.l7,show ((j : Int) < ((nx next i).length : Int)) by omega,show (0 : Int) ≤ (j : Int) by omega,if_true,e,g1,show (nx next i).getD j 0 < (r.length : Int) by omega,succ_w2 j (by omega)]
    have key (y10 y11 : Bool) (k1 : (x10 = true ∨ anyGe r ((nx next i).drop j)) ↔ (y10 = true ∨ anyGe r ((nx next i).drop (j + 1)))) (k2 : (x11 = false ∨ anyLt r ((nx next i).drop j)) ↔ (y11 = false ∨ anyLt r ((nx next i).drop (j + 1)))) :
        Ev (fun k => impl_Board_wins.l7 k names.length q k0 r i y10 y11 names.length i (nx next i) (nx next i).length ((j + 1 : Nat) : Int) names mine next reach avoid) res:=
      ih (j + 1) y10 y11 (by omega) (fun h => h1 (by rw [k1,k2];exact h)) (fun h => h2 (by rw [k1,k2];exact h))
    (have q1 : (decide (rd r ((nx next i).getD j 0) ≥ 0) = true ∨ anyGe r ((nx next i).drop (j + 1))) ↔ (rd r ((nx next i).getD j 0) ≥ 0 ∨ anyGe r ((nx next i).drop (j + 1))):=by rw [decide_eq_true_eq])
    have q2 : (decide (rd r ((nx next i).getD j 0) ≥ 0) = false ∨ anyLt r ((nx next i).drop (j + 1))) ↔ (rd r ((nx next i).getD j 0) < 0 ∨ anyLt r ((nx next i).drop (j + 1))):=by
      rw [decide_eq_false_iff_not];exact ⟨fun h => h.elim (fun h => Or.inl (by omega)) Or.inr,fun h => h.elim (fun h => Or.inl (by omega)) Or.inr⟩
    by_cases c10 : x10 = true
    · refine Ev.pos c10 ?_
      by_cases c11 : x11 = true
      · exact Ev.pos c11 (key true _ (by simp [c10]) (by rw [a2,q2];simp [c11]))
      · exact Ev.neg c11 (key true false (by simp [c10]) (by simp at c11;simp [c11]))
    · refine Ev.neg c10 ?_
      by_cases c11 : x11 = true
      · exact Ev.pos c11 (key _ _ (by rw [a1,q1];simp [c10]) (by rw [a2,q2];simp [c11]))
      · exact Ev.neg c11 (key _ false (by rw [a1,q1];simp [c10]) (by simp at c11;simp [c11]))
include hw
theorem wr_l6 (r : List Int) (hr : r.length = names.length) (m : Nat) (hm : m ≤ 100) (res : List Int)
    (h : Ev (fun k => impl_Board_wins.l5 k names.length (upd names mine next avoid r m names.length) ((m + 1 : Nat) : Int) names mine next reach avoid) res) (d : Nat) : ∀ i : Nat,i + d = names.length →
    Ev (fun k => impl_Board_wins.l6 k names.length (upd names mine next avoid r m i) m r names.length i names mine next reach avoid) res:=by
  have hn:=hg.1.2;have hx:=hg.2.1.2
  induction d with
  | zero =>
    intro i hi;apply Ev.succ
    obtain rfl : i = names.length:=by omega
    simp only [impl_Board_wins.l6,Int.lt_irrefl,if_false,succ_w2 m (by omega)];exact h
  | succ d ih =>
    intro i hi;apply Ev.succ;have ihi:=ih (i + 1) (by omega);rw [upd_succ names mine next avoid r m i (by omega)] at ihi;have e3 : rd_L3 next (i : Int) = nx next i:=rfl;simp only [impl_Board_wins.l6,show ((i : Int) < (names.length : Int)) by omega,show (0 : Int) ≤ (i : Int) by omega,show ((i : Int) < (r.length : Int)) by omega,show ((i : Int) < (next.length : Int)) by omega,if_true,e3]
    have skip (x : Bool) (hx' : x = true) (hl : ¬ gain names mine next avoid r i) : Ev (fun k => impl_Board_wins.j8 k names.length (upd names mine next avoid r m i) m r i names.length i x names mine next reach avoid) res:=by
      subst hx';apply Ev.succ;simp only [impl_Board_wins.j8,if_true,succ_w2 i (by omega)];rw [if_neg hl] at ihi;exact ihi
    by_cases c1 : rd r (i : Int) ≥ 0
    · exact Ev.pos c1 (skip true rfl (fun h' => by have:=h'.1;omega))
    · refine Ev.neg c1 (Ev.bnd (shuns_ev names mine next reach avoid hw.a1 i (by omega) (by omega)) ?_)
      by_cases c0 : nm names (i : Int) ∈ avoid
      · exact Ev.pos (decide_eq_true c0) (skip true rfl (fun h' => h'.2.1 c0))
      refine Ev.neg (by simpa using c0) ?_;by_cases c2 : nx next i = []
      · exact skip _ (by rw [c2];rfl) (fun h' => h'.2.2.1 c2)
      · have hb0 : (((nx next i).length : Int) == 0) = false:=by
          rw [beq_eq_false_iff_ne];intro h0;exact c2 (List.eq_nil_of_length_eq_zero (by omega))
        rw [hb0];apply Ev.succ;simp only [impl_Board_wins.j8,Bool.false_eq_true,if_false,e3];refine Ev.pos (by omega) (Ev.pos (by omega) ?_);refine wr_l7 names mine next reach avoid hg r _ hr (upd_length names mine next avoid r m i) m i (by omega) res (nx next i).length 0 false true (by omega) (fun hl => ?_) (fun hl => ?_)
        · have hl' : gain names mine next avoid r i:=⟨by omega,c0,c2,by simpa using hl⟩
          rw [if_pos hl'] at ihi;exact ihi
        · have hl' : ¬ gain names mine next avoid r i:=fun h' => hl (by simpa using h'.2.2.2)
          rw [if_neg hl'] at ihi;exact ihi
theorem wr_l5 (d : Nat) : ∀ (m : Nat) (r : List Int),m + d = names.length + 1 → r.length = names.length → Ev (fun k => impl_Board_wins.l5 k names.length r m names mine next reach avoid) (rounds names mine next avoid m d r):=by
  have hn:=hg.1.2
  induction d with
  | zero =>
    intro m r hm hr;apply Ev.succ;simp only [impl_Board_wins.l5,show ¬ ((m : Int) ≤ (names.length : Int)) by omega,if_false];exact Ev.some rfl
  | succ d ih =>
    intro m r hm hr;apply Ev.succ;simp only [impl_Board_wins.l5,show ((m : Int) ≤ (names.length : Int)) by omega,if_true];refine Ev.bnd0 (show slices_Clone_int_int.f r = some r by unfold slices_Clone_int_int.f;rw [if_pos (by omega)]) ?_;rw [hr];have:=wr_l6 names mine next reach avoid hg hw r hr m (by omega) _ (ih (m + 1) _ (by omega) (upd_length names mine next avoid r m names.length)) names.length 0 (by omega);rw [upd_zero names mine next avoid r m hr] at this;exact this
theorem wr_l4 (z : List Int) (hz : z.length = names.length) (res : List Int) (h : Ev (fun k => impl_Board_wins.l5 k names.length (ini2 names reach avoid names.length z) 1 names mine next reach avoid) res) (d : Nat) : ∀ i : Nat,i + d = names.length →
    Ev (fun k => impl_Board_wins.l4 k names.length (ini2 names reach avoid i z) names.length i names mine next reach avoid) res:=by
  have hn:=hg.1.2
  induction d with
  | zero =>
    intro i hi;apply Ev.succ
    obtain rfl : i = names.length:=by omega
    simp only [impl_Board_wins.l4,Int.lt_irrefl,if_false];exact h
  | succ d ih =>
    intro i hi;apply Ev.succ;have ihi:=ih (i + 1) (by omega);rw [ini2_succ names reach avoid i (by omega) z hz] at ihi;simp only [impl_Board_wins.l4,show ((i : Int) < (names.length : Int)) by omega,show (0 : Int) ≤ (i : Int) by omega,if_true,ini2_length,succ_w2 i (by omega),Int.toNat_natCast,Option.bind_some];refine Ev.bnd (aims_ev names mine next reach avoid hw.r1 hw.a1 i (by omega) (by omega)) ?_;by_cases c : aims names reach avoid i
    · rw [if_pos c] at ihi
      exact Ev.pos (decide_eq_true c) ihi
    · rw [if_neg c] at ihi
      exact Ev.neg (by simpa [aims] using c) ihi
/-! the reference -/
omit hw
noncomputable def gained (r : List Int) (i : Nat) : List Int:=((List.range i).filter fun j => decide (gain names mine next avoid r j)).map fun (j : Nat) => (j : Int)
omit hg in
theorem gained_succ (r : List Int) (i : Nat) : gained names mine next avoid r (i + 1) = if gain names mine next avoid r i then gained names mine next avoid r i ++ [(i : Int)] else gained names mine next avoid r i:=by
  unfold gained;rw [List.range_succ,List.filter_append,List.map_append];by_cases c : gain names mine next avoid r i
  · rw [if_pos c];simp [c]
  · rw [if_neg c];simp [c]
omit hg in
theorem gained_len (r : List Int) (i : Nat) : (gained names mine next avoid r i).length ≤ i:=by
  unfold gained;rw [List.length_map];have:=List.length_filter_le (fun j => decide (gain names mine next avoid r j)) (List.range i);rw [List.length_range] at this;exact this
theorem wq_l3 (r mo : List Int) (hr : r.length = names.length) (hmo : mo.length ≤ 100) (k0 : Int) (i : Nat) (hi : i < names.length) (res : List Int) (d : Nat) : ∀ (j : Nat) (x10 x11 : Bool),j + d = (nx next i).length →
    (((mn_ mine i = true ∧ (x10 = true ∨ anyGe r ((nx next i).drop j))) ∨ (mn_ mine i = false ∧ ¬ (x11 = false ∨ anyLt r ((nx next i).drop j)))) → Ev (fun k => spec_l22Ranks.l2 k names.length r k0 (mo ++ [(i : Int)]) names.length ((i + 1 : Nat) : Int) names mine next reach avoid) res) →
    (¬ ((mn_ mine i = true ∧ (x10 = true ∨ anyGe r ((nx next i).drop j))) ∨ (mn_ mine i = false ∧ ¬ (x11 = false ∨ anyLt r ((nx next i).drop j)))) → Ev (fun k => spec_l22Ranks.l2 k names.length r k0 mo names.length ((i + 1 : Nat) : Int) names mine next reach avoid) res) →
    Ev (fun k => spec_l22Ranks.l3 k names.length r k0 mo i x10 x11 names.length i (nx next i) (nx next i).length j names mine next reach avoid) res:=by
  have hn:=hg.1.2;have hnl:=nx_len names mine next hg i hi
  induction d with
  | zero =>
    intro j x10 x11 hj h1 h2;apply Ev.succ;rw [List.drop_of_length_le (by omega)] at h1 h2;have em : rdOf false mine (i : Int) = mn_ mine i:=rfl;simp only [spec_l22Ranks.l3,show ¬ ((j : Int) < ((nx next i).length : Int)) by omega,if_false,em,succ_w2 i (by omega),show mo.length < 17592186044416 by omega,if_true];refine Ev.pos (by omega) (Ev.pos (by have:=hg.2.1.1;omega) ?_);by_cases m : mn_ mine i = true
    · refine Ev.pos m ?_
      by_cases c : x10 = true
      · exact Ev.pos c (h1 (Or.inl ⟨m,Or.inl c⟩))
      · exact Ev.neg c (h2 (fun h => h.elim (fun h => h.2.elim c (anyGe_nil r)) (fun h => by rw [m] at h;exact absurd h.1 (by decide))))
    · refine Ev.neg m ?_
      (have m' : mn_ mine i = false:=by simpa using m);by_cases c : x11 = true
      · exact Ev.pos c (h1 (Or.inr ⟨m',fun h => h.elim (fun h => by rw [c] at h;cases h) (anyLt_nil r)⟩))
      · exact Ev.neg c (h2 (fun h => h.elim (fun h => m h.1) (fun h => h.2 (Or.inl (by simpa using c)))))
  | succ d ih =>
    intro j x10 x11 hj h1 h2;apply Ev.succ;obtain ⟨g1,g2⟩:=nx_get names mine next hg i hi j (by omega);have e : rd (nx next i) (j : Int) = (nx next i).getD j 0:=rfl;have a1:=anyGe_step r (nx next i) j (by omega);have a2:=anyLt_step r (nx next i) j (by omega);simp only [spec_l22Ranks.l3,show ((j : Int) < ((nx next i).length : Int)) by omega,show (0 : Int) ≤ (j : Int) by omega,if_true,e,g1,show (nx next i).getD j 0 < (r.length : Int) by omega,succ_w2 j (by omega)]
    have key (y10 y11 : Bool) (k1 : (x10 = true ∨ anyGe r ((nx next i).drop j)) ↔ (y10 = true ∨ anyGe r ((nx next i).drop (j + 1)))) (k2 : (x11 = false ∨ anyLt r ((nx next i).drop j)) ↔ (y11 = false ∨ anyLt r ((nx next i).drop (j + 1)))) :
        Ev (fun k => spec_l22Ranks.l3 k names.length r k0 mo i y10 y11 names.length i (nx next i) (nx next i).length ((j + 1 : Nat) : Int) names mine next reach avoid) res:=
      ih (j + 1) y10 y11 (by omega) (fun h => h1 (by rw [k1,k2];exact h)) (fun h => h2 (by rw [k1,k2];exact h))
    (have q1 : (decide (rd r ((nx next i).getD j 0) ≥ 0) = true ∨ anyGe r ((nx next i).drop (j + 1))) ↔ (rd r ((nx next i).getD j 0) ≥ 0 ∨ anyGe r ((nx next i).drop (j + 1))):=by rw [decide_eq_true_eq])
    have q2 : (decide (rd r ((nx next i).getD j 0) ≥ 0) = false ∨ anyLt r ((nx next i).drop (j + 1))) ↔ (rd r ((nx next i).getD j 0) < 0 ∨ anyLt r ((nx next i).drop (j + 1))):=by
      rw [decide_eq_false_iff_not];exact ⟨fun h => h.elim (fun h => Or.inl (by omega)) Or.inr,fun h => h.elim (fun h => Or.inl (by omega)) Or.inr⟩
    by_cases c10 : x10 = true
    · refine Ev.pos c10 ?_
      by_cases c11 : x11 = true
      · exact Ev.pos c11 (key true _ (by simp [c10]) (by rw [a2,q2];simp [c11]))
      · exact Ev.neg c11 (key true false (by simp [c10]) (by simp at c11;simp [c11]))
    · refine Ev.neg c10 ?_
      by_cases c11 : x11 = true
      · exact Ev.pos c11 (key _ _ (by rw [a1,q1];simp [c10]) (by rw [a2,q2];simp [c11]))
      · exact Ev.neg c11 (key _ false (by rw [a1,q1];simp [c10]) (by simp at c11;simp [c11]))
/-- Setting all of a list of places. -/
def setAll (k0 : Int) (r : List Int) (l : List Int) : List Int:=l.foldl (fun r i => r.set i.toNat k0) r
omit hg in
theorem setAll_length (k0 : Int) (l : List Int) : ∀ r : List Int,(setAll k0 r l).length = r.length:=by
  induction l with
  | nil => intro r;rfl
  | cons a l ih => intro r;show (setAll k0 (r.set a.toNat k0) l).length = _;rw [ih];simp
omit hg in
theorem setAll_get (k0 : Int) (l : List Int) (hl : ∀ a ∈ l,0 ≤ a) : ∀ (r : List Int) (j : Nat),j < r.length → (setAll k0 r l).getD j 0 = if (j : Int) ∈ l then k0 else r.getD j 0:=by
  induction l with
  | nil => intro r j hj;simp [setAll]
  | cons a l ih =>
    intro r j hj
    show (setAll k0 (r.set a.toNat k0) l).getD j 0 = _
    rw [ih (fun x hx => hl x (by simp [hx])) _ j (by simpa using hj)];have ha:=hl a (by simp);by_cases c : (j : Int) ∈ l
    · rw [if_pos c,if_pos (by simp [c])]
    · rw [if_neg c]
      by_cases e : (j : Int) = a
      · subst e
        rw [if_pos (by simp)]
        simp [List.getD_eq_getElem?_getD,hj]
      · rw [if_neg (by simp [c,e])]
        (have : a.toNat ≠ j:=by omega)
        simp [List.getD_eq_getElem?_getD,List.getElem?_set_ne this]
omit hg in
theorem setAll_upd (r : List Int) (hr : r.length = names.length) (k0 : Int) : setAll k0 r (gained names mine next avoid r names.length) = upd names mine next avoid r k0 names.length:=by
  have h0 : ∀ a ∈ gained names mine next avoid r names.length,0 ≤ a:=by
    intro a ha;obtain ⟨j,_,rfl⟩:=List.mem_map.1 ha
    omega
  apply List.ext_getElem
  · rw [setAll_length,upd_length,hr]
  · intro j h1 h2
    (have hj : j < r.length:=by rw [setAll_length] at h1;exact h1);have e:=setAll_get k0 _ h0 r j hj;rw [List.getD_eq_getElem?_getD,List.getElem?_eq_getElem h1,Option.getD_some] at e;rw [e];simp only [upd,List.getElem_map,List.getElem_range];refine if_congr_prop' ?_;unfold gained;rw [List.mem_map]
    constructor
    · rintro ⟨x,hx,e2⟩
      obtain rfl : x = j:=by omega
      rw [List.mem_filter,decide_eq_true_eq,List.mem_range] at hx;exact hx
    · intro h
      exact ⟨j,by rw [List.mem_filter,decide_eq_true_eq,List.mem_range];exact h,rfl⟩
omit hg in
theorem wq_l4 (hn : names.length ≤ 14) (m : Nat) (hm : m ≤ 100) (L : List Int) (hL : ∀ a ∈ L,0 ≤ a ∧ a < names.length) (hLl : L.length ≤ 100) (res : List Int) (d : Nat) : ∀ (i : Nat) (r : List Int),i + d = L.length → r.length = names.length →
    Ev (fun k => spec_l22Ranks.l1 k names.length (setAll m r (L.drop i)) ((m + 1 : Nat) : Int) names mine next reach avoid) res → Ev (fun k => spec_l22Ranks.l4 k names.length r m L L.length i names mine next reach avoid) res:=by
  induction d with
  | zero =>
    intro i r hi hr h;apply Ev.succ;rw [List.drop_of_length_le (by omega)] at h;simp only [spec_l22Ranks.l4,show ¬ ((i : Int) < (L.length : Int)) by omega,if_false,succ_w2 m (by omega)];exact h
  | succ d ih =>
    intro i r hi hr h;apply Ev.succ;rw [drop_get L i 0 (by omega)] at h;have e : rd L (i : Int) = L.getD i 0:=rfl;obtain ⟨g1,g2⟩:=hL (L.getD i 0) (getD_mem L i 0 (by omega));simp only [spec_l22Ranks.l4,show ((i : Int) < (L.length : Int)) by omega,show (0 : Int) ≤ (i : Int) by omega,if_true,e,g1,show L.getD i 0 < (r.length : Int) by omega,succ_w2 i (by omega)];exact ih (i + 1) _ (by omega) (by simp [hr]) h
include hw
theorem wq_l2 (r : List Int) (hr : r.length = names.length) (m : Nat) (hm : m ≤ 100) (res : List Int)
    (h : Ev (fun k => spec_l22Ranks.l1 k names.length (upd names mine next avoid r m names.length) ((m + 1 : Nat) : Int) names mine next reach avoid) res) (d : Nat) : ∀ i : Nat,i + d = names.length →
    Ev (fun k => spec_l22Ranks.l2 k names.length r m (gained names mine next avoid r i) names.length i names mine next reach avoid) res:=by
  have hn:=hg.1.2;have hx:=hg.2.1.2
  induction d with
  | zero =>
    intro i hi;apply Ev.succ
    obtain rfl : i = names.length:=by omega
    simp only [spec_l22Ranks.l2,Int.lt_irrefl,if_false];rw [← setAll_upd names mine next avoid r hr m] at h;have hl:=gained_len names mine next avoid r names.length
    have:=wq_l4 names mine next reach avoid hn m hm (gained names mine next avoid r names.length) (fun a ha => by
      obtain ⟨j,hj,rfl⟩:=List.mem_map.1 ha;rw [List.mem_filter,List.mem_range] at hj
      omega) (by omega) res (gained names mine next avoid r names.length).length 0 r (by omega) hr
    exact this (by simpa using h)
  | succ d ih =>
    intro i hi;apply Ev.succ;have ihi:=ih (i + 1) (by omega);rw [gained_succ names mine next avoid r i] at ihi;have hl:=gained_len names mine next avoid r i;have e3 : rd_L3 next (i : Int) = nx next i:=rfl;have en : rdOf ByteArray.empty names (i : Int) = nm names (i : Int):=rfl;simp only [spec_l22Ranks.l2,show ((i : Int) < (names.length : Int)) by omega,show (0 : Int) ≤ (i : Int) by omega,show ((i : Int) < (r.length : Int)) by omega,show ((i : Int) < (next.length : Int)) by omega,if_true,e3,en]
    have skip (x : Bool) (hx' : x = true) (hl' : ¬ gain names mine next avoid r i) : Ev (fun k => spec_l22Ranks.j3 k names.length r m (gained names mine next avoid r i) i names.length i x names mine next reach avoid) res:=by
      subst hx';apply Ev.succ;simp only [spec_l22Ranks.j3,if_true,succ_w2 i (by omega)];rw [if_neg hl'] at ihi;exact ihi
    by_cases c1 : rd r (i : Int) ≥ 0
    · exact Ev.pos c1 (skip true rfl (fun h' => by have:=h'.1;omega))
    · refine Ev.neg c1 (Ev.bnd (l22In_ev avoid _ hw.a1) ?_)
      by_cases c0 : nm names (i : Int) ∈ avoid
      · exact Ev.pos (decide_eq_true c0) (skip true rfl (fun h' => h'.2.1 c0))
      refine Ev.neg (by simpa using c0) ?_;by_cases c2 : nx next i = []
      · exact skip _ (by rw [c2];rfl) (fun h' => h'.2.2.1 c2)
      · have hb0 : (((nx next i).length : Int) == 0) = false:=by
          rw [beq_eq_false_iff_ne];intro h0;exact c2 (List.eq_nil_of_length_eq_zero (by omega))
        rw [hb0];apply Ev.succ;simp only [spec_l22Ranks.j3,Bool.false_eq_true,if_false,e3];refine Ev.pos (by omega) (Ev.pos (by omega) ?_);refine wq_l3 names mine next reach avoid hg r _ hr (by omega) m i (by omega) res (nx next i).length 0 false true (by omega) (fun hl2 => ?_) (fun hl2 => ?_)
        · have hl' : gain names mine next avoid r i:=⟨by omega,c0,c2,by simpa using hl2⟩
          rw [if_pos hl'] at ihi;exact ihi
        · have hl' : ¬ gain names mine next avoid r i:=fun h' => hl2 (by simpa using h'.2.2.2)
          rw [if_neg hl'] at ihi;exact ihi
theorem wq_l1 (d : Nat) : ∀ (m : Nat) (r : List Int),m + d = names.length + 1 → r.length = names.length → Ev (fun k => spec_l22Ranks.l1 k names.length r m names mine next reach avoid) (rounds names mine next avoid m d r):=by
  have hn:=hg.1.2
  induction d with
  | zero =>
    intro m r hm hr;apply Ev.succ;simp only [spec_l22Ranks.l1,show ¬ ((m : Int) ≤ (names.length : Int)) by omega,if_false];exact Ev.some rfl
  | succ d ih =>
    intro m r hm hr;apply Ev.succ;simp only [spec_l22Ranks.l1,show ((m : Int) ≤ (names.length : Int)) by omega,if_true,hr];have:=wq_l2 names mine next reach avoid hg hw r hr m (by omega) _ (ih (m + 1) _ (by omega) (upd_length names mine next avoid r m names.length)) names.length 0 (by omega);have e : gained names mine next avoid r 0 = []:=rfl;rw [e] at this;exact this
theorem wq_l0 (z : List Int) (hz : z.length = names.length) (res : List Int) (h : Ev (fun k => spec_l22Ranks.l1 k names.length (ini2 names reach avoid names.length z) 1 names mine next reach avoid) res) (d : Nat) : ∀ i : Nat,i + d = names.length →
    Ev (fun k => spec_l22Ranks.l0 k names.length (ini2 names reach avoid i z) names names.length i names mine next reach avoid) res:=by
  have hn:=hg.1.2
  induction d with
  | zero =>
    intro i hi;apply Ev.succ
    obtain rfl : i = names.length:=by omega
    simp only [spec_l22Ranks.l0,Int.lt_irrefl,if_false];exact h
  | succ d ih =>
    intro i hi;apply Ev.succ;have ihi:=ih (i + 1) (by omega);rw [ini2_succ names reach avoid i (by omega) z hz] at ihi;have en : rdOf ByteArray.empty names (i : Int) = nm names (i : Int):=rfl;simp only [spec_l22Ranks.l0,show ((i : Int) < (names.length : Int)) by omega,show (0 : Int) ≤ (i : Int) by omega,if_true,ini2_length,succ_w2 i (by omega),Int.toNat_natCast,Option.bind_some,en];refine Ev.bnd (l22In_ev reach _ hw.r1) ?_;by_cases c1 : nm names (i : Int) ∈ reach
    · refine Ev.pos (decide_eq_true c1) (Ev.bnd (l22In_ev avoid _ hw.a1) ?_)
      by_cases c2 : nm names (i : Int) ∈ avoid
      · rw [if_neg (fun h => h.2 c2)] at ihi
        exact Ev.pos (decide_eq_true c2) ihi
      · rw [if_pos ⟨c1,c2⟩] at ihi
        exact Ev.neg (by simpa using c2) ihi
    · rw [if_neg (fun h => c1 h.1)] at ihi
      exact Ev.neg (by simpa using c1) ihi
/-- The ranks. -/
noncomputable def ranks : List Int:=if reach.length = 0 then rankSafe names mine next avoid else rankReach names mine next reach avoid
theorem ranks_both : Ev (fun k => impl_Board_wins.f k names mine next reach avoid) (ranks names mine next reach avoid) ∧ Ev (fun k => spec_l22Ranks.f k names mine next reach avoid) (ranks names mine next reach avoid):=by
  have hn:=hg.1.2;unfold impl_Board_wins.f spec_l22Ranks.f ranks;(have e0 : ((names.length : Int)).toNat = names.length:=by omega);rw [e0];(have hrep : (List.replicate names.length (0 : Int)).length = names.length:=by simp);by_cases c : reach.length = 0
  · rw [if_pos c]
    constructor
    · refine Ev.pos (by omega) (Ev.pos (by omega) ?_)
      simp only [Option.bind_some,hrep];refine Ev.pos (by omega) ?_;have:=wi_l0 names mine next reach avoid hg hw _ (wi_l1 names mine next hg names.length (ini names avoid names.length) names.length (by have:=cnt_le (ini names avoid names.length);rw [ini_length] at this;exact this) (by have:=cnt_le (ini names avoid names.length);rw [ini_length] at this;exact this) (ini_length names avoid _)) names.length 0 (by omega);rw [ini_zero] at this;exact this
    · refine Ev.pos (by omega) (Ev.pos (by omega) ?_)
      simp only [Option.bind_some];refine Ev.pos (by omega) ?_;have:=ws_l0 names mine next reach avoid hg hw _ (ws_l1 names mine next hg names.length 0 (ini names avoid names.length) (by omega) (ini_length names avoid _)) names.length 0 (by omega);rw [ini_zero] at this;refine Ev.bnd ?_ (Ev.some rfl);unfold spec_l22Safe.f;exact this
  · rw [if_neg c]
    constructor
    · refine Ev.pos (by omega) (Ev.pos (by omega) ?_)
      simp only [Option.bind_some,hrep];refine Ev.neg (by omega) ?_;have:=wr_l4 names mine next reach avoid hg hw (List.replicate names.length 0) hrep _ (wr_l5 names mine next reach avoid hg hw names.length 1 _ (by omega) (ini2_length names reach avoid _ _)) names.length 0 (by omega);rw [ini2_zero names reach avoid _ hrep,ini2_all] at this;exact this
    · refine Ev.pos (by omega) (Ev.pos (by omega) ?_)
      simp only [Option.bind_some];refine Ev.neg (by omega) ?_;have:=wq_l0 names mine next reach avoid hg hw (List.replicate names.length 0) hrep _ (wq_l1 names mine next reach avoid hg hw names.length 1 _ (by omega) (ini2_length names reach avoid _ _)) names.length 0 (by omega);rw [ini2_zero names reach avoid _ hrep,ini2_all] at this;exact this
end
end Go.Proofs.YtdihodboopeakaaDoor.Pure
/-
Own text: is a wish met along a path: the program and the reference.
-/
namespace Go.Proofs.YtdihodboopeakaaDoor.Pure
open Go.RowKit Go.Proofs.YtdihodboopeakaaDoorW.PrintWords Go.Proofs.YtdihodboopeakaaDoorW.PrintLast Go.Proofs.YtdihodboopeakaaDoor.Pr Go.Proofs.YtdihodboopeakaaDoor.EvKit
open Classical

theorem if_congr_prop {α : Sort _} {p q : Prop} [Decidable p] [Decidable q] {a b : α} (h : p ↔ q) : (if p then a else b) = (if q then a else b):=by
  by_cases c : p
  · rw [if_pos c,if_pos (h.1 c)]
  · rw [if_neg c,if_neg (fun d => c (h.2 d))]
/-- What is told of the places of a path from here on. -/
noncomputable def met (names : List ByteArray) (reach avoid : List ByteArray) : List Int → Bool × Bool
  | [] => (decide (reach.length = 0),true)
  | p :: ps => if nm names p ∈ avoid then (false,true) else if nm names p ∈ reach then (true,true) else met names reach avoid ps
/-- A path from its i-th place on. -/
def PathOk (names : List ByteArray) (next : List (List Int)) (path : List Int) (i : Nat) : Prop:=
  From path.length i fun j => (0 ≤ path.getD j 0 ∧ path.getD j 0 < names.length) ∧ (0 < j → path.getD j 0 ∈ next.getD (path.getD (j - 1) 0).toNat [])
section
variable (names : List ByteArray) (mine : List Bool) (next : List (List Int)) (reach avoid : List ByteArray) (path : List Int)
variable (hw : SmallW reach avoid) (hp : path.length ≤ 60)
include hw hp
theorem met_spec (hok : PathOk names next path 0) (d : Nat) : ∀ i : Nat,i + d = path.length → Ev (fun q => spec_WishMet.l2 q path path.length i names mine next reach avoid) (met names reach avoid (path.drop i)):=by
  induction d with
  | zero =>
    intro i hi;apply Ev.succ;rw [List.drop_of_length_le (by omega)];simp only [spec_WishMet.l2,show ¬ ((i : Int) < (path.length : Int)) by omega,if_false,met];refine Ev.some ?_
    congr 1
    rw [Bool.eq_iff_iff];simp only [beq_iff_eq,decide_eq_true_eq]
    omega
  | succ d ih =>
    intro i hi;apply Ev.succ;rw [drop_get path i 0 (by omega)];obtain ⟨⟨g1,g2⟩,_⟩:=hok i (Nat.zero_le i) (by omega);have e : rd path (i : Int) = path.getD i 0:=rfl;simp only [spec_WishMet.l2,show ((i : Int) < (path.length : Int)) by omega,show (0 : Int) ≤ (i : Int) by omega,if_true,e,g1,g2,met,succ_w2 i (by omega)];refine Ev.bnd (l22In_ev avoid _ hw.a1) ?_;have en : rdOf ByteArray.empty names (path.getD i 0) = nm names (path.getD i 0):=rfl;rw [en];by_cases c : nm names (path.getD i 0) ∈ avoid
    · rw [if_pos c]
      exact Ev.pos (decide_eq_true c) (Ev.some rfl)
    · rw [if_neg c]
      refine Ev.neg (by simpa using c) (Ev.bnd (l22In_ev reach _ hw.r1) ?_);by_cases c2 : nm names (path.getD i 0) ∈ reach
      · rw [if_pos c2]
        exact Ev.pos (decide_eq_true c2) (Ev.some rfl)
      · rw [if_neg c2]
        exact Ev.neg (by simpa using c2) (ih (i + 1) (by omega))
theorem met_impl (hok : PathOk names next path 0) (d : Nat) : ∀ i : Nat,i + d = path.length → Ev (fun q => impl_WishMet.l1 q path path.length i names mine next reach avoid) (met names reach avoid (path.drop i)):=by
  induction d with
  | zero =>
    intro i hi;apply Ev.succ;rw [List.drop_of_length_le (by omega)];simp only [impl_WishMet.l1,show ¬ ((i : Int) < (path.length : Int)) by omega,if_false,met];refine Ev.some ?_
    congr 1
    rw [Bool.eq_iff_iff];simp only [beq_iff_eq,decide_eq_true_eq]
    omega
  | succ d ih =>
    intro i hi;apply Ev.succ;rw [drop_get path i 0 (by omega)];obtain ⟨⟨g1,g2⟩,_⟩:=hok i (Nat.zero_le i) (by omega);have e : rd path (i : Int) = path.getD i 0:=rfl;simp only [impl_WishMet.l1,show ((i : Int) < (path.length : Int)) by omega,show (0 : Int) ≤ (i : Int) by omega,if_true,e,met,succ_w2 i (by omega)];refine Ev.bnd (shuns_ev names mine next reach avoid hw.a1 _ g1 g2) ?_;by_cases c : nm names (path.getD i 0) ∈ avoid
    · rw [if_pos c]
      exact Ev.pos (decide_eq_true c) (Ev.some rfl)
    · rw [if_neg c]
      refine Ev.neg (by simpa using c) (Ev.bnd (aims_ev names mine next reach avoid hw.r1 hw.a1 _ g1 g2) ?_);by_cases c2 : nm names (path.getD i 0) ∈ reach
      · rw [if_pos c2]
        exact Ev.pos (decide_eq_true ⟨c2,c⟩) (Ev.some rfl)
      · rw [if_neg c2]
        exact Ev.neg (fun h => c2 (of_decide_eq_true h).1) (ih (i + 1) (by omega))
omit hw hp in
theorem step_spec (i : Nat) (p : Int) (row : List Int) (hrow : row.length ≤ 1048576) (r : Bool × Bool) (hi : i ≤ 100) (d : Nat) : ∀ (j : Nat) (x : Bool),j + d = row.length →
    ((x = true ∨ p ∈ row.drop j) → Ev (fun q => spec_WishMet.l0 q path path path.length ((i + 1 : Nat) : Int) names mine next reach avoid) r) → (¬ (x = true ∨ p ∈ row.drop j) → r = (false,false)) →
    Ev (fun q => spec_WishMet.l1 q path p x path path.length i row row.length j names mine next reach avoid) r:=by
  induction d with
  | zero =>
    intro j x hj h1 h2;apply Ev.succ;rw [List.drop_of_length_le (by omega)] at h1 h2;simp only [spec_WishMet.l1,show ¬ ((j : Int) < (row.length : Int)) by omega,if_false,succ_w2 i (by omega)];by_cases c : x = true
    · exact Ev.pos c (h1 (Or.inl c))
    · exact Ev.neg c (Ev.some (h2 (by simp [c])).symm)
  | succ d ih =>
    intro j x hj h1 h2;apply Ev.succ;have hm:=mem_drop_step row j 0 p (by omega);have e : rd row (j : Int) = row.getD j 0:=rfl;simp only [spec_WishMet.l1,show ((j : Int) < (row.length : Int)) by omega,show (0 : Int) ≤ (j : Int) by omega,if_true,e,succ_w2 j (by omega)];by_cases c : x = true
    · subst c
      exact Ev.pos rfl (ih (j + 1) true (by omega) (fun _ => h1 (Or.inl rfl)) (fun h => absurd (Or.inl rfl) h))
    · refine Ev.neg c (ih (j + 1) _ (by omega) (fun h => h1 ?_) (fun h => h2 ?_))
      · rcases h with h | h
        · exact Or.inr (hm.2 (Or.inl (beq_iff_eq.1 h).symm))
        · exact Or.inr (hm.2 (Or.inr h))
      · rintro (h' | h')
        · exact c h'
        · rcases hm.1 h' with h'' | h''
          · exact h (Or.inl (beq_iff_eq.2 h''.symm))
          · exact h (Or.inr h'')
theorem path_spec (hg : Good names mine next) (hb : Small names mine next) (d : Nat) : ∀ i : Nat,i + d = path.length → (∀ j,j < i → (0 ≤ path.getD j 0 ∧ path.getD j 0 < names.length) ∧ (0 < j → path.getD j 0 ∈ next.getD (path.getD (j - 1) 0).toNat [])) →
    Ev (fun q => spec_WishMet.l0 q path path path.length i names mine next reach avoid) (if PathOk names next path i then met names reach avoid path else (false,false)) ∧
    Ev (fun q => impl_WishMet.l0 q path path path.length i names mine next reach avoid) (if PathOk names next path i then met names reach avoid path else (false,false)):=by
  induction d with
  | zero =>
    intro i hi hpre;(have hok : PathOk names next path 0:=fun j _ hj => hpre j (by omega));have hoki : PathOk names next path i:=From.end_ (by omega);rw [if_pos hoki]
    constructor <;> apply Ev.succ
    · simp only [spec_WishMet.l0,show ¬ ((i : Int) < (path.length : Int)) by omega,if_false]
      have:=met_spec names mine next reach avoid path hw hp hok path.length 0 (by omega)
      simpa using this
    · simp only [impl_WishMet.l0,show ¬ ((i : Int) < (path.length : Int)) by omega,if_false]
      have:=met_impl names mine next reach avoid path hw hp hok path.length 0 (by omega)
      simpa using this
  | succ d ih =>
    intro i hi hpre;have hstep:=From.step (C:=fun j => (0 ≤ path.getD j 0 ∧ path.getD j 0 < names.length) ∧ (0 < j → path.getD j 0 ∈ next.getD (path.getD (j - 1) 0).toNat [])) (n:=path.length) (i:=i) (by omega);have e : rd path (i : Int) = path.getD i 0:=rfl;have hn : names.length ≤ 14:=hg.1.2;have hno (h : ¬ ((0 ≤ path.getD i 0 ∧ path.getD i 0 < names.length) ∧ (0 < i → path.getD i 0 ∈ next.getD (path.getD (i - 1) 0).toNat []))) : (if PathOk names next path i then met names reach avoid path else (false,false)) = (false,false):=if_neg (fun h' => h (hstep.1 h').1)
    have hyes (h : (0 ≤ path.getD i 0 ∧ path.getD i 0 < names.length) ∧ (0 < i → path.getD i 0 ∈ next.getD (path.getD (i - 1) 0).toNat [])) :
        Ev (fun q => spec_WishMet.l0 q path path path.length ((i + 1 : Nat) : Int) names mine next reach avoid) (if PathOk names next path i then met names reach avoid path else (false,false)) ∧
        Ev (fun q => impl_WishMet.l0 q path path path.length ((i + 1 : Nat) : Int) names mine next reach avoid) (if PathOk names next path i then met names reach avoid path else (false,false)):=by
      have e2 : (if PathOk names next path i then met names reach avoid path else (false,false)) = (if PathOk names next path (i + 1) then met names reach avoid path else (false,false)):=if_congr_prop ⟨fun h' => (hstep.1 h').2,fun h' => hstep.2 ⟨h,h'⟩⟩;rw [e2];refine ih (i + 1) (by omega) (fun j hj => ?_);by_cases ej : j = i
      · subst ej;exact h
      · exact hpre j (by omega)
    generalize (if PathOk names next path i then met names reach avoid path else (false,false)) = r at hno hyes
    constructor <;> apply Ev.succ
    · simp only [spec_WishMet.l0,show ((i : Int) < (path.length : Int)) by omega,show (0 : Int) ≤ (i : Int) by omega,if_true,e]
      have bad (x : Bool) (hx : x = true) (h : r = (false,false)) : Ev (fun q => spec_WishMet.j2 q path i (path.getD i 0) path path.length i x names mine next reach avoid) r:=by
        subst hx;apply Ev.succ;simp only [spec_WishMet.j2,if_true];exact Ev.some h.symm
      by_cases c1 : path.getD i 0 < 0
      · exact Ev.pos c1 (bad true rfl (hno (fun h => by have:=h.1.1;omega)))
      refine Ev.neg c1 ?_;by_cases c2 : path.getD i 0 ≥ (names.length : Int)
      · exact bad _ (decide_eq_true c2) (hno (fun h => by have:=h.1.2;omega))
      rw [decide_eq_false c2];apply Ev.succ;simp only [spec_WishMet.j2,Bool.false_eq_true,if_false,succ_w2 i (by omega)];by_cases c3 : i = 0
      · refine Ev.pos (by omega) ((hyes ⟨⟨by omega,by omega⟩,fun h => by omega⟩).1)
      · refine Ev.neg (by omega) ?_
        (have hw1 : wrap64 ((i : Int) - 1) = ((i - 1 : Nat) : Int):=by rw [wrap64_id (by omega) (by omega)];omega);have e1 : rd path ((i - 1 : Nat) : Int) = path.getD (i - 1) 0:=rfl;obtain ⟨⟨q1,q2⟩,_⟩:=hpre (i - 1) (by omega);have hx:=hg.2.1.2;simp only [hw1,e1];refine Ev.pos (by omega) (Ev.pos (by omega) (Ev.pos q1 (Ev.pos (by omega) ?_)));have e4 : rd_L3 next (path.getD (i - 1) 0) = next.getD (path.getD (i - 1) 0).toNat []:=rfl;rw [e4];have hrow : (next.getD (path.getD (i - 1) 0).toNat []).length ≤ 1048576:=hb.x2 _ (getD_mem next _ [] (by omega));refine step_spec names mine next reach avoid path i _ _ hrow r (by omega) (next.getD (path.getD (i - 1) 0).toNat []).length 0 false (by omega) (fun h => (hyes ⟨⟨by omega,by omega⟩,fun _ => ?_⟩).1) (fun h => hno (fun h' => h (Or.inr ?_)))
        · rcases h with h | h
          · cases h
          · simpa using h
        · simpa using h'.2 (by omega)
    · simp only [impl_WishMet.l0,show ((i : Int) < (path.length : Int)) by omega,show (0 : Int) ≤ (i : Int) by omega,if_true,e,succ_w2 i (by omega)]
      have hbt : impl_between.f (path.getD i 0) 0 (wrap64 ((names.length : Int) - 1)) = some (decide (0 ≤ path.getD i 0 ∧ path.getD i 0 < names.length)):=by
        rw [wrap64_id (by omega) (by omega)];unfold impl_between.f;by_cases c1 : path.getD i 0 ≥ 0
        · rw [if_pos c1]
          congr 1
          rw [Bool.eq_iff_iff];simp only [decide_eq_true_eq]
          omega
        · rw [if_neg c1,decide_eq_false (fun h => c1 h.1)]
      refine Ev.bnd0 hbt ?_;by_cases c1 : 0 ≤ path.getD i 0 ∧ path.getD i 0 < names.length
      · refine Ev.pos (decide_eq_true c1) ?_
        by_cases c3 : 0 < i
        · refine Ev.pos (by omega) ?_
          (have hw1 : wrap64 ((i : Int) - 1) = ((i - 1 : Nat) : Int):=by rw [wrap64_id (by omega) (by omega)];omega);have e1 : rd path ((i - 1 : Nat) : Int) = path.getD (i - 1) 0:=rfl;obtain ⟨⟨q1,q2⟩,_⟩:=hpre (i - 1) (by omega);have hx:=hg.2.1.2;simp only [hw1,e1];refine Ev.pos (by omega) (Ev.pos (by omega) (Ev.pos q1 (Ev.pos (by omega) ?_)));have e4 : rd_L3 next (path.getD (i - 1) 0) = next.getD (path.getD (i - 1) 0).toNat []:=rfl;rw [e4];have hrow : (next.getD (path.getD (i - 1) 0).toNat []).length ≤ 1048576:=hb.x2 _ (getD_mem next _ [] (by omega));refine Ev.bnd (containsI_ev _ _ hrow) ?_;by_cases c4 : path.getD i 0 ∈ next.getD (path.getD (i - 1) 0).toNat []
          · exact Ev.pos (decide_eq_true c4) ((hyes ⟨c1,fun _ => c4⟩).2)
          · exact Ev.neg (by simpa using c4) (Ev.some (hno (fun h => c4 (h.2 c3))).symm)
        · exact Ev.neg (by omega) ((hyes ⟨c1,fun h => absurd h c3⟩).2)
      · exact Ev.neg (by simpa using c1) (Ev.some (hno (fun h => c1 h.1)).symm)
end
noncomputable def metAll (names : List ByteArray) (mine : List Bool) (next : List (List Int)) (reach avoid : List ByteArray) (path : List Int) : Bool × Bool:=
  if (Good names mine next ∧ WishOk reach avoid) ∧ (1 ≤ path.length ∧ path.length ≤ 60) ∧ PathOk names next path 0 then met names reach avoid path else (false,false)
theorem wishMet_both (names : List ByteArray) (mine : List Bool) (next : List (List Int)) (reach avoid : List ByteArray) (path : List Int) (hb : Small names mine next) (hw : SmallW reach avoid) :
    Ev (fun q => spec_WishMet.f q names mine next reach avoid path) (metAll names mine next reach avoid path) ∧ Ev (fun q => impl_WishMet.f q names mine next reach avoid path) (metAll names mine next reach avoid path):=by
  obtain ⟨a1,a2⟩:=goodBoard_both names mine next hb.n2 hb.x2;have b1:=l22Good_ev reach avoid hw.r2 hw.a2;have b2:=goodWish_eq reach avoid hw.r1 hw.r2 hw.a1 hw.a2
  have bs (x : Bool) (hx : x = true) (hn : ¬ ((Good names mine next ∧ WishOk reach avoid) ∧ (1 ≤ path.length ∧ path.length ≤ 60))) : Ev (fun q => spec_WishMet.j0 q path x names mine next reach avoid) (metAll names mine next reach avoid path):=by
    subst hx;apply Ev.succ;simp only [spec_WishMet.j0,if_true];exact Ev.some (if_neg (fun h => hn ⟨h.1,h.2.1⟩)).symm
  have bi (x : Bool) (hx : x = true) (hn : ¬ ((Good names mine next ∧ WishOk reach avoid) ∧ (1 ≤ path.length ∧ path.length ≤ 60))) : Ev (fun q => impl_WishMet.j0 q path x names mine next reach avoid) (metAll names mine next reach avoid path):=by
    subst hx;apply Ev.succ;simp only [impl_WishMet.j0,if_true];exact Ev.some (if_neg (fun h => hn ⟨h.1,h.2.1⟩)).symm
  unfold spec_WishMet.f impl_WishMet.f;by_cases c1 : Good names mine next
  · by_cases c2 : WishOk reach avoid
    · by_cases c3 : path.length < 1
      · exact ⟨Ev.bnd a1 (Ev.pos (decide_eq_true c1) (Ev.bnd b1 (Ev.pos (decide_eq_true c2) (Ev.pos (by omega) (bs _ rfl (fun h => by have:=h.2.1;omega)))))),
          Ev.bnd a2 (Ev.pos (decide_eq_true c1) (Ev.bnd0 b2 (Ev.pos (decide_eq_true c2) (Ev.pos (by omega) (bi _ rfl (fun h => by have:=h.2.1;omega))))))⟩
      · by_cases c4 : path.length > 60
        · exact ⟨Ev.bnd a1 (Ev.pos (decide_eq_true c1) (Ev.bnd b1 (Ev.pos (decide_eq_true c2) (Ev.neg (by omega) (bs _ (decide_eq_true (by omega)) (fun h => by have:=h.2.2;omega)))))),
            Ev.bnd a2 (Ev.pos (decide_eq_true c1) (Ev.bnd0 b2 (Ev.pos (decide_eq_true c2) (Ev.neg (by omega) (bi _ (decide_eq_true (by omega)) (fun h => by have:=h.2.2;omega))))))⟩
        · obtain ⟨p1,p2⟩:=path_spec names mine next reach avoid path hw (by omega) c1 hb path.length 0 (by omega) (fun j hj => absurd hj (Nat.not_lt_zero j))
          have em : metAll names mine next reach avoid path = (if PathOk names next path 0 then met names reach avoid path else (false,false)):=if_congr_prop ⟨fun h => h.2.2,fun h => ⟨⟨c1,c2⟩,⟨by omega,by omega⟩,h⟩⟩;rw [em];have ed : decide ((path.length : Int) > 60) = false:=decide_eq_false (by omega);refine ⟨Ev.bnd a1 (Ev.pos (decide_eq_true c1) (Ev.bnd b1 (Ev.pos (decide_eq_true c2) (Ev.neg (by omega) ?_)))),Ev.bnd a2 (Ev.pos (decide_eq_true c1) (Ev.bnd0 b2 (Ev.pos (decide_eq_true c2) (Ev.neg (by omega) ?_))))⟩
          · rw [ed]
            apply Ev.succ;simp only [spec_WishMet.j0,Bool.false_eq_true,if_false];exact p1
          · rw [ed]
            apply Ev.succ;simp only [impl_WishMet.j0,Bool.false_eq_true,if_false];exact p2
    · exact ⟨Ev.bnd a1 (Ev.pos (decide_eq_true c1) (Ev.bnd b1 (Ev.neg (by simpa using c2) (bs _ rfl (fun h => c2 h.1.2))))),Ev.bnd a2 (Ev.pos (decide_eq_true c1) (Ev.bnd0 b2 (Ev.neg (by simpa using c2) (bi _ rfl (fun h => c2 h.1.2)))))⟩
  · exact ⟨Ev.bnd a1 (Ev.neg (by simpa using c1) (bs _ rfl (fun h => c1 h.1.1))),Ev.bnd a2 (Ev.neg (by simpa using c1) (bi _ rfl (fun h => c1 h.1.1)))⟩
end Go.Proofs.YtdihodboopeakaaDoor.Pure
