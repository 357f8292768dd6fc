/-
Own text: bits of a bus: what the program's and the reference's helpers come to.
-/
import Derived.Test.YtbdonoeellmeoaaDoorPrd3
import Derived.Test.YtbdonoeellmeoaaDoorGbd
import Derived.Test.YtbdonoeellmeoaaDoorPureBits
import Derived.Test.YtbdonoeellmeoaaDoorPureBase
import Derived.Test.YtbdonoeellmeoaaDoorPureStuff
import Derived.Test.YtbdonoeellmeoaaDoorEvKit
namespace Go.Proofs.YtbdonoeellmeoaaDoor.Pure
open Go.RowKit Go.Proofs.YtbdonoeellmeoaaDoorW.PrintWords Go.Proofs.YtbdonoeellmeoaaDoorW.PrintLast Go.Proofs.YtbdonoeellmeoaaDoorW.PrintMore Go.Proofs.YtbdonoeellmeoaaDoor.Pr Go.Proofs.YtbdonoeellmeoaaDoor.EvKit

/-! Strings as lists of bytes -/
theorem sON_append (xs ys : List Int) : strOfNums xs ++ strOfNums ys = strOfNums (xs ++ ys) := by
  apply ByteArray.ext
  simp [strOfNums]
theorem bytesOf_sON (xs : List Int) (h : ∀ x ∈ xs, 0 ≤ x ∧ x < 256) : bytesOf (strOfNums xs) = xs := by
  unfold bytesOf
  rw [strOfNums_data, List.map_map]
  conv => rhs; rw [← List.map_id xs]
  apply List.map_congr_left
  intro x hx
  have := h x hx
  simp only [Function.comp, id]
  rw [UInt8.toNat_ofNat']
  omega
theorem bt_drop (s : ByteArray) (i : Nat) (h : i < s.size) : (bytesOf s).drop i = bt s (i : Int) :: (bytesOf s).drop (i + 1) := by
  have hl : i < (bytesOf s).length := by rw [bytesOf_length]; exact h
  rw [List.drop_eq_getElem_cons hl]
  congr 1
  have := rd_bytesOf s i
  unfold rd at this
  rw [← this]
  simp [List.getD_eq_getElem?_getD, List.getElem?_eq_getElem hl]

/-! The reference's stuffing -/
theorem l23Stuff_l0 (s : ByteArray) (hs : s.size ≤ 100000) (d : Nat) : ∀ (i : Nat) (x : List Int) (run last : Int), i + d = s.size → x.length ≤ 2 * i → 0 ≤ run → run ≤ 4 → x ++ stf last run ((bytesOf s).drop i) = stf 0 0 (bytesOf s) →
    Ev (fun k => spec_l23Stuff.l0 k s x run last i) (strOfNums (stf 0 0 (bytesOf s))) := by
  induction d with
  | zero =>
    intro i x run last hi _ _ _ h
    apply Ev.succ
    rw [List.drop_of_length_le (by rw [bytesOf_length]; omega)] at h
    simp only [spec_l23Stuff.l0, show ¬ ((i : Int) < (s.size : Int)) by omega, if_false]
    exact Ev.some (by rw [← h]; simp [stf])
  | succ d ih =>
    intro i x run last hi hx h0 h4 h
    apply Ev.succ
    rw [bt_drop s i (by omega)] at h
    simp only [stf] at h
    have hw : wrap64 ((i : Int) + 1) = ((i + 1 : Nat) : Int) := by rw [wrap64_id (by omega) (by omega)]; omega
    have hl : x.length < 140737488355328 := by omega
    have hl2 : (x ++ [bt s i]).length < 140737488355328 := by simp; omega
    simp only [spec_l23Stuff.l0, show ((i : Int) < (s.size : Int)) by omega, show (0 : Int) ≤ (i : Int) by omega, if_true, hl, Option.bind_some, hl2, hw]
    by_cases c : bt s i = last
    · rw [if_pos c] at h
      simp only [c, if_true]
      rw [wrap64_id (x := run + 1) (by omega) (by omega)]
      rw [c] at h
      by_cases r5 : run + 1 = 5
      · rw [if_pos r5] at h
        simp only [r5, if_true]
        refine ih (i + 1) _ 1 _ (by omega) (by simp; omega) (by omega) (by omega) ?_
        rw [List.append_assoc, List.append_assoc]
        exact h
      · rw [if_neg r5] at h
        simp only [r5, if_false]
        refine ih (i + 1) _ _ _ (by omega) (by simp; omega) (by omega) (by omega) ?_
        rw [List.append_assoc]
        exact h
    · rw [if_neg c, if_neg (by decide)] at h
      simp only [c, if_false]
      refine ih (i + 1) _ _ _ (by omega) (by simp; omega) (by omega) (by omega) ?_
      rw [List.append_assoc]
      exact h
theorem l23Stuff_ev (s : ByteArray) (hs : s.size ≤ 100000) : Ev (fun k => spec_l23Stuff.f k s) (strOfNums (stf 0 0 (bytesOf s))) := by
  unfold spec_l23Stuff.f
  have e : wrap64 ((wrap64 ((s.size : Int) + (wrap64 ((s.size : Int) / 4)))) + 1) = (s.size : Int) + (s.size : Int) / 4 + 1 := by
    rw [wrap64_id (x := (s.size : Int) / 4) (by omega) (by omega), wrap64_id (x := (s.size : Int) + (s.size : Int) / 4) (by omega) (by omega), wrap64_id (by omega) (by omega)]
  rw [e]
  refine Ev.pos (by omega) (Ev.pos (by omega) ?_)
  exact l23Stuff_l0 s hs s.size 0 [] 0 0 (by omega) (by simp) (by omega) (by omega) (by simp)

/-! The checksum -/
theorem i64_xor_nat (a b : Nat) (ha : a < 9223372036854775808) (hb : b < 9223372036854775808) : Go.bits .xor .i64 (a : Int) (b : Int) = ((a ^^^ b : Nat) : Int) := by
  have hx : a ^^^ b < 2 ^ 63 := Nat.xor_lt_two_pow (by omega) (by omega)
  show IntKind.i64.wrap ((BitVec.ofInt 64 (a : Int) ^^^ BitVec.ofInt 64 (b : Int)).toNat : Int) = _
  rw [BitVec.toNat_xor, ofInt_i64 a ha, ofInt_i64 b hb, IntKind.wrap_i64]
  omega
def crcStep (r : Nat) (c : Int) : Nat := if Go.bits .xor .i64 ((r : Int) / 16384) ((c - 48) % 256) = 1 then (r * 2) % 32768 ^^^ 17817 else (r * 2) % 32768
def crcL (r : Nat) : List Int → Nat
  | [] => r
  | c :: cs => crcL (crcStep r c) cs
theorem crcStep_lt (r : Nat) (c : Int) : crcStep r c < 32768 := by
  unfold crcStep
  have h1 : r * 2 % 32768 < 2 ^ 15 := Nat.mod_lt _ (by decide)
  split
  · exact Nat.xor_lt_two_pow h1 (by decide)
  · exact h1
theorem crcL_lt (l : List Int) : ∀ r : Nat, r < 32768 → crcL r l < 32768 := by
  induction l with
  | nil => intro r h; exact h
  | cons c cs ih => intro r _; exact ih _ (crcStep_lt r c)
theorem crc_low (r : Nat) (h : r < 32768) : Go.bits .and .i64 (wrap64 ((r : Int) * 2)) 32767 = ((r * 2 % 32768 : Nat) : Int) := by
  rw [wrap64_id (by omega) (by omega), show (r : Int) * 2 = ((r * 2 : Nat) : Int) by omega]
  have := i64_and_nat (r * 2) 32767 (by omega) (by omega)
  rw [show (32767 : Nat) = 2 ^ 15 - 1 by decide, Nat.and_two_pow_sub_one_eq_mod] at this
  exact this
theorem crc_x (r : Nat) : Go.bits .xor .i64 ((r * 2 % 32768 : Nat) : Int) 17817 = ((r * 2 % 32768 ^^^ 17817 : Nat) : Int) :=
  i64_xor_nat _ 17817 (by omega) (by omega)
theorem crc_top (r : Nat) (h : r < 32768) : Go.bits .and .i64 ((r : Int) / 16384) 1 = (r : Int) / 16384 := by
  have := i64_and_nat (r / 16384) 1 (by omega) (by omega)
  rw [Nat.and_one_is_mod, show r / 16384 % 2 = r / 16384 by omega] at this
  rw [show (r : Int) / 16384 = ((r / 16384 : Nat) : Int) by omega]
  exact this
theorem crc_both (s : ByteArray) (hs : s.size ≤ 100000) (d : Nat) : ∀ (i r : Nat), i + d = s.size → r < 32768 →
    Ev (fun k => spec_l23Crc.l0 k s r i) ((crcL r ((bytesOf s).drop i) : Nat) : Int) ∧ Ev (fun k => impl_crc15.l0 k s r s.size i) ((crcL r ((bytesOf s).drop i) : Nat) : Int) := by
  induction d with
  | zero =>
    intro i r hi hr
    rw [List.drop_of_length_le (by rw [bytesOf_length]; omega)]
    constructor <;> apply Ev.succ
    · simp only [spec_l23Crc.l0, show ¬ ((i : Int) < (s.size : Int)) by omega, if_false]
      exact Ev.some rfl
    · simp only [impl_crc15.l0, show ¬ ((i : Int) < (s.size : Int)) by omega, if_false]
      exact Ev.some rfl
  | succ d ih =>
    intro i r hi hr
    have hw : wrap64 ((i : Int) + 1) = ((i + 1 : Nat) : Int) := by rw [wrap64_id (by omega) (by omega)]; omega
    rw [bt_drop s i (by omega)]
    simp only [crcL]
    obtain ⟨h1, h2⟩ := ih (i + 1) (crcStep r (bt s i)) (by omega) (crcStep_lt _ _)
    constructor <;> apply Ev.succ
    · simp only [spec_l23Crc.l0, show ((i : Int) < (s.size : Int)) by omega, show (0 : Int) ≤ (i : Int) by omega, if_true, hw, crc_top r hr, crc_low r hr, crc_x r]
      by_cases c : Go.bits .xor .i64 ((r : Int) / 16384) ((bt s i - 48) % 256) = 1
      · simp only [c, if_true]
        rw [show crcStep r (bt s i) = r * 2 % 32768 ^^^ 17817 by unfold crcStep; rw [if_pos c]] at h1 ⊢
        exact h1
      · simp only [c, if_false]
        rw [show crcStep r (bt s i) = r * 2 % 32768 by unfold crcStep; rw [if_neg c]] at h1 ⊢
        exact h1
    · simp only [impl_crc15.l0, show ((i : Int) < (s.size : Int)) by omega, show (0 : Int) ≤ (i : Int) by omega, if_true, hw, crc_low r hr, crc_x r]
      by_cases c : Go.bits .xor .i64 ((r : Int) / 16384) ((bt s i - 48) % 256) = 1
      · simp only [c, if_true]
        rw [show crcStep r (bt s i) = r * 2 % 32768 ^^^ 17817 by unfold crcStep; rw [if_pos c]] at h2 ⊢
        exact h2
      · simp only [c, if_false]
        rw [show crcStep r (bt s i) = r * 2 % 32768 by unfold crcStep; rw [if_neg c]] at h2 ⊢
        exact h2
def crcOf (s : ByteArray) : Nat := crcL 0 (bytesOf s)
theorem crcOf_lt (s : ByteArray) : crcOf s < 32768 := crcL_lt _ 0 (by decide)
theorem crc_spec (s : ByteArray) (hs : s.size ≤ 100000) : Ev (fun k => spec_l23Crc.f k s) ((crcOf s : Nat) : Int) := by
  unfold spec_l23Crc.f crcOf
  have := (crc_both s hs s.size 0 0 (by omega) (by decide)).1
  simpa using this
theorem crc_impl (s : ByteArray) (hs : s.size ≤ 100000) : Ev (fun k => impl_crc15.f k s) ((crcOf s : Nat) : Int) := by
  unfold impl_crc15.f crcOf
  have := (crc_both s hs s.size 0 0 (by omega) (by decide)).2
  simpa using this

/-! What are bits -/
instance (c : Int) : Decidable (bit01 c) := by unfold bit01; infer_instance
theorem bit_eq (b : UInt8) : (b == 48 || b == 49) = decide ((b.toNat : Int) = 48 ∨ (b.toNat : Int) = 49) := by
  rw [Bool.eq_iff_iff]
  simp only [Bool.or_eq_true, beq_iff_eq, decide_eq_true_eq]
  constructor
  · rintro (rfl | rfl) <;> decide
  · rintro (h | h)
    · left; apply UInt8.toNat_inj.1; have : b.toNat = 48 := by omega
      rw [this]; rfl
    · right; apply UInt8.toNat_inj.1; have : b.toNat = 49 := by omega
      rw [this]; rfl
theorem all01_iff (s : ByteArray) : all01 s = true ↔ ∀ c ∈ bytesOf s, bit01 c := by
  unfold all01 bytesOf
  rw [List.all_eq_true]
  constructor
  · intro h c hc
    obtain ⟨b, hb, rfl⟩ := List.mem_map.1 hc
    have := h b hb
    rw [bit_eq] at this
    exact of_decide_eq_true this
  · intro h b hb
    rw [bit_eq]
    exact decide_eq_true (h _ (List.mem_map.2 ⟨b, hb, rfl⟩))
theorem l23Bits_l0 (s : ByteArray) (hs : s.size ≤ 300) (d : Nat) : ∀ i : Nat, i + d = s.size → Ev (fun k => spec_l23Bits.l0 k s i) (((bytesOf s).drop i).all fun c => decide (bit01 c)) := by
  induction d with
  | zero =>
    intro i hi
    apply Ev.succ
    rw [List.drop_of_length_le (by rw [bytesOf_length]; omega)]
    simp only [spec_l23Bits.l0, show ¬ ((i : Int) < (s.size : Int)) by omega, if_false]
    exact Ev.some rfl
  | succ d ih =>
    intro i hi
    apply Ev.succ
    rw [bt_drop s i (by omega)]
    have hw : wrap64 ((i : Int) + 1) = ((i + 1 : Nat) : Int) := by rw [wrap64_id (by omega) (by omega)]; omega
    simp only [spec_l23Bits.l0, show ((i : Int) < (s.size : Int)) by omega, show (0 : Int) ≤ (i : Int) by omega, if_true, hw, List.all_cons]
    by_cases c1 : bt s i = 48
    · simp only [c1, if_true]
      have : decide (bit01 48) = true := decide_eq_true (Or.inl rfl)
      rw [this, Bool.true_and]
      exact ih (i + 1) (by omega)
    · simp only [c1, if_false]
      by_cases c2 : bt s i = 49
      · simp only [c2, if_true]
        have : decide (bit01 49) = true := decide_eq_true (Or.inr rfl)
        rw [this, Bool.true_and]
        exact ih (i + 1) (by omega)
      · simp only [c2, if_false]
        have : decide (bit01 (bt s i)) = false := decide_eq_false (fun h => h.elim c1 c2)
        rw [this, Bool.false_and]
        exact Ev.some rfl
theorem l23Bits_ev (s : ByteArray) : Ev (fun k => spec_l23Bits.f k s) (decide (s.size ≤ 300) && all01 s) := by
  unfold spec_l23Bits.f
  by_cases h : s.size ≤ 300
  · refine Ev.neg (by omega) ?_
    rw [decide_eq_true h, Bool.true_and]
    refine Ev.eq (by simpa using l23Bits_l0 s h s.size 0 (by omega)) ?_
    rw [Bool.eq_iff_iff, all01_iff, List.all_eq_true]
    simp
  · refine Ev.pos (by omega) ?_
    rw [decide_eq_false h, Bool.false_and]
    exact Ev.some rfl
theorem goodBits_eq (s : ByteArray) : impl_goodBits.f s = some (decide (s.size ≤ 300) && all01 s) := rfl
end Go.Proofs.YtbdonoeellmeoaaDoor.Pure
