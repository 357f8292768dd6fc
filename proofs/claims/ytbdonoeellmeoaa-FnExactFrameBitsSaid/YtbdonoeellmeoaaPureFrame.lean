/-
Own text: the bits of a frame: what the program's and the reference's helpers come to.
-/
import Derived.Test.YtbdonoeellmeoaaPrd2
import Derived.Test.YtbdonoeellmeoaaPureBits
import Derived.Test.YtbdonoeellmeoaaPureBase
import Derived.Test.YtbdonoeellmeoaaPureStuff
import Derived.Test.YtbdonoeellmeoaaEvKit
namespace Go.Proofs.Ytbdonoeellmeoaa.Pure
open Go.RowKit Go.Proofs.YtbdonoeellmeoaaW.PrintWords Go.Proofs.YtbdonoeellmeoaaW.PrintLast Go.Proofs.YtbdonoeellmeoaaW.PrintMore Go.Proofs.Ytbdonoeellmeoaa.Pr Go.Proofs.Ytbdonoeellmeoaa.EvKit

/-! Strings as lists of bytes -/
theorem sON_append (xs ys : List Int) : strOfNums xs ++ strOfNums ys = strOfNums (xs ++ ys) := by
  apply ByteArray.ext
  simp [strOfNums]
theorem bytesOf_sON (xs : List Int) (h : ∀ x ∈ xs, 0 ≤ x ∧ x < 256) : bytesOf (strOfNums xs) = xs := by
  unfold bytesOf
  rw [strOfNums_data, List.map_map]
  conv => rhs; rw [← List.map_id xs]
  apply List.map_congr_left
  intro x hx
  have := h x hx
  simp only [Function.comp, id]
  rw [UInt8.toNat_ofNat']
  omega
theorem bt_drop (s : ByteArray) (i : Nat) (h : i < s.size) : (bytesOf s).drop i = bt s (i : Int) :: (bytesOf s).drop (i + 1) := by
  have hl : i < (bytesOf s).length := by rw [bytesOf_length]; exact h
  rw [List.drop_eq_getElem_cons hl]
  congr 1
  have := rd_bytesOf s i
  unfold rd at this
  rw [← this]
  simp [List.getD_eq_getElem?_getD, List.getElem?_eq_getElem hl]

/-! The reference's stuffing -/
theorem l23Stuff_l0 (s : ByteArray) (hs : s.size ≤ 100000) (d : Nat) : ∀ (i : Nat) (x : List Int) (run last : Int), i + d = s.size → x.length ≤ 2 * i → 0 ≤ run → run ≤ 4 → x ++ stf last run ((bytesOf s).drop i) = stf 0 0 (bytesOf s) →
    Ev (fun k => spec_l23Stuff.l0 k s x run last i) (strOfNums (stf 0 0 (bytesOf s))) := by
  induction d with
  | zero =>
    intro i x run last hi _ _ _ h
    apply Ev.succ
    rw [List.drop_of_length_le (by rw [bytesOf_length]; omega)] at h
    simp only [spec_l23Stuff.l0, show ¬ ((i : Int) < (s.size : Int)) by omega, if_false]
    exact Ev.some (by rw [← h]; simp [stf])
  | succ d ih =>
    intro i x run last hi hx h0 h4 h
    apply Ev.succ
    rw [bt_drop s i (by omega)] at h
    simp only [stf] at h
    have hw : wrap64 ((i : Int) + 1) = ((i + 1 : Nat) : Int) := by rw [wrap64_id (by omega) (by omega)]; omega
    have hl : x.length < 140737488355328 := by omega
    have hl2 : (x ++ [bt s i]).length < 140737488355328 := by simp; omega
    simp only [spec_l23Stuff.l0, show ((i : Int) < (s.size : Int)) by omega, show (0 : Int) ≤ (i : Int) by omega, if_true, hl, Option.bind_some, hl2, hw]
    by_cases c : bt s i = last
    · rw [if_pos c] at h
      simp only [c, if_true]
      rw [wrap64_id (x := run + 1) (by omega) (by omega)]
      rw [c] at h
      by_cases r5 : run + 1 = 5
      · rw [if_pos r5] at h
        simp only [r5, if_true]
        refine ih (i + 1) _ 1 _ (by omega) (by simp; omega) (by omega) (by omega) ?_
        rw [List.append_assoc, List.append_assoc]
        exact h
      · rw [if_neg r5] at h
        simp only [r5, if_false]
        refine ih (i + 1) _ _ _ (by omega) (by simp; omega) (by omega) (by omega) ?_
        rw [List.append_assoc]
        exact h
    · rw [if_neg c, if_neg (by decide)] at h
      simp only [c, if_false]
      refine ih (i + 1) _ _ _ (by omega) (by simp; omega) (by omega) (by omega) ?_
      rw [List.append_assoc]
      exact h
theorem l23Stuff_ev (s : ByteArray) (hs : s.size ≤ 100000) : Ev (fun k => spec_l23Stuff.f k s) (strOfNums (stf 0 0 (bytesOf s))) := by
  unfold spec_l23Stuff.f
  have e : wrap64 ((wrap64 ((s.size : Int) + (wrap64 ((s.size : Int) / 4)))) + 1) = (s.size : Int) + (s.size : Int) / 4 + 1 := by
    rw [wrap64_id (x := (s.size : Int) / 4) (by omega) (by omega), wrap64_id (x := (s.size : Int) + (s.size : Int) / 4) (by omega) (by omega), wrap64_id (by omega) (by omega)]
  rw [e]
  refine Ev.pos (by omega) (Ev.pos (by omega) ?_)
  exact l23Stuff_l0 s hs s.size 0 [] 0 0 (by omega) (by simp) (by omega) (by omega) (by simp)

/-! A number's bits -/
def bin (a n : Nat) : List Int := (List.range n).map fun j => ((48 + a / 2 ^ (n - 1 - j) % 2 : Nat) : Int)
theorem bin_length (a n : Nat) : (bin a n).length = n := by simp [bin]
theorem bin_mem (a n : Nat) : ∀ x ∈ bin a n, x = 48 ∨ x = 49 := by
  intro x hx
  simp only [bin, List.mem_map] at hx
  obtain ⟨j, _, rfl⟩ := hx
  have : a / 2 ^ (n - 1 - j) % 2 = 0 ∨ a / 2 ^ (n - 1 - j) % 2 = 1 := by omega
  rcases this with e | e <;> simp [e]
theorem bin_get (a n j : Nat) (h : j < n) : (bin a n)[j]? = some ((48 + a / 2 ^ (n - 1 - j) % 2 : Nat) : Int) := by
  simp [bin, h]
theorem bit_byte (a s : Nat) (ha : a < 9223372036854775808) (hs : s ≤ 64) (x : Int) (hx : x = (s : Int)) : (wrap64 (48 + (Go.bits .and .i64 (shr .i64 (a : Int) x) 1))) % 256 = ((48 + a / 2 ^ s % 2 : Nat) : Int) := by
  rw [hx, bit_nat a s ha hs]
  unfold wrap64
  omega
theorem l23Put_l0 (a n : Nat) (ha : a < 9223372036854775808) (hn : n ≤ 60) (l : List Int) (hl : l.length < 100000) (d : Nat) : ∀ i : Nat, i + d = n →
    Ev (fun k => spec_l23Put.l0 k (l ++ (bin a n).take i) a ((n : Int) - 1 - i)) (l ++ bin a n) := by
  induction d with
  | zero =>
    intro i hi
    apply Ev.succ
    simp only [spec_l23Put.l0, show ¬ ((n : Int) - 1 - i ≥ 0) by omega, if_false]
    rw [List.take_of_length_le (by rw [bin_length]; omega)]
    exact Ev.some rfl
  | succ d ih =>
    intro i hi
    apply Ev.succ
    have hu : IntKind.u64.wrap ((n : Int) - 1 - i) = ((n - 1 - i : Nat) : Int) := by simp only [IntKind.wrap, IntKind.bits, IntKind.signed]; simp; omega
    have hlen : (l ++ (bin a n).take i).length < 140737488355328 := by simp [bin_length]; omega
    simp only [spec_l23Put.l0, show ((n : Int) - 1 - i ≥ 0) by omega, if_true, hu, show (0 : Int) ≤ ((n - 1 - i : Nat) : Int) by omega, hlen]
    rw [bit_byte a (n - 1 - i) ha (by omega) _ rfl, wrap64_id (x := (n : Int) - 1 - i - 1) (by omega) (by omega)]
    have e : l ++ (bin a n).take i ++ [((48 + a / 2 ^ (n - 1 - i) % 2 : Nat) : Int)] = l ++ (bin a n).take (i + 1) := by
      rw [List.append_assoc, List.take_add_one, bin_get a n i (by omega)]
      rfl
    rw [e]
    have := ih (i + 1) (by omega)
    rw [show (n : Int) - 1 - ((i + 1 : Nat) : Int) = (n : Int) - 1 - i - 1 by omega] at this
    exact this
theorem l23Put_ev (a n : Nat) (ha : a < 9223372036854775808) (hn : n ≤ 60) (l : List Int) (hl : l.length < 100000) (A N : Int) (hA : A = a) (hN : N = n) : Ev (fun k => spec_l23Put.f k l A N) (l ++ bin a n) := by
  subst hA hN
  unfold spec_l23Put.f
  rw [wrap64_id (by omega) (by omega)]
  have := l23Put_l0 a n ha hn l hl n 0 (by omega)
  simpa using this
theorem binary_l0 (a n : Nat) (ha : a < 9223372036854775808) (hn : n ≤ 60) (d : Nat) : ∀ i : Nat, i + d = n →
    Ev (fun k => impl_binary.l0 k a n ((bin a n).take i ++ List.replicate (n - i) 0) n i) (strOfNums (bin a n)) := by
  induction d with
  | zero =>
    intro i hi
    apply Ev.succ
    obtain rfl : i = n := by omega
    simp only [impl_binary.l0, Int.lt_irrefl, if_false]
    rw [List.take_of_length_le (by rw [bin_length]; omega)]
    exact Ev.some (by simp)
  | succ d ih =>
    intro i hi
    apply Ev.succ
    have hlen : ((bin a n).take i ++ List.replicate (n - i) (0 : Int)).length = n := by simp [bin_length]; omega
    simp only [impl_binary.l0, show ((i : Int) < (n : Int)) by omega, if_true, show (0 : Int) ≤ (i : Int) by omega, hlen]
    rw [wrap64_id (x := (n : Int) - 1) (by omega) (by omega), wrap64_id (x := (n : Int) - 1 - i) (by omega) (by omega)]
    refine Ev.pos (by omega) ?_
    rw [bit_byte a (n - 1 - i) ha (by omega) _ (by omega), show wrap64 ((i : Int) + 1) = ((i + 1 : Nat) : Int) by rw [wrap64_id (by omega) (by omega)]; omega]
    have e : ((bin a n).take i ++ List.replicate (n - i) (0 : Int)).set (i : Int).toNat ((48 + a / 2 ^ (n - 1 - i) % 2 : Nat) : Int) = (bin a n).take (i + 1) ++ List.replicate (n - (i + 1)) 0 := by
      rw [Int.toNat_natCast, show n - i = (n - (i + 1)) + 1 by omega, List.replicate_succ, List.take_add_one, bin_get a n i (by omega)]
      have hl : ((bin a n).take i).length = i := by simp [bin_length]; omega
      rw [List.set_append_right _ _ (by omega), hl, Nat.sub_self, List.append_assoc]
      rfl
    rw [e]
    exact ih (i + 1) (by omega)
theorem binary_ev (a n : Nat) (ha : a < 9223372036854775808) (hn : n ≤ 60) (A N : Int) (hA : A = a) (hN : N = n) : Ev (fun k => impl_binary.f k A N) (strOfNums (bin a n)) := by
  subst hA hN
  unfold impl_binary.f
  refine Ev.pos (by omega) (Ev.pos (by omega) ?_)
  simp only [Option.bind_some, Int.toNat_natCast, List.length_replicate]
  have := binary_l0 a n ha hn n 0 (by omega)
  simpa using this

/-! The checksum -/
theorem i64_xor_nat (a b : Nat) (ha : a < 9223372036854775808) (hb : b < 9223372036854775808) : Go.bits .xor .i64 (a : Int) (b : Int) = ((a ^^^ b : Nat) : Int) := by
  have hx : a ^^^ b < 2 ^ 63 := Nat.xor_lt_two_pow (by omega) (by omega)
  show IntKind.i64.wrap ((BitVec.ofInt 64 (a : Int) ^^^ BitVec.ofInt 64 (b : Int)).toNat : Int) = _
  rw [BitVec.toNat_xor, ofInt_i64 a ha, ofInt_i64 b hb, IntKind.wrap_i64]
  omega
def crcStep (r : Nat) (c : Int) : Nat := if Go.bits .xor .i64 ((r : Int) / 16384) ((c - 48) % 256) = 1 then (r * 2) % 32768 ^^^ 17817 else (r * 2) % 32768
def crcL (r : Nat) : List Int → Nat
  | [] => r
  | c :: cs => crcL (crcStep r c) cs
theorem crcStep_lt (r : Nat) (c : Int) : crcStep r c < 32768 := by
  unfold crcStep
  have h1 : r * 2 % 32768 < 2 ^ 15 := Nat.mod_lt _ (by decide)
  split
  · exact Nat.xor_lt_two_pow h1 (by decide)
  · exact h1
theorem crcL_lt (l : List Int) : ∀ r : Nat, r < 32768 → crcL r l < 32768 := by
  induction l with
  | nil => intro r h; exact h
  | cons c cs ih => intro r _; exact ih _ (crcStep_lt r c)
theorem crc_low (r : Nat) (h : r < 32768) : Go.bits .and .i64 (wrap64 ((r : Int) * 2)) 32767 = ((r * 2 % 32768 : Nat) : Int) := by
  rw [wrap64_id (by omega) (by omega), show (r : Int) * 2 = ((r * 2 : Nat) : Int) by omega]
  have := i64_and_nat (r * 2) 32767 (by omega) (by omega)
  rw [show (32767 : Nat) = 2 ^ 15 - 1 by decide, Nat.and_two_pow_sub_one_eq_mod] at this
  exact this
theorem crc_x (r : Nat) : Go.bits .xor .i64 ((r * 2 % 32768 : Nat) : Int) 17817 = ((r * 2 % 32768 ^^^ 17817 : Nat) : Int) :=
  i64_xor_nat _ 17817 (by omega) (by omega)
theorem crc_top (r : Nat) (h : r < 32768) : Go.bits .and .i64 ((r : Int) / 16384) 1 = (r : Int) / 16384 := by
  have := i64_and_nat (r / 16384) 1 (by omega) (by omega)
  rw [Nat.and_one_is_mod, show r / 16384 % 2 = r / 16384 by omega] at this
  rw [show (r : Int) / 16384 = ((r / 16384 : Nat) : Int) by omega]
  exact this
theorem crc_both (s : ByteArray) (hs : s.size ≤ 100000) (d : Nat) : ∀ (i r : Nat), i + d = s.size → r < 32768 →
    Ev (fun k => spec_l23Crc.l0 k s r i) ((crcL r ((bytesOf s).drop i) : Nat) : Int) ∧ Ev (fun k => impl_crc15.l0 k s r s.size i) ((crcL r ((bytesOf s).drop i) : Nat) : Int) := by
  induction d with
  | zero =>
    intro i r hi hr
    rw [List.drop_of_length_le (by rw [bytesOf_length]; omega)]
    constructor <;> apply Ev.succ
    · simp only [spec_l23Crc.l0, show ¬ ((i : Int) < (s.size : Int)) by omega, if_false]
      exact Ev.some rfl
    · simp only [impl_crc15.l0, show ¬ ((i : Int) < (s.size : Int)) by omega, if_false]
      exact Ev.some rfl
  | succ d ih =>
    intro i r hi hr
    have hw : wrap64 ((i : Int) + 1) = ((i + 1 : Nat) : Int) := by rw [wrap64_id (by omega) (by omega)]; omega
    rw [bt_drop s i (by omega)]
    simp only [crcL]
    obtain ⟨h1, h2⟩ := ih (i + 1) (crcStep r (bt s i)) (by omega) (crcStep_lt _ _)
    constructor <;> apply Ev.succ
    · simp only [spec_l23Crc.l0, show ((i : Int) < (s.size : Int)) by omega, show (0 : Int) ≤ (i : Int) by omega, if_true, hw, crc_top r hr, crc_low r hr, crc_x r]
      by_cases c : Go.bits .xor .i64 ((r : Int) / 16384) ((bt s i - 48) % 256) = 1
      · simp only [c, if_true]
        rw [show crcStep r (bt s i) = r * 2 % 32768 ^^^ 17817 by unfold crcStep; rw [if_pos c]] at h1 ⊢
        exact h1
      · simp only [c, if_false]
        rw [show crcStep r (bt s i) = r * 2 % 32768 by unfold crcStep; rw [if_neg c]] at h1 ⊢
        exact h1
    · simp only [impl_crc15.l0, show ((i : Int) < (s.size : Int)) by omega, show (0 : Int) ≤ (i : Int) by omega, if_true, hw, crc_low r hr, crc_x r]
      by_cases c : Go.bits .xor .i64 ((r : Int) / 16384) ((bt s i - 48) % 256) = 1
      · simp only [c, if_true]
        rw [show crcStep r (bt s i) = r * 2 % 32768 ^^^ 17817 by unfold crcStep; rw [if_pos c]] at h2 ⊢
        exact h2
      · simp only [c, if_false]
        rw [show crcStep r (bt s i) = r * 2 % 32768 by unfold crcStep; rw [if_neg c]] at h2 ⊢
        exact h2
def crcOf (s : ByteArray) : Nat := crcL 0 (bytesOf s)
theorem crcOf_lt (s : ByteArray) : crcOf s < 32768 := crcL_lt _ 0 (by decide)
theorem crc_spec (s : ByteArray) (hs : s.size ≤ 100000) : Ev (fun k => spec_l23Crc.f k s) ((crcOf s : Nat) : Int) := by
  unfold spec_l23Crc.f crcOf
  have := (crc_both s hs s.size 0 0 (by omega) (by decide)).1
  simpa using this
theorem crc_impl (s : ByteArray) (hs : s.size ≤ 100000) : Ev (fun k => impl_crc15.f k s) ((crcOf s : Nat) : Int) := by
  unfold impl_crc15.f crcOf
  have := (crc_both s hs s.size 0 0 (by omega) (by decide)).2
  simpa using this
end Go.Proofs.Ytbdonoeellmeoaa.Pure
