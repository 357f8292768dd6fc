/-
Own text: bits of int64 numbers from 0 on.
-/
import Derived.Test.YtbdonoeellmeoaaDoorWMore
import Derived.Test.YtbdonoeellmeoaaDoorEvKit
import Derived.Laws.BitsAllLaws
import Derived.Laws.BitsLemmas
namespace Go.Proofs.YtbdonoeellmeoaaDoor.EvKit
open Go.RowKit Go.Proofs.YtbdonoeellmeoaaDoorW.PrintWords Go.Proofs.YtbdonoeellmeoaaDoorW.PrintMore

theorem ofInt_i64 (a : Nat) (ha : a < 9223372036854775808) : (BitVec.ofInt 64 (a : Int)).toNat = a := by
  rw [BitVec.ofInt_natCast, BitVec.toNat_ofNat]; exact Nat.mod_eq_of_lt (by omega)
theorem i64_and_nat (a b : Nat) (ha : a < 9223372036854775808) (hb : b < 9223372036854775808) : bits .and .i64 (a : Int) (b : Int) = ((a &&& b : Nat) : Int) := by
  have hx : a &&& b < 2 ^ 63 := Nat.and_lt_two_pow _ (by omega)
  show IntKind.i64.wrap ((BitVec.ofInt 64 (a : Int) &&& BitVec.ofInt 64 (b : Int)).toNat : Int) = _
  rw [BitVec.toNat_and, ofInt_i64 a ha, ofInt_i64 b hb, IntKind.wrap_i64]
  omega
theorem shr_nat (n s : Nat) (hs : s ≤ 64) : shr .i64 (n : Int) (s : Int) = ((n / 2 ^ s : Nat) : Int) := by
  unfold shr
  rw [show ((s : Int)).toNat = s by omega, Nat.min_eq_left (by simpa [IntKind.bits] using hs)]
  rw [Int.natCast_ediv, Int.natCast_pow]
  rfl
/-- The bit of a number at place s. -/
theorem bit_nat (n s : Nat) (hn : n < 9223372036854775808) (hs : s ≤ 64) : bits .and .i64 (shr .i64 (n : Int) (s : Int)) 1 = ((n / 2 ^ s % 2 : Nat) : Int) := by
  rw [shr_nat n s hs]
  have := i64_and_nat (n / 2 ^ s) 1 (Nat.lt_of_le_of_lt (Nat.div_le_self _ _) hn) (by omega)
  rw [Nat.and_one_is_mod] at this
  exact this
end Go.Proofs.YtbdonoeellmeoaaDoor.EvKit
