/-
Own text: floats by their bits, plainly: every NaN is one, a nought's sign is told apart or not.
-/
import Derived.Laws.FloatArith
namespace Go.Proofs.Ytdcnlghcdmiciaa.Fl
open Go Ieee
set_option linter.unusedVariables false
set_option linter.unusedSimpArgs false
abbrev D : Format := Ieee.double
theorem sw_eq : D.signWeight = 9223372036854775808 := by decide
theorem inf_eq : D.infRung = 9218868437227405312 := by decide
theorem bin_eq : D.binade = 4503599627370496 := by decide
theorem lp_eq : D.leastPlace = -1074 := by decide
/-- Its bits are a NaN's. -/
def nanB (x : Nat) : Bool := decide (9218868437227405312 < x % 9223372036854775808)
/-- Its bits are a number's. -/
def finB (x : Nat) : Bool := decide (x % 9223372036854775808 < 9218868437227405312)
def NANC : Nat := 9221120237041090561
/-- Bits by what they stand for: every NaN is NANC. -/
def ab (x : Nat) : Nat := if nanB x then NANC else x
theorem nan_NANC : nanB NANC = true := by decide
theorem fin_NANC : finB NANC = false := by decide
theorem ab_ab (x : Nat) : ab (ab x) = ab x := by
  unfold ab
  by_cases h : nanB x = true
  · rw [if_pos h, if_pos nan_NANC]
  · rw [if_neg h, if_neg h]
theorem nan_ab (x : Nat) : nanB (ab x) = nanB x := by
  unfold ab
  by_cases h : nanB x = true
  · rw [if_pos h, nan_NANC, h]
  · rw [if_neg h]
theorem fin_of_nan {x : Nat} (h : nanB x = true) : finB x = false := by
  unfold nanB at h; unfold finB
  have := of_decide_eq_true h
  exact decide_eq_false (by omega)
theorem fin_ab (x : Nat) : finB (ab x) = finB x := by
  unfold ab
  by_cases h : nanB x = true
  · rw [if_pos h, fin_NANC, fin_of_nan h]
  · rw [if_neg h]
theorem ab_of {x : Nat} (h : nanB x = false) : ab x = x := by unfold ab; rw [h]; rfl
theorem read_eq (x : Nat) : D.read x = (if x % 9223372036854775808 < 4503599627370496 then Datum.number (x / 9223372036854775808 % 2 == 1) (x % 9223372036854775808) (-1074) else if x % 9223372036854775808 < 9218868437227405312 then .number (x / 9223372036854775808 % 2 == 1) (4503599627370496 + x % 9223372036854775808 % 4503599627370496) (-1074 + (x % 9223372036854775808 / 4503599627370496 - 1 : Nat)) else if x % 9223372036854775808 = 9218868437227405312 then .infinity (x / 9223372036854775808 % 2 == 1) else .nan (x / 9223372036854775808 % 2 == 1) (x % 9223372036854775808 - 9218868437227405312)) := by
  unfold Format.read
  rw [sw_eq, inf_eq, bin_eq, lp_eq]
theorem read_nan {x : Nat} (h : nanB x = true) : ∃ s t, D.read x = .nan s t := by
  have h := of_decide_eq_true h
  rw [read_eq, if_neg (by omega), if_neg (by omega), if_neg (by omega)]
  exact ⟨_, _, rfl⟩
theorem read_fin {x : Nat} (h : finB x = true) : ∃ s m e, D.read x = .number s m e := by
  have h := of_decide_eq_true h
  rw [read_eq]
  by_cases h1 : x % 9223372036854775808 < 4503599627370496
  · rw [if_pos h1]; exact ⟨_, _, _, rfl⟩
  · rw [if_neg h1, if_pos h]; exact ⟨_, _, _, rfl⟩
theorem read_inf {x : Nat} (h : finB x = false) (hn : nanB x = false) : ∃ s, D.read x = .infinity s := by
  have h := of_decide_eq_false h
  have hn := of_decide_eq_false hn
  rw [read_eq, if_neg (by omega), if_neg (by omega), if_pos (by omega)]
  exact ⟨_, rfl⟩
/-- What is not a number stands for none. -/
theorem read_off {x : Nat} (h : finB x = false) : (∃ s t, D.read x = .nan s t) ∨ ∃ s, D.read x = .infinity s := by
  by_cases hn : nanB x = true
  · exact .inl (read_nan hn)
  · exact .inr (read_inf h (by simpa using hn))
/-- A nought, of whichever sign. -/
def zeroB (x : Nat) : Bool := x == 0 || x == 9223372036854775808
theorem zero_cases {x : Nat} (h : zeroB x = true) : x = 0 ∨ x = 9223372036854775808 := by simpa [zeroB] using h
theorem read_zero {x : Nat} (h : zeroB x = true) : ∃ s, D.read x = .number s 0 (-1074) := by
  rcases zero_cases h with rfl | rfl
  · exact ⟨_, by rw [read_eq, if_pos (by omega)]⟩
  · exact ⟨_, by rw [read_eq, if_pos (by omega)]⟩
theorem read_mag {x : Nat} (hx : x < 18446744073709551616) (h : zeroB x = false) {s : Bool} {m : Nat} {e : Int} (hr : D.read x = .number s m e) : m ≠ 0 := by
  have h0 : x ≠ 0 ∧ x ≠ 9223372036854775808 := by simpa [zeroB] using h
  rw [read_eq] at hr
  by_cases h1 : x % 9223372036854775808 < 4503599627370496
  · rw [if_pos h1] at hr; injection hr; omega
  · rw [if_neg h1] at hr
    by_cases h2 : x % 9223372036854775808 < 9218868437227405312
    · rw [if_pos h2] at hr; injection hr; omega
    · rw [if_neg h2] at hr
      by_cases h3 : x % 9223372036854775808 = 9218868437227405312
      · rw [if_pos h3] at hr; cases hr
      · rw [if_neg h3] at hr; cases hr
/-- A nought loses its sign. -/
def plusC (x : Nat) : Nat := if zeroB x then 0 else x
theorem plus_plus (x : Nat) : plusC (plusC x) = plusC x := by
  unfold plusC
  by_cases h : zeroB x = true
  · rw [if_pos h]; rfl
  · rw [if_neg h, if_neg h]
theorem fin_zero {x : Nat} (h : zeroB x = true) : finB x = true := by rcases zero_cases h with rfl | rfl <;> decide
theorem fin_plus (x : Nat) : finB (plusC x) = finB x := by
  unfold plusC
  by_cases h : zeroB x = true
  · rw [if_pos h, fin_zero h]; rfl
  · rw [if_neg h]
/-- Written words. -/
theorem word_num (s : Bool) {r : Nat} : D.word s r = if s then 9223372036854775808 + r else r := by unfold Format.word; rw [sw_eq]
theorem write_inf (s : Bool) : finB (D.write (.infinity s)) = false ∧ nanB (D.write (.infinity s)) = false := by cases s <;> decide
theorem write_zero (s : Bool) (e : Int) : zeroB (D.write (.number s 0 e)) = true := by
  show zeroB (D.nearest s 0 e) = true
  unfold Format.nearest
  rw [if_pos rfl, word_num]
  cases s <;> decide
theorem write_num_nan (s : Bool) (m : Nat) (e : Int) : nanB (D.write (.number s m e)) = false := by
  show nanB (D.nearest s m e) = false
  unfold Format.nearest
  by_cases h : m = 0
  · rw [if_pos h, word_num]; cases s <;> decide
  · rw [if_neg h]
    simp only [word_num, inf_eq]
    unfold nanB
    apply decide_eq_false
    cases s
    · rw [if_neg (by decide)]; omega
    · rw [if_pos rfl]; omega
end Go.Proofs.Ytdcnlghcdmiciaa.Fl
