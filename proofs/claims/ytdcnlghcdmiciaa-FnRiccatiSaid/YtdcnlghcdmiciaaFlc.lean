/-
Own text: comparisons of floats by their bits.
-/
import Derived.Test.YtdcnlghcdmiciaaFlo
namespace Go.Proofs.Ytdcnlghcdmiciaa.Fl
open Go Ieee
set_option linter.unusedVariables false
set_option linter.unusedSimpArgs false
theorem cmp_eq (a b : Int) : (compare a b == Ordering.eq) = decide (a = b) := by
  show (compareOfLessAndEq a b == Ordering.eq) = _
  unfold compareOfLessAndEq
  by_cases h : a < b
  · rw [if_pos h]; rw [decide_eq_false (by omega)]; rfl
  · rw [if_neg h]
    by_cases e : a = b
    · rw [if_pos e, decide_eq_true e]; rfl
    · rw [if_neg e, decide_eq_false e]; rfl
theorem cmp_gt (a b : Int) : (compare a b == Ordering.gt) = decide (b < a) := by
  show (compareOfLessAndEq a b == Ordering.gt) = _
  unfold compareOfLessAndEq
  by_cases h : a < b
  · rw [if_pos h]; rw [decide_eq_false (by omega)]; rfl
  · rw [if_neg h]
    by_cases e : a = b
    · rw [if_pos e, decide_eq_false (by omega)]; rfl
    · rw [if_neg e, decide_eq_true (by omega)]; rfl
theorem order_nan_l {x : Nat} (h : nanB x = true) (y : Nat) : D.order x y = none := by
  obtain ⟨s, t, e⟩ := read_nan h
  unfold Format.order
  rw [e]
  cases D.read y <;> rfl
theorem order_nan_r (x : Nat) {y : Nat} (h : nanB y = true) : D.order x y = none := by
  obtain ⟨s, t, e⟩ := read_nan h
  unfold Format.order
  rw [e]
  cases D.read x <;> rfl
theorem order_ab_l (x y : Nat) : D.order (ab x) y = D.order x y := by
  by_cases h : nanB x = true
  · rw [order_nan_l h, order_nan_l (by rw [nan_ab, h])]
  · rw [ab_of (by simpa using h)]
theorem order_ab_r (x y : Nat) : D.order x (ab y) = D.order x y := by
  by_cases h : nanB y = true
  · rw [order_nan_r _ h, order_nan_r _ (by rw [nan_ab, h])]
  · rw [ab_of (by simpa using h)]
theorem some_beq (a b : Ordering) : (some a == some b) = (a == b) := rfl
/-- x == x -/
theorem order_self (x : Nat) : (D.order x x == some Ordering.eq) = !nanB x := by
  by_cases h : nanB x = true
  · rw [order_nan_l h, h]; rfl
  · have h : nanB x = false := by simpa using h
    rw [h]
    unfold Format.order
    by_cases hf : finB x = true
    · obtain ⟨s, m, e, er⟩ := read_fin hf
      rw [er]
      show (some (compare _ _) == some Ordering.eq) = true
      rw [some_beq, cmp_eq]
      exact decide_eq_true rfl
    · obtain ⟨s, er⟩ := read_inf (by simpa using hf) h
      rw [er]
      cases s <;> rfl
theorem signed_nil {s : Bool} {m u : Nat} : signed s m u = 0 ↔ m = 0 := by
  have hp : 0 < 2 ^ u := Nat.two_pow_pos u
  have : m <<< u = 0 ↔ m = 0 := by
    rw [Nat.shiftLeft_eq]
    constructor
    · intro h; rcases Nat.mul_eq_zero.1 h with h | h
      · exact h
      · omega
    · intro h; rw [h, Nat.zero_mul]
  unfold signed
  cases s <;> simp only [Bool.false_eq_true, if_true, if_false] <;> omega
/-- x == 0 -/
theorem order_zero {x : Nat} (hx : x < 18446744073709551616) : (D.order x 0 == some Ordering.eq) = zeroB x := by
  obtain ⟨s0, e0⟩ := read0
  by_cases hz : zeroB x = true
  · obtain ⟨s, e⟩ := read_zero hz
    rw [hz]
    unfold Format.order
    rw [e, e0]
    show (some (compare _ _) == some Ordering.eq) = true
    rw [some_beq, cmp_eq]
    exact decide_eq_true (by rw [signed_zero, signed_zero])
  · have hz : zeroB x = false := by simpa using hz
    rw [hz]
    by_cases hn : nanB x = true
    · rw [order_nan_l hn]; rfl
    by_cases hf : finB x = true
    · obtain ⟨s, m, e, er⟩ := read_fin hf
      have hm := read_mag hx hz er
      unfold Format.order
      rw [er, e0]
      show (some (compare _ _) == some Ordering.eq) = false
      rw [some_beq, cmp_eq]
      refine decide_eq_false (fun h => hm ?_)
      rw [signed_zero] at h
      exact signed_nil.1 h
    · obtain ⟨s, er⟩ := read_inf (by simpa using hf) (by simpa using hn)
      unfold Format.order
      rw [er, e0]
      cases s <;> rfl
theorem order_zero' {x : Nat} (hx : x < 18446744073709551616) : (D.order 0 x == some Ordering.eq) = zeroB x := by
  obtain ⟨s0, e0⟩ := read0
  by_cases hz : zeroB x = true
  · obtain ⟨s, e⟩ := read_zero hz
    rw [hz]
    unfold Format.order
    rw [e, e0]
    show (some (compare _ _) == some Ordering.eq) = true
    rw [some_beq, cmp_eq]
    exact decide_eq_true (by rw [signed_zero, signed_zero])
  · have hz : zeroB x = false := by simpa using hz
    rw [hz]
    by_cases hn : nanB x = true
    · rw [order_nan_r _ hn]; rfl
    by_cases hf : finB x = true
    · obtain ⟨s, m, e, er⟩ := read_fin hf
      have hm := read_mag hx hz er
      unfold Format.order
      rw [er, e0]
      show (some (compare _ _) == some Ordering.eq) = false
      rw [some_beq, cmp_eq]
      refine decide_eq_false (fun h => hm ?_)
      rw [signed_zero] at h
      exact signed_nil.1 h.symm
    · obtain ⟨s, er⟩ := read_inf (by simpa using hf) (by simpa using hn)
      unfold Format.order
      rw [er, e0]
      cases s <;> rfl
/-- abs x > the greatest number -/
theorem max_read : D.read 9218868437227405311 = .number false 9007199254740991 971 := by rw [read_eq, if_neg (by decide), if_pos (by decide)]; rfl
theorem order_max (x : Nat) (hx : x < 9223372036854775808) : (D.order x 9218868437227405311 == some Ordering.gt) = (!finB x && !nanB x) := by
  by_cases hn : nanB x = true
  · rw [order_nan_l hn, hn, Bool.not_true, Bool.and_false]; rfl
  have hn : nanB x = false := by simpa using hn
  rw [hn]
  by_cases hf : finB x = true
  · rw [hf]
    have hlt := of_decide_eq_true hf
    unfold Format.order
    rw [max_read, read_eq]
    have hs : (x / 9223372036854775808 % 2 == 1) = false := by rw [Nat.div_eq_of_lt hx]; rfl
    rw [hs]
    by_cases h1 : x % 9223372036854775808 < 4503599627370496
    · rw [if_pos h1]
      show (some (compare _ _) == some Ordering.gt) = false
      rw [some_beq, cmp_gt]
      refine decide_eq_false ?_
      simp only [signed]
      have : (9007199254740991 : Nat) <<< ((971 : Int) - min (-1074) 971).toNat ≥ 9007199254740991 := by rw [Nat.shiftLeft_eq]; exact Nat.le_mul_of_pos_right _ (Nat.two_pow_pos _)
      have h2 : (x % 9223372036854775808) <<< ((-1074 : Int) - min (-1074) 971).toNat = x % 9223372036854775808 := by rw [show ((-1074 : Int) - min (-1074) 971).toNat = 0 by decide]; rfl
      rw [h2]
      simp only [Bool.false_eq_true, if_false]
      omega
    · rw [if_neg h1, if_pos hlt]
      show (some (compare _ _) == some Ordering.gt) = false
      rw [some_beq, cmp_gt]
      refine decide_eq_false ?_
      have hk : x % 9223372036854775808 / 4503599627370496 ≤ 2046 := by omega
      obtain ⟨k, hk'⟩ : ∃ k, x % 9223372036854775808 / 4503599627370496 - 1 = k := ⟨_, rfl⟩
      have hk1 : k ≤ 2045 := by omega
      rw [hk']
      have hb : min (-1074 + (k : Int)) 971 = -1074 + (k : Int) := by omega
      rw [hb]
      simp only [signed, Bool.false_eq_true, if_false]
      have e1 : (-1074 + (k : Int) - (-1074 + (k : Int))).toNat = 0 := by omega
      have e2 : ((971 : Int) - (-1074 + (k : Int))).toNat = 2045 - k := by omega
      rw [e1, e2]
      have hm : 4503599627370496 + x % 9223372036854775808 % 4503599627370496 ≤ 9007199254740991 := by omega
      have h3 : (9007199254740991 : Nat) <<< (2045 - k) ≥ 9007199254740991 := by rw [Nat.shiftLeft_eq]; exact Nat.le_mul_of_pos_right _ (Nat.two_pow_pos _)
      have h4 : (4503599627370496 + x % 9223372036854775808 % 4503599627370496) <<< 0 = 4503599627370496 + x % 9223372036854775808 % 4503599627370496 := rfl
      rw [h4]
      omega
  · have hf : finB x = false := by simpa using hf
    rw [hf]
    obtain ⟨s, er⟩ := read_inf hf hn
    have hlt := of_decide_eq_false hf
    have hns := of_decide_eq_false hn
    have hs : s = false := by
      rw [read_eq, if_neg (by omega), if_neg (by omega), if_pos (by omega)] at er
      injection er with er
      rw [← er, Nat.div_eq_of_lt hx]; rfl
    subst hs
    unfold Format.order
    rw [er, max_read]
    rfl
end Go.Proofs.Ytdcnlghcdmiciaa.Fl
