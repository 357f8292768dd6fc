/-
Own text: + - * / and the square root on floats: NaN is handed on, a nought's sign makes no more than a nought's sign.
-/
import Derived.Test.YtdcnlghcdmiciaaFl
namespace Go.Proofs.Ytdcnlghcdmiciaa.Fl
open Go Ieee
set_option linter.unusedVariables false
set_option linter.unusedSimpArgs false
/-- An operation on what two words stand for: its result's bits, NANC where it has none. -/
def out (d : Option Datum) : Nat := match d with
  | some x => D.write x
  | none => NANC
def fadd (x y : Nat) : Nat := out ((D.read x).sum (D.read y))
def fsub (x y : Nat) : Nat := out ((D.read x).sum (D.read y).opposite)
def fmul (x y : Nat) : Nat := out ((D.read x).product (D.read y))
def fdiv (x y : Nat) : Nat := out ((D.read x).quotient 54 (D.read y))
def fsqrt (x : Nat) : Nat := out ((D.read x).root 54)
def fop (op : BinOp) (x y : Nat) : Nat := match op with
  | .add => fadd x y
  | .sub => fsub x y
  | .mul => fmul x y
  | .quo => fdiv x y
  | _ => NANC
theorem nan_out (d : Option Datum) (h : ∀ s t, d ≠ some (.nan s t)) : d = none ∨ nanB (out d) = false := by
  cases d with
  | none => exact .inl rfl
  | some x =>
    refine .inr ?_
    cases x with
    | number s m e => exact write_num_nan s m e
    | infinity s => exact (write_inf s).2
    | nan s t => exact absurd rfl (h s t)
theorem sum_nan (a b : Datum) (s : Bool) (t : Nat) : a.sum b ≠ some (.nan s t) := by
  cases a <;> cases b <;> simp only [Datum.sum] <;> first | (intro h; cases h; done) | (split <;> intro h <;> cases h)
theorem product_nan (a b : Datum) (s : Bool) (t : Nat) : a.product b ≠ some (.nan s t) := by
  cases a <;> cases b <;> simp only [Datum.product] <;> first | (intro h; cases h; done) | (split <;> intro h <;> cases h)
theorem quotient_nan (a b : Datum) (s : Bool) (t : Nat) : a.quotient 54 b ≠ some (.nan s t) := by
  cases a <;> cases b <;> simp only [Datum.quotient] <;> first | (intro h; cases h; done) | (split <;> first | (intro h; cases h; done) | (split <;> intro h <;> cases h))
theorem root_nan (a : Datum) (s : Bool) (t : Nat) : a.root 54 ≠ some (.nan s t) := by
  cases a with
  | nan => intro h; cases h
  | infinity u => simp only [Datum.root]; split <;> intro h <;> cases h
  | number u m e => simp only [Datum.root]; split <;> first | (intro h; cases h; done) | (split <;> intro h <;> cases h)
theorem ab_out {d : Option Datum} (h : ∀ s t, d ≠ some (.nan s t)) : ab (out d) = out d := by
  rcases nan_out d h with rfl | h
  · decide
  · exact ab_of h
theorem fop_ab_ (op : BinOp) (x y : Nat) : ab (fop op x y) = fop op x y := by
  cases op <;> first | exact ab_out (sum_nan _ _) | exact ab_out (product_nan _ _) | exact ab_out (quotient_nan _ _) | exact (by decide : ab NANC = NANC)
theorem fsqrt_ab_ (x : Nat) : ab (fsqrt x) = fsqrt x := ab_out (root_nan _)
theorem floatBits_out (op : BinOp) (x y : Nat) : fop op x y = (floatBits op .f64 x y).getD NANC := by
  cases op <;> first | rfl | skip
  · show out ((D.read x).sum (D.read y)) = ((((D.read x).sum (D.read y))).map D.write).getD NANC
    cases (D.read x).sum (D.read y) <;> rfl
  · show out ((D.read x).sum (D.read y).opposite) = ((((D.read x).sum (D.read y).opposite)).map D.write).getD NANC
    cases (D.read x).sum (D.read y).opposite <;> rfl
  · show out ((D.read x).product (D.read y)) = ((((D.read x).product (D.read y))).map D.write).getD NANC
    cases (D.read x).product (D.read y) <;> rfl
  · show out ((D.read x).quotient 54 (D.read y)) = ((((D.read x).quotient 54 (D.read y))).map D.write).getD NANC
    cases (D.read x).quotient 54 (D.read y) <;> rfl
theorem fsqrt_out (x : Nat) : fsqrt x = (D.sqrt x).getD NANC := by
  show out ((D.read x).root 54) = (((D.read x).root 54).map D.write).getD NANC
  cases (D.read x).root 54 <;> rfl
/-- A NaN's bits make no odds. -/
theorem read_nan_ab {x : Nat} (h : nanB x = true) : (∃ s t, D.read x = .nan s t) ∧ ∃ s t, D.read (ab x) = .nan s t := ⟨read_nan h, read_nan (by rw [nan_ab, h])⟩
theorem nan_sum_l (s : Bool) (t : Nat) (b : Datum) : (Datum.nan s t).sum b = none := by cases b <;> rfl
theorem nan_sum_r (s : Bool) (t : Nat) (b : Datum) : b.sum (Datum.nan s t) = none := by cases b <;> rfl
theorem nan_prod_l (s : Bool) (t : Nat) (b : Datum) : (Datum.nan s t).product b = none := by cases b <;> rfl
theorem nan_prod_r (s : Bool) (t : Nat) (b : Datum) : b.product (Datum.nan s t) = none := by cases b <;> rfl
theorem nan_quo_l (s : Bool) (t : Nat) (b : Datum) : (Datum.nan s t).quotient 54 b = none := by cases b <;> rfl
theorem nan_quo_r (s : Bool) (t : Nat) (b : Datum) : b.quotient 54 (Datum.nan s t) = none := by cases b <;> rfl
theorem fop_ab_l (op : BinOp) (x y : Nat) : fop op (ab x) y = fop op x y := by
  by_cases h : nanB x = true
  · obtain ⟨⟨s, t, h1⟩, s', t', h2⟩ := read_nan_ab h
    cases op <;> first | rfl | skip
    · show out _ = out _; rw [h1, h2, nan_sum_l, nan_sum_l]
    · show out _ = out _; rw [h1, h2, nan_sum_l, nan_sum_l]
    · show out _ = out _; rw [h1, h2, nan_prod_l, nan_prod_l]
    · show out _ = out _; rw [h1, h2, nan_quo_l, nan_quo_l]
  · rw [ab_of (by simpa using h)]
theorem fop_ab_r (op : BinOp) (x y : Nat) : fop op x (ab y) = fop op x y := by
  by_cases h : nanB y = true
  · obtain ⟨⟨s, t, h1⟩, s', t', h2⟩ := read_nan_ab h
    cases op <;> first | rfl | skip
    · show out _ = out _; rw [h1, h2, nan_sum_r, nan_sum_r]
    · show out _ = out _; rw [h1, h2]; show out (_ ) = out _; rw [show (Datum.nan s t).opposite = .nan (!s) t from rfl, show (Datum.nan s' t').opposite = .nan (!s') t' from rfl, nan_sum_r, nan_sum_r]
    · show out _ = out _; rw [h1, h2, nan_prod_r, nan_prod_r]
    · show out _ = out _; rw [h1, h2, nan_quo_r, nan_quo_r]
  · rw [ab_of (by simpa using h)]
theorem fsqrt_ab (x : Nat) : fsqrt (ab x) = fsqrt x := by
  by_cases h : nanB x = true
  · obtain ⟨⟨s, t, h1⟩, s', t', h2⟩ := read_nan_ab h
    show out _ = out _; rw [h1, h2]; rfl
  · rw [ab_of (by simpa using h)]
/-! #### What is no number makes none. -/
theorem fin_outi (s : Bool) : finB (out (some (.infinity s))) = false := (write_inf s).1
theorem fin_outn : finB (out none) = false := by decide
theorem off_add_l {x : Nat} (y : Nat) (h : finB x = false) : finB (fadd x y) = false := by
  unfold fadd
  rcases read_off h with ⟨s, t, e⟩ | ⟨s, e⟩ <;> rw [e] <;> cases D.read y <;> simp only [Datum.sum] <;> first | exact fin_outn | exact fin_outi _ | (split <;> first | exact fin_outi _ | exact fin_outn)
theorem off_add_r (x : Nat) {y : Nat} (h : finB y = false) : finB (fadd x y) = false := by
  unfold fadd
  rcases read_off h with ⟨s, t, e⟩ | ⟨s, e⟩ <;> rw [e] <;> cases D.read x <;> simp only [Datum.sum] <;> first | exact fin_outn | exact fin_outi _ | (split <;> first | exact fin_outi _ | exact fin_outn)
theorem off_sub_l {x : Nat} (y : Nat) (h : finB x = false) : finB (fsub x y) = false := by
  unfold fsub
  rcases read_off h with ⟨s, t, e⟩ | ⟨s, e⟩ <;> rw [e] <;> cases D.read y <;> simp only [Datum.sum, Datum.opposite] <;> first | exact fin_outn | exact fin_outi _ | (split <;> first | exact fin_outi _ | exact fin_outn)
theorem off_sub_r (x : Nat) {y : Nat} (h : finB y = false) : finB (fsub x y) = false := by
  unfold fsub
  rcases read_off h with ⟨s, t, e⟩ | ⟨s, e⟩ <;> rw [e] <;> cases D.read x <;> simp only [Datum.sum, Datum.opposite] <;> first | exact fin_outn | exact fin_outi _ | (split <;> first | exact fin_outi _ | exact fin_outn)
theorem off_mul_l {x : Nat} (y : Nat) (h : finB x = false) : finB (fmul x y) = false := by
  unfold fmul
  rcases read_off h with ⟨s, t, e⟩ | ⟨s, e⟩ <;> rw [e] <;> cases D.read y <;> simp only [Datum.product] <;> first | exact fin_outn | exact fin_outi _ | (split <;> first | exact fin_outi _ | exact fin_outn)
theorem off_mul_r (x : Nat) {y : Nat} (h : finB y = false) : finB (fmul x y) = false := by
  unfold fmul
  rcases read_off h with ⟨s, t, e⟩ | ⟨s, e⟩ <;> rw [e] <;> cases D.read x <;> simp only [Datum.product] <;> first | exact fin_outn | exact fin_outi _ | (split <;> first | exact fin_outi _ | exact fin_outn)
theorem off_div_l {x : Nat} (y : Nat) (h : finB x = false) : finB (fdiv x y) = false := by
  unfold fdiv
  rcases read_off h with ⟨s, t, e⟩ | ⟨s, e⟩ <;> rw [e] <;> cases D.read y <;> simp only [Datum.quotient] <;> first | exact fin_outn | exact fin_outi _ | (split <;> first | exact fin_outi _ | exact fin_outn)
theorem off_sqrt {x : Nat} (h : finB x = false) : finB (fsqrt x) = false := by
  unfold fsqrt
  rcases read_off h with ⟨s, t, e⟩ | ⟨s, e⟩ <;> rw [e] <;> simp only [Datum.root] <;> first | exact fin_outn | (split <;> first | exact fin_outi _ | exact fin_outn)
/-- Over a nought. -/
theorem off_div_zero (x : Nat) {y : Nat} (h : zeroB y = true) : finB (fdiv x y) = false := by
  obtain ⟨s, e⟩ := read_zero h
  unfold fdiv
  rw [e]
  cases D.read x <;> simp only [Datum.quotient] <;> first | exact fin_outn | exact fin_outi _ | (rw [if_pos trivial]; split <;> first | exact fin_outi _ | exact fin_outn) | (simp only [if_true]; split <;> first | exact fin_outi _ | exact fin_outn)
/-! #### A nought's sign. -/
def same (x y : Nat) : Prop := plusC x = plusC y
theorem same_zero {x y : Nat} (hx : zeroB x = true) (hy : zeroB y = true) : same x y := by unfold same plusC; rw [if_pos hx, if_pos hy]
theorem out_zero (s : Bool) (e : Int) : zeroB (out (some (.number s 0 e))) = true := write_zero s e
theorem signed_zero (s : Bool) (u : Nat) : signed s 0 u = 0 := by unfold signed; cases s <;> simp
theorem sum_nought (s s' : Bool) (b : Datum) : plusC (out ((Datum.number s 0 (-1074)).sum b)) = plusC (out ((Datum.number s' 0 (-1074)).sum b)) := by
  cases b with
  | nan => rfl
  | infinity => rfl
  | number t n j =>
    simp only [Datum.sum, signed_zero, Int.zero_add]
    by_cases h : signed t n (j - min (-1074) j).toNat = 0
    · rw [h]; simp only [if_true, Int.natAbs_zero]; exact same_zero (out_zero _ _) (out_zero _ _)
    · rw [if_neg h, if_neg h]
theorem sum_comm (a b : Datum) : a.sum b = b.sum a := by
  cases a <;> cases b <;> simp only [Datum.sum]
  case number.number s m i t n j =>
    rw [Int.min_comm j i, Int.add_comm (signed t n _)]
    by_cases h : signed s m (i - min i j).toNat + signed t n (j - min i j).toNat = 0
    · rw [if_pos h, if_pos h, Bool.and_comm]
    · rw [if_neg h, if_neg h]
  case infinity.infinity s t =>
    by_cases h : s = t
    · subst h; rfl
    · rw [if_neg h, if_neg (fun e => h e.symm)]
theorem prod_nought (s s' : Bool) (b : Datum) : plusC (out ((Datum.number s 0 (-1074)).product b)) = plusC (out ((Datum.number s' 0 (-1074)).product b)) := by
  cases b with
  | nan => rfl
  | infinity => rfl
  | number t n j => simp only [Datum.product, Nat.zero_mul]; exact same_zero (out_zero _ _) (out_zero _ _)
theorem prod_comm (a b : Datum) : a.product b = b.product a := by
  cases a <;> cases b <;> simp only [Datum.product, Bool.xor_comm, Nat.mul_comm, Int.add_comm]
theorem quo_nought (s s' : Bool) (b : Datum) : plusC (out ((Datum.number s 0 (-1074)).quotient 54 b)) = plusC (out ((Datum.number s' 0 (-1074)).quotient 54 b)) := by
  cases b with
  | nan => rfl
  | infinity => simp only [Datum.quotient]; exact same_zero (out_zero _ _) (out_zero _ _)
  | number t n j =>
    simp only [Datum.quotient]
    by_cases h : n = 0
    · rw [if_pos h, if_pos h]; rfl
    · rw [if_neg h, if_neg h]
      simp only [Nat.zero_shiftLeft, Nat.zero_div, Nat.zero_mod]
      exact same_zero (out_zero _ _) (out_zero _ _)
theorem plus_zero {x : Nat} (h : zeroB x = true) : plusC x = 0 := by unfold plusC; rw [if_pos h]
theorem plus_not {x : Nat} (h : zeroB x = false) : plusC x = x := by unfold plusC; rw [h]; rfl
theorem read0 : ∃ s, D.read 0 = .number s 0 (-1074) := read_zero rfl
theorem add_plus_l (x y : Nat) : plusC (fadd (plusC x) y) = plusC (fadd x y) := by
  by_cases h : zeroB x = true
  · obtain ⟨s, e⟩ := read_zero h; obtain ⟨s0, e0⟩ := read0
    rw [plus_zero h]; unfold fadd; rw [e, e0]; exact sum_nought _ _ _
  · rw [plus_not (x := x) (by simpa using h)]
theorem add_comm (x y : Nat) : fadd x y = fadd y x := by unfold fadd; rw [sum_comm]
theorem add_plus_r (x y : Nat) : plusC (fadd x (plusC y)) = plusC (fadd x y) := by rw [add_comm x, add_plus_l, add_comm]
theorem sub_plus_l (x y : Nat) : plusC (fsub (plusC x) y) = plusC (fsub x y) := by
  by_cases h : zeroB x = true
  · obtain ⟨s, e⟩ := read_zero h; obtain ⟨s0, e0⟩ := read0
    rw [plus_zero h]; unfold fsub; rw [e, e0]; exact sum_nought _ _ _
  · rw [plus_not (x := x) (by simpa using h)]
theorem sub_plus_r (x y : Nat) : plusC (fsub x (plusC y)) = plusC (fsub x y) := by
  by_cases h : zeroB y = true
  · obtain ⟨s, e⟩ := read_zero h; obtain ⟨s0, e0⟩ := read0
    rw [plus_zero h]; unfold fsub; rw [e, e0, sum_comm, sum_comm (D.read x)]; exact sum_nought _ _ _
  · rw [plus_not (x := y) (by simpa using h)]
theorem mul_plus_l (x y : Nat) : plusC (fmul (plusC x) y) = plusC (fmul x y) := by
  by_cases h : zeroB x = true
  · obtain ⟨s, e⟩ := read_zero h; obtain ⟨s0, e0⟩ := read0
    rw [plus_zero h]; unfold fmul; rw [e, e0]; exact prod_nought _ _ _
  · rw [plus_not (x := x) (by simpa using h)]
theorem mul_comm (x y : Nat) : fmul x y = fmul y x := by unfold fmul; rw [prod_comm]
theorem mul_plus_r (x y : Nat) : plusC (fmul x (plusC y)) = plusC (fmul x y) := by rw [mul_comm x, mul_plus_l, mul_comm]
theorem div_plus_l (x y : Nat) : plusC (fdiv (plusC x) y) = plusC (fdiv x y) := by
  by_cases h : zeroB x = true
  · obtain ⟨s, e⟩ := read_zero h; obtain ⟨s0, e0⟩ := read0
    rw [plus_zero h]; unfold fdiv; rw [e, e0]; exact quo_nought _ _ _
  · rw [plus_not (x := x) (by simpa using h)]
theorem sqrt_plus (x : Nat) : plusC (fsqrt (plusC x)) = plusC (fsqrt x) := by
  by_cases h : zeroB x = true
  · obtain ⟨s, e⟩ := read_zero h; obtain ⟨s0, e0⟩ := read0
    rw [plus_zero h]; unfold fsqrt; rw [e, e0]; simp only [Datum.root, if_true]; exact same_zero (out_zero _ _) (out_zero _ _)
  · rw [plus_not (x := x) (by simpa using h)]
end Go.Proofs.Ytdcnlghcdmiciaa.Fl
