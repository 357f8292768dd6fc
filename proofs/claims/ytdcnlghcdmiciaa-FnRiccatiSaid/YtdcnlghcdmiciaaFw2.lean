/-
Own text: the walks of the arithmetic on floats.
-/
import Derived.Test.YtdcnlghcdmiciaaFw1
namespace Go.Proofs.Ytdcnlghcdmiciaa.Fl
open Go Ieee Go.RowKit Go.Proofs.YtdcnlghcdmiciaaW.PrintWords
set_option linter.unusedVariables false
set_option linter.unusedSimpArgs false
/-- What the machine gives: the result's bits, or a NaN's that the tape names. -/
def fv (op : BinOp) (w : World) (x y : Nat) : Nat := match floatBits op .f64 x y with
  | some r => r
  | none => (Question.nanBits .f64 x y).cut (w.tape w.drawn (.nanBits .f64 x y))
def fc (op : BinOp) (x y : Nat) : Nat := match floatBits op .f64 x y with
  | some _ => 0
  | none => 1
theorem cut_nan (x y t : Nat) : nanB ((Question.nanBits .f64 x y).cut t) = true ∧ (Question.nanBits .f64 x y).cut t < 18446744073709551616 := by
  have e : (Question.nanBits .f64 x y).cut t = (t % 2) * 9223372036854775808 + 9218868437227405312 + 1 + (t / 2) % 4503599627370495 := rfl
  rw [e]
  unfold nanB
  have hr : (t / 2) % 4503599627370495 < 4503599627370495 := Nat.mod_lt _ (by decide)
  generalize (t / 2) % 4503599627370495 = r at *
  rcases Nat.mod_two_eq_zero_or_one t with h | h <;> rw [h] <;> refine ⟨decide_eq_true ?_, ?_⟩ <;> omega
theorem fv_ab (op : BinOp) (w : World) (x y : Nat) : ab (fv op w x y) = fop op x y := by
  rw [floatBits_out]
  have h := fop_ab_ op x y
  rw [floatBits_out] at h
  unfold fv
  cases hb : floatBits op .f64 x y with
  | some r => rw [hb] at h; exact h
  | none => show ab _ = NANC; unfold ab; rw [(cut_nan _ _ _).1]; rfl
theorem lit_lt {r : Nat} (h : (Lit.float .f64 r).wf = true) : r < 18446744073709551616 := by
  simpa [Lit.wf] using h
theorem fv_lt (op : BinOp) (w : World) (x y : Nat) : fv op w x y < 18446744073709551616 := by
  unfold fv
  cases hb : floatBits op .f64 x y with
  | some r => exact lit_lt (floatBits_wf hb)
  | none => exact (cut_nan _ _ _).2
theorem run_float (op : BinOp) (hop : op = .add ∨ op = .sub ∨ op = .mul ∨ op = .quo) (P : Program) (t : TypeId) (x y : Nat) (w : World) : (binOp op t (.float .f64 x) (.float .f64 y)).run P w = .ok (.float .f64 (fv op w x y)) (w.drewN (fc op x y)) := by
  cases hb : floatBits op .f64 x y with
  | some r =>
    rw [run_float_arith w op t .f64 x y r hb]
    unfold fv fc
    rw [hb]
    rfl
  | none =>
    unfold fv fc
    rw [hb]
    rcases hop with rfl | rfl | rfl | rfl
    · have h : FloatKind.f64.format.add x y = none := hb
      simp [binOp, Op.floatArith, h]
      rfl
    · have h : FloatKind.f64.format.sub x y = none := hb
      simp [binOp, Op.floatArith, h]
      rfl
    · have h : FloatKind.f64.format.mul x y = none := hb
      simp [binOp, Op.floatArith, h]
      rfl
    · have h : FloatKind.f64.format.div x y = none := hb
      simp [binOp, Op.floatArith, h]
      rfl
theorem run_fadd (P : Program) (t : TypeId) (x y : Nat) (w : World) : (binOp .add t (.float .f64 x) (.float .f64 y)).run P w = .ok (.float .f64 (fv .add w x y)) (w.drewN (fc .add x y)) := run_float _ (by simp) P t x y w
theorem run_fsub (P : Program) (t : TypeId) (x y : Nat) (w : World) : (binOp .sub t (.float .f64 x) (.float .f64 y)).run P w = .ok (.float .f64 (fv .sub w x y)) (w.drewN (fc .sub x y)) := run_float _ (by simp) P t x y w
theorem run_fmul (P : Program) (t : TypeId) (x y : Nat) (w : World) : (binOp .mul t (.float .f64 x) (.float .f64 y)).run P w = .ok (.float .f64 (fv .mul w x y)) (w.drewN (fc .mul x y)) := run_float _ (by simp) P t x y w
theorem run_fdiv (P : Program) (t : TypeId) (x y : Nat) (w : World) : (binOp .quo t (.float .f64 x) (.float .f64 y)).run P w = .ok (.float .f64 (fv .quo w x y)) (w.drewN (fc .quo x y)) := run_float _ (by simp) P t x y w
attribute [local go_sem] run_fadd run_fsub run_fmul run_fdiv
/-- The reckoning's state: one bool in a block. -/
def St (w : World) (g : Nat) (b : Bool) : Prop := w.heap[g]? = some (.cells #[.bool b] 49 (0, 0))
/-- All but the state's block is as it was. -/
structure Kp (w w' : World) (g : Nat) : Prop where
  os : w'.os = w.os
  tape : w'.tape = w.tape
  output : w'.output = w.output
  keep : KeepBut w w' g none
theorem Kp.refl (w : World) (g : Nat) : Kp w w g := ⟨rfl, rfl, rfl, KeepBut.refl _ _ _⟩
theorem Kp.trans {w w1 w2 : World} {g : Nat} (h : Kp w w1 g) (k : Kp w1 w2 g) : Kp w w2 g := ⟨k.os.trans h.os, k.tape.trans h.tape, k.output.trans h.output, h.keep.trans k.keep (.inl rfl)⟩
theorem Kp.drewN {w w1 : World} {g : Nat} (h : Kp w w1 g) (n : Nat) : Kp w (w1.drewN n) g := ⟨h.os, h.tape, h.output, keep_drewN h.keep n⟩
theorem Kp.below {w w1 w2 : World} {g : Nat} (h : Kp w w1 g) (hb : Below w1.heap.size w1 w2) : Kp w w2 g := ⟨hb.os.trans h.os, hb.tape.trans h.tape, hb.output.trans h.output, h.keep.trans (KeepBut.of_below hb g none) (.inl rfl)⟩
theorem Kp.of_below {w w' : World} (hb : Below w.heap.size w w') (g : Nat) : Kp w w' g := (Kp.refl w g).below hb
theorem Kp.fresh {w w0 w1 : World} {g : Nat} (hb : Below w.heap.size w w0) (hg : w.heap.size ≤ g) (h : Kp w0 w1 g) : Below w.heap.size w w1 :=
  ⟨h.os.trans hb.os, h.tape.trans hb.tape, h.output.trans hb.output, Nat.le_trans hb.size h.keep.1, fun i hi => (h.keep.2 i (Nat.lt_of_lt_of_le hi hb.size) (by omega) (by simp)).trans (hb.block i hi)⟩
set_option maxRecDepth 100000 in
theorem put_ (x : Nat) (hx : x < 18446744073709551616) (g : Nat) (b : Bool) (w : World) (hs : St w g b) : Calls Try.prog 54 #[.pointer (some ⟨g, 0, none⟩), .float .f64 x] w fun e w' => e = .returned (.float .f64 (plusC x)) ∧ St w' g (b || !finB x) ∧ Kp w w' g := by
  have HF := Aside0.mk (finite_ x hx)
  have HP := Aside0.mk (plus_ x hx)
  have HS := Aside0.mk hs
  clear hs hx
  generalize finB x = f at *
  cases f
  · have hc : w.cell? ⟨g, 0, none⟩ = some (.bool b) := (blk_cell HS.out 0).trans rfl
    have hf : w.frozen? ⟨g, 0, none⟩ = false := blk_frozen HS.out 0
    go_enter Try.func54, Try.ntmps54
    go_wp2_with (first | (go_at_call 74; refine (HF.out _).mono ?_; rintro e w' ⟨rfl, rfl⟩) | (go_at_call 76; refine (HP.out _).mono ?_; rintro e w' ⟨rfl, rfl⟩))
    go_ret
    refine ⟨rfl, ?_, ⟨rfl, rfl, rfl, (KeepBut.refl _ _ _).set_ _ _⟩⟩
    rw [Bool.not_false, Bool.or_true]; exact blk_put HS.out 0 _ rfl
  · go_enter Try.func54, Try.ntmps54
    go_wp2_with (first | (go_at_call 74; refine (HF.out _).mono ?_; rintro e w' ⟨rfl, rfl⟩) | (go_at_call 76; refine (HP.out _).mono ?_; rintro e w' ⟨rfl, rfl⟩))
    go_ret
    refine ⟨rfl, ?_, Kp.refl _ _⟩
    rw [Bool.not_true, Bool.or_false]; exact HS.out
theorem ab_plus (x : Nat) : ab (plusC x) = plusC (ab x) := by
  by_cases h : nanB x = true
  · have hz : zeroB x = false := by
      have := fin_of_nan h
      cases hz : zeroB x with
      | false => rfl
      | true => rw [fin_zero hz] at this; cases this
    rw [plus_not hz]
    unfold ab
    rw [if_pos h]
    decide
  · have h : nanB x = false := by simpa using h
    rw [ab_of h]
    unfold plusC
    cases zeroB x
    · exact ab_of h
    · exact (by decide : ab 0 = 0)
theorem plus_lt {x : Nat} (h : x < 18446744073709551616) : plusC x < 18446744073709551616 := by unfold plusC; split <;> omega
/-- What an operation on the state gives: its bits, as they count. -/
def Gives (r : Nat) (s : Nat) : Prop := r < 18446744073709551616 ∧ ab r = plusC s
theorem gives (op : BinOp) (w : World) (x y : Nat) : Gives (plusC (fv op w x y)) (fop op x y) := ⟨plus_lt (fv_lt _ _ _ _), by rw [ab_plus, fv_ab]⟩
theorem fin_fv (op : BinOp) (w : World) (x y : Nat) : finB (fv op w x y) = finB (fop op x y) := by rw [← fv_ab op w, fin_ab]
def OpSt (op : BinOp) (g : Nat) (b : Bool) (x y : Nat) (w : World) (e : Ending) (w' : World) : Prop := ∃ r, e = .returned (.float .f64 r) ∧ Gives r (fop op x y) ∧ St w' g (b || !finB (fop op x y)) ∧ Kp w w' g
theorem op_of {op : BinOp} {x y g : Nat} {b : Bool} {w w' : World} {e : Ending} {n : Nat} (h : e = .returned (.float .f64 (plusC (fv op w x y))) ∧ St w' g (b || !finB (fv op w x y)) ∧ Kp (w.drewN n) w' g) : OpSt op g b x y w e w' :=
  ⟨_, h.1, gives _ _ _ _, by rw [← fin_fv]; exact h.2.1, ((Kp.refl w g).drewN n).trans h.2.2⟩
set_option maxRecDepth 100000 in
theorem add_ (x y g : Nat) (b : Bool) (w : World) (hs : St w g b) : Calls Try.prog 40 #[.pointer (some ⟨g, 0, none⟩), .float .f64 x, .float .f64 y] w (OpSt .add g b x y w) := by
  have HS := Aside0.mk hs
  clear hs
  go_enter Try.func40, Try.ntmps40
  go_wp2_with (go_at_call 54; refine (put_ _ (fv_lt _ _ _ _) g b _ (by exact HS.out)).mono ?_; intro e w' h; have H := Aside0.mk (op_of h); obtain ⟨rfl, -⟩ := h)
  go_ret
  exact H.out
set_option maxRecDepth 100000 in
theorem sub_ (x y g : Nat) (b : Bool) (w : World) (hs : St w g b) : Calls Try.prog 45 #[.pointer (some ⟨g, 0, none⟩), .float .f64 x, .float .f64 y] w (OpSt .sub g b x y w) := by
  have HS := Aside0.mk hs
  clear hs
  go_enter Try.func45, Try.ntmps45
  go_wp2_with (go_at_call 54; refine (put_ _ (fv_lt _ _ _ _) g b _ (by exact HS.out)).mono ?_; intro e w' h; have H := Aside0.mk (op_of h); obtain ⟨rfl, -⟩ := h)
  go_ret
  exact H.out
set_option maxRecDepth 100000 in
theorem mul_ (x y g : Nat) (b : Bool) (w : World) (hs : St w g b) : Calls Try.prog 41 #[.pointer (some ⟨g, 0, none⟩), .float .f64 x, .float .f64 y] w (OpSt .mul g b x y w) := by
  have HS := Aside0.mk hs
  clear hs
  go_enter Try.func41, Try.ntmps41
  go_wp2_with (go_at_call 54; refine (put_ _ (fv_lt _ _ _ _) g b _ (by exact HS.out)).mono ?_; intro e w' h; have H := Aside0.mk (op_of h); obtain ⟨rfl, -⟩ := h)
  go_ret
  exact H.out
set_option maxRecDepth 100000 in
theorem div_ (x y g : Nat) (b : Bool) (w : World) (hs : St w g b) : Calls Try.prog 43 #[.pointer (some ⟨g, 0, none⟩), .float .f64 x, .float .f64 y] w (OpSt .quo g b x y w) := by
  have HS := Aside0.mk hs
  clear hs
  go_enter Try.func43, Try.ntmps43
  go_wp2_with (go_at_call 54; refine (put_ _ (fv_lt _ _ _ _) g b _ (by exact HS.out)).mono ?_; intro e w' h; have H := Aside0.mk (op_of h); obtain ⟨rfl, -⟩ := h)
  go_ret
  exact H.out
theorem end_ (x g : Nat) (b : Bool) (w : World) (hs : St w g b) : Calls Try.prog 42 #[.pointer (some ⟨g, 0, none⟩), .float .f64 x] w fun e w' => e = .returned (.tuple #[.float .f64 (if b then 0 else x), .bool (!b)]) ∧ w = w' := by
  have hc : w.cell? ⟨g, 0, none⟩ = some (.bool b) := (blk_cell hs 0).trans rfl
  clear hs
  cases b
  · go_enter Try.func42, Try.ntmps42
    go_wp2
    go_ret2
    exact ⟨rfl, rfl⟩
  · go_enter Try.func42, Try.ntmps42
    go_wp2
    go_ret2
    exact ⟨rfl, rfl⟩
end Go.Proofs.Ytdcnlghcdmiciaa.Fl
