-- Written by this session's own print (wip/tools/mkmp.py) out of the translation. Lean checks it.
import Derived.Test.YtbdonoeellmeoaaDoorPr0
import Derived.Test.YtbdonoeellmeoaaDoorPr1
import Derived.Test.YtbdonoeellmeoaaDoorPr4
import Derived.Test.YtbdonoeellmeoaaDoorGbd
import Derived.Test.YtbdonoeellmeoaaDoorPrd1
import Derived.Test.YtbdonoeellmeoaaDoorPrd2
import Derived.Test.YtbdonoeellmeoaaDoorPrd3
import Derived.Test.YtbdonoeellmeoaaDoorStd
import Derived.Test.YtbdonoeellmeoaaDoorGb
import Derived.Test.YtbdonoeellmeoaaDoorStf
namespace Go.Proofs.YtbdonoeellmeoaaDoor.Pr
open Go.RowKit Go.Proofs.YtbdonoeellmeoaaDoorW.PrintWords Go.Proofs.YtbdonoeellmeoaaDoorW.PrintLast Go.Proofs.YtbdonoeellmeoaaDoorW.PrintMore
attribute [local go_sem] max2_int min2_int max_two min_two max_three min_three max_four min_four   -- for this text's walks alone
set_option linter.unusedVariables false
set_option linter.unusedSimpArgs false

set_option maxHeartbeats 8000000 in
set_option maxRecDepth 100000 in
theorem impl_StuffBits.calls (a0 : ByteArray) (r1 : ByteArray) (r2 : Bool) (w : World) (h : impl_StuffBits.f a0 = some (r1, r2)) :
   Calls Tryd.prog 9 #[.string a0] w fun e w' => e = .returned (.tuple #[.string r1, .bool r2]) ∧ Below w.heap.size w w' := by
  have HB := Aside0.mk (Below.refl w.heap.size w)
  have H : ((impl_goodBits.f a0).bind fun t129 => (if t129 = true then ((impl_stuff.f a0).bind fun t130 => (some (t130, true))) else (some ((⟨#[]⟩ : ByteArray), false)))) = some (r1, r2) := h
  clear h
  replace H := Option.bind_eq_some_iff.mp H
  obtain ⟨t129, A20, H⟩ := H
  replace H : (if t129 = true then ((impl_stuff.f a0).bind fun t130 => (some (t130, true))) else (some ((⟨#[]⟩ : ByteArray), false))) = some (r1, r2) := H
  have A2 := Aside0.mk A20
  clear A20
  by_cases c3 : t129 = true
  ·subst c3
   rw [if_pos rfl] at H
   replace H := Option.bind_eq_some_iff.mp H
   obtain ⟨t130, A40, H⟩ := H
   replace H : (some (t130, true)) = some (r1, r2) := H
   have A4 := Aside0.mk A40
   clear A40
   simp only [Option.some.injEq, Prod.mk.injEq] at H
   obtain ⟨rfl, rfl⟩ := H
   go_enter Tryd.func9, Tryd.ntmps9
   go_wp2_with (first | ((with_reducible refine gate_callee (f := 14) rfl ?_); refine goesL_ (some 5) rfl rfl Tryd.func14 (by kernel_rfl) rfl #[.string a0] rfl ls_ ?_; (with_reducible refine (impl_goodBits.calls a0 true _ A2.out).mono ?_); rintro e w5 ⟨rfl, hb⟩; refine ⟨_, rfl, ?_⟩; have n0_ := Aside0.mk (below_step hb_ hb); clear HB; have HB := n0_; clear n0_; (try clear hb); (try clear hb2); (try clear hk); (try clear hi)) | ((with_reducible refine gate_callee (f := 17) rfl ?_); refine goesL_ (some 8) rfl rfl Tryd.func17 (by kernel_rfl) rfl #[.string a0] rfl ls_ ?_; (with_reducible refine (impl_stuff.calls a0 t130 _ A4.out).mono ?_); rintro e w6 ⟨rfl, hb⟩; refine ⟨_, rfl, ?_⟩; have n0_ := Aside0.mk (below_step hb_ hb); clear HB; have HB := n0_; clear n0_; (try clear hb); (try clear hb2); (try clear hk); (try clear hi)))
   go_ret2
   exact ⟨er_, hb_⟩
  ·replace c3 := Bool.eq_false_iff.mpr c3
   subst c3
   rw [if_neg (show ¬ (false = true) by decide)] at H
   simp only [Option.some.injEq, Prod.mk.injEq] at H
   obtain ⟨rfl, rfl⟩ := H
   go_enter Tryd.func9, Tryd.ntmps9
   go_wp2_with (first | ((with_reducible refine gate_callee (f := 14) rfl ?_); refine goesL_ (some 5) rfl rfl Tryd.func14 (by kernel_rfl) rfl #[.string a0] rfl ls_ ?_; (with_reducible refine (impl_goodBits.calls a0 false _ A2.out).mono ?_); rintro e w7 ⟨rfl, hb⟩; refine ⟨_, rfl, ?_⟩; have n0_ := Aside0.mk (below_step hb_ hb); clear HB; have HB := n0_; clear n0_; (try clear hb); (try clear hb2); (try clear hk); (try clear hi)))
   go_ret2
   exact ⟨er_, hb_⟩

set_option maxHeartbeats 8000000 in
set_option maxRecDepth 100000 in
theorem laws_FnExactStuffBits.calls (k : Nat) (a0 : ByteArray) (r : Bool) (w : World) (h : laws_FnExactStuffBits.f k a0 = some r) :
   Calls Tryd.prog 4 #[.string a0] w fun e w' => e = .returned (.bool r) ∧ Below w.heap.size w w' := by
  have HB := Aside0.mk (Below.refl w.heap.size w)
  have H : (if (a0.size : Int) > 1048576 then (some true) else ((spec_StuffBits.f k a0).bind fun bt131 => ((impl_StuffBits.f a0).bind fun bt133 => (if bt133.1.toList = bt131.1.toList then (if (bt133.2 != bt131.2) = true then (some false) else (some true)) else (some false))))) = some r := h
  clear h
  by_cases c2 : (a0.size : Int) > 1048576
  ·rw [if_pos c2] at H
   have c2b0 : decide (1048576 < (a0.size : Int)) = true := decide_eq_true c2
   have c2b1 : decide (1048576 < a0.size) = true := decide_eq_true (by omega)
   clear c2
   obtain rfl := Option.some.inj H
   go_enter Tryd.func4, Tryd.ntmps4
   go_wp2
   go_ret
   exact ⟨er_, hb_⟩
  ·rw [if_neg c2] at H
   have c2b0 : decide (1048576 < (a0.size : Int)) = false := decide_eq_false c2
   have c2b1 : decide (1048576 < a0.size) = false := decide_eq_false (by omega)
   clear c2
   replace H := Option.bind_eq_some_iff.mp H
   obtain ⟨⟨t131, t132⟩, A30, H⟩ := H
   replace H : ((impl_StuffBits.f a0).bind fun bt133 => (if bt133.1.toList = t131.toList then (if (bt133.2 != t132) = true then (some false) else (some true)) else (some false))) = some r := H
   have A3 := Aside0.mk A30
   clear A30
   replace H := Option.bind_eq_some_iff.mp H
   obtain ⟨⟨t133, t134⟩, A40, H⟩ := H
   replace H : (if t133.toList = t131.toList then (if (t134 != t132) = true then (some false) else (some true)) else (some false)) = some r := H
   have A4 := Aside0.mk A40
   clear A40
   by_cases c5 : t133.toList = t131.toList
   ·rw [if_pos c5] at H
    have c5b0 : (t133.toList == t131.toList) = true := beq_iff_eq.mpr c5
    have c5b1 : (t133.toList != t131.toList) = false := bne_eq_false_iff_eq.mpr c5
    clear c5
    by_cases c6 : (t134 != t132) = true
    ·rw [if_pos c6] at H
     have c6b0 : (t134 != t132) = true := c6
     (try (have c6b1 : decide (t134 = t132) = false := by simpa using c6))
     (try (have c6b2 : (t134 == t132) = false := by simpa using c6))
     (try (have c6b3 : ¬ (t134 = t132) := by simpa using c6))
     clear c6
     obtain rfl := Option.some.inj H
     go_enter Tryd.func4, Tryd.ntmps4
     go_wp2_with (first | ((with_reducible refine gate_callee (f := 8) rfl ?_); refine goesL_ (some 12) rfl rfl Tryd.func8 (by kernel_rfl) rfl #[.string a0] rfl ls_ ?_; (with_reducible refine (spec_StuffBits.calls k a0 t131 t132 _ A3.out).mono ?_); rintro e w7 ⟨rfl, hb⟩; refine ⟨_, rfl, ?_⟩; have n0_ := Aside0.mk (below_step hb_ hb); clear HB; have HB := n0_; clear n0_; (try clear hb); (try clear hb2); (try clear hk); (try clear hi)) | ((with_reducible refine gate_callee (f := 9) rfl ?_); refine goesL_ (some 17) rfl rfl Tryd.func9 (by kernel_rfl) rfl #[.string a0] rfl ls_ ?_; (with_reducible refine (impl_StuffBits.calls a0 t133 t134 _ A4.out).mono ?_); rintro e w8 ⟨rfl, hb⟩; refine ⟨_, rfl, ?_⟩; have n0_ := Aside0.mk (below_step hb_ hb); clear HB; have HB := n0_; clear n0_; (try clear hb); (try clear hb2); (try clear hk); (try clear hi)))
     go_ret
     exact ⟨er_, hb_⟩
    ·rw [if_neg c6] at H
     have c6b0 : (t134 != t132) = false := by simpa using c6
     (try (have c6b1 : decide (t134 = t132) = true := by simpa using c6))
     (try (have c6b2 : (t134 == t132) = true := by simpa using c6))
     clear c6
     obtain rfl := Option.some.inj H
     go_enter Tryd.func4, Tryd.ntmps4
     go_wp2_with (first | ((with_reducible refine gate_callee (f := 8) rfl ?_); refine goesL_ (some 12) rfl rfl Tryd.func8 (by kernel_rfl) rfl #[.string a0] rfl ls_ ?_; (with_reducible refine (spec_StuffBits.calls k a0 t131 t132 _ A3.out).mono ?_); rintro e w9 ⟨rfl, hb⟩; refine ⟨_, rfl, ?_⟩; have n0_ := Aside0.mk (below_step hb_ hb); clear HB; have HB := n0_; clear n0_; (try clear hb); (try clear hb2); (try clear hk); (try clear hi)) | ((with_reducible refine gate_callee (f := 9) rfl ?_); refine goesL_ (some 17) rfl rfl Tryd.func9 (by kernel_rfl) rfl #[.string a0] rfl ls_ ?_; (with_reducible refine (impl_StuffBits.calls a0 t133 t134 _ A4.out).mono ?_); rintro e w10 ⟨rfl, hb⟩; refine ⟨_, rfl, ?_⟩; have n0_ := Aside0.mk (below_step hb_ hb); clear HB; have HB := n0_; clear n0_; (try clear hb); (try clear hb2); (try clear hk); (try clear hi)))
     go_ret
     exact ⟨er_, hb_⟩
   ·rw [if_neg c5] at H
    have c5b0 : (t133.toList == t131.toList) = false := beq_eq_false_iff_ne.mpr c5
    have c5b1 : (t133.toList != t131.toList) = true := bne_iff_ne.mpr c5
    obtain rfl := Option.some.inj H
    go_enter Tryd.func4, Tryd.ntmps4
    go_wp2_with (first | ((with_reducible refine gate_callee (f := 8) rfl ?_); refine goesL_ (some 12) rfl rfl Tryd.func8 (by kernel_rfl) rfl #[.string a0] rfl ls_ ?_; (with_reducible refine (spec_StuffBits.calls k a0 t131 t132 _ A3.out).mono ?_); rintro e w11 ⟨rfl, hb⟩; refine ⟨_, rfl, ?_⟩; have n0_ := Aside0.mk (below_step hb_ hb); clear HB; have HB := n0_; clear n0_; (try clear hb); (try clear hb2); (try clear hk); (try clear hi)) | ((with_reducible refine gate_callee (f := 9) rfl ?_); refine goesL_ (some 17) rfl rfl Tryd.func9 (by kernel_rfl) rfl #[.string a0] rfl ls_ ?_; (with_reducible refine (impl_StuffBits.calls a0 t133 t134 _ A4.out).mono ?_); rintro e w12 ⟨rfl, hb⟩; refine ⟨_, rfl, ?_⟩; have n0_ := Aside0.mk (below_step hb_ hb); clear HB; have HB := n0_; clear n0_; (try clear hb); (try clear hb2); (try clear hk); (try clear hi)))
    go_ret
    exact ⟨er_, hb_⟩

set_option maxHeartbeats 8000000 in
set_option maxRecDepth 100000 in
theorem spec_UnstuffBits.calls (k : Nat) (a0 : ByteArray) (r1 : ByteArray) (r2 : Bool) (w : World) (h : spec_UnstuffBits.f k a0 = some (r1, r2)) :
   Calls Tryd.prog 10 #[.string a0] w fun e w' => e = .returned (.tuple #[.string r1, .bool r2]) ∧ Below w.heap.size w w' := by
  have HB := Aside0.mk (Below.refl w.heap.size w)
  have H : ((spec_l23Bits.f k a0).bind fun t135 => (if t135 = true then (if 0 ≤ (a0.size : Int) then (if ((a0.size : Int) : Int).toNat ≤ 281474976710656 then (spec_UnstuffBits.l0 k a0 ([]) 0 0 0) else (none)) else (none)) else (some ((⟨#[]⟩ : ByteArray), false)))) = some (r1, r2) := h
  clear h
  replace H := Option.bind_eq_some_iff.mp H
  obtain ⟨t135, A20, H⟩ := H
  replace H : (if t135 = true then (if 0 ≤ (a0.size : Int) then (if ((a0.size : Int) : Int).toNat ≤ 281474976710656 then (spec_UnstuffBits.l0 k a0 ([]) 0 0 0) else (none)) else (none)) else (some ((⟨#[]⟩ : ByteArray), false))) = some (r1, r2) := H
  have A2 := Aside0.mk A20
  clear A20
  by_cases c3 : t135 = true
  ·subst c3
   rw [if_pos rfl] at H
   by_cases c4 : 0 ≤ (a0.size : Int)
   ·rw [if_pos c4] at H
    have c4b0 := eq_true c4
    have c4b1 : decide (0 ≤ (a0.size : Int)) = true := decide_eq_true c4
    clear c4
    by_cases c5 : ((a0.size : Int) : Int).toNat ≤ 281474976710656
    ·rw [if_pos c5] at H
     have c5b0 := eq_true c5
     have c5b1 : decide (((a0.size : Int) : Int).toNat ≤ 281474976710656) = true := decide_eq_true c5
     clear c5
     obtain ⟨y136, hy136⟩ : ∃ y_ : List Int, y_ = ([]) := ⟨_, rfl⟩
     replace H : (spec_UnstuffBits.l0 k a0 y136 0 0 0) = some (r1, r2) := by first | (rw [hy136]; with_reducible exact H) | (have H2_ := (Option.bind_some _ _).symm.trans H; rw [hy136]; with_reducible exact H2_) | (have H2_ := (Option.bind_some _ _).symm.trans H; with_reducible exact H2_) | with_reducible exact H | (rw [hy136]; exact H) | exact H
     have Ny136 := Aside0.mk hy136
     clear hy136
     have H' := Aside0.mk H
     clear H
     go_enter Tryd.func10, Tryd.ntmps10
     go_wp2_with (first | ((with_reducible refine gate_callee (f := 12) rfl ?_); refine goesL_ (some 9) rfl rfl Tryd.func12 (by kernel_rfl) rfl #[.string a0] rfl ls_ ?_; (with_reducible refine (spec_l23Bits.calls k a0 true _ A2.out).mono ?_); rintro e w' ⟨rfl, ⟨nd, rfl⟩⟩; refine ⟨_, rfl, ?_⟩) | ((with_reducible refine gate_dst (N := 13) rfl ?_); refine R_makec (Kd.int .u8) _ 5 rfl (N := 13) rfl 29 _ _ rfl (a0.size : Int) rfl rfl Tryd.underlying29 (.int .u8 0) 1 info5 rfl (by decide) (by omega) 0 (ok := fun _ => True) (okp := fun _ => True) rfl (fun _ hk => hk) trivial (of_decide_eq_true as_) (Nat.le_trans (Nat.mul_le_mul_right _ (of_decide_eq_true as_ : (a0.size : Int).toNat ≤ 281474976710656)) (by omega)) (Below.refl _ _) (Nat.le_refl _) ?_; intro v137 w6 ho7 hb hg_ hnew_; clear hg_ hnew_; (first | rw [← Ny136.out] at ho7 | (simp only [Int.reduceToNat] at ho7; rw [← Ny136.out] at ho7)); have n0_ := Aside0.mk (Kd.R_lower ho7 (below_size hb_)); have n1_ := Aside0.mk (below_step hb_ hb); clear HB; have HO138 := n0_; have HB := n1_; clear n0_ n1_; clear hb ho7))
     go_loopg [4, 5, 6, 7] k (fun kq v4 v5 v6 v7 w' => ∃ (x4_1 : List Int) (x5_1 : Int) (x6_1 : Int) (x7_1 : Int), v5 = .int .i64 x5_1 ∧ v6 = .int .u8 x6_1 ∧ v7 = .int .i64 x7_1 ∧ Aside0 (spec_UnstuffBits.l0 kq a0 x4_1 x5_1 x6_1 x7_1 = some (r1, r2)) ∧ Aside0 (kq ≤ k) ∧ Aside0 (Kd.R (Kd.int .u8) 5 w' w.heap.size (fun _ => True) v4 x4_1) ∧ Aside0 (Below w.heap.size w w'))
     case atStart => exact ⟨(y136), (0), (0), (0), es_, es_, es_, H', ⟨Nat.le_refl _⟩, ⟨ra_ HO138.out⟩, ⟨hb_⟩⟩
     case round =>
      clear H'
      try clear c1
      try clear p2
      try clear c3
      try clear c4
      try clear c4b0
      try clear c4b1
      try clear c5
      try clear c5b0
      try clear c5b1
      obtain ⟨x4_1, x5_1, x6_1, x7_1, rfl, rfl, rfl, HA, HK1, HO_4, HB⟩ := hrel
      cases gk with
      | zero => exact absurd HA.out (by simp [spec_UnstuffBits.l0])
      | succ k1 =>
       have H := HA.out
       clear HA
       simp only [spec_UnstuffBits.l0] at H
       by_cases c8 : x7_1 < (a0.size : Int)
       ·rw [if_pos c8] at H
        have c8b0 : decide (x7_1 < (a0.size : Int)) = true := decide_eq_true c8
        clear c8
        by_cases c9 : x5_1 = 5
        ·rw [if_pos c9] at H
         have c9b0 : (x5_1 == 5) = true := beq_iff_eq.mpr c9
         have c9b1 : (x5_1 != 5) = false := bne_eq_false_iff_eq.mpr c9
         clear c9
         by_cases c10 : 0 ≤ x7_1
         ·rw [if_pos c10] at H
          have c10b0 : decide (0 ≤ x7_1) = true := decide_eq_true c10
          clear c10
          by_cases c12 : (bt a0 x7_1) = x6_1
          ·rw [if_pos c12] at H
           have c12b0 : ((bt a0 x7_1) == x6_1) = true := beq_iff_eq.mpr c12
           have c12b1 : ((bt a0 x7_1) != x6_1) = false := bne_eq_false_iff_eq.mpr c12
           clear c12
           simp only [Option.some.injEq, Prod.mk.injEq] at H
           obtain ⟨rfl, rfl⟩ := H
           have p11 : 0 ≤ (x7_1 : Int) := of_decide_eq_true as_
           have q11 : x7_1 < (a0.size : Int) := of_decide_eq_true as_
           have hx11 := bt_at a0 x7_1
           replace p11 := eq_true p11
           replace q11 := eq_true q11
           go_wp2
           go_ret2
           exact ⟨er_, hb_⟩
          ·rw [if_neg c12] at H
           have c12b0 : ((bt a0 x7_1) == x6_1) = false := beq_eq_false_iff_ne.mpr c12
           have c12b1 : ((bt a0 x7_1) != x6_1) = true := bne_iff_ne.mpr c12
           have H' := Aside0.mk H
           clear H
           have p11 : 0 ≤ (x7_1 : Int) := of_decide_eq_true as_
           have q11 : x7_1 < (a0.size : Int) := of_decide_eq_true as_
           have hx11 := bt_at a0 x7_1
           replace p11 := eq_true p11
           replace q11 := eq_true q11
           have p13 : 0 ≤ (x7_1 : Int) := of_decide_eq_true as_
           have q13 : x7_1 < (a0.size : Int) := of_decide_eq_true as_
           have hx13 := bt_at a0 x7_1
           replace p13 := eq_true p13
           replace q13 := eq_true q13
           go_wp2
           go_roundg k1
           case measure => have := HK1.out; omega
           case rel => exact ⟨(x4_1), (1), (bt a0 x7_1), (wrap64 (x7_1 + 1)), es_, es_, es_, H', ⟨by have := HK1.out; omega⟩, ⟨ra_ HO_4.out⟩, ⟨hb_⟩⟩
         ·rw [if_neg c10] at H
          exact absurd H (by simp)
        ·rw [if_neg c9] at H
         have c9b0 : (x5_1 == 5) = false := beq_eq_false_iff_ne.mpr c9
         have c9b1 : (x5_1 != 5) = true := bne_iff_ne.mpr c9
         by_cases c14 : 0 ≤ x7_1
         ·rw [if_pos c14] at H
          have c14b0 : decide (0 ≤ x7_1) = true := decide_eq_true c14
          clear c14
          by_cases c16 : (bt a0 x7_1) = x6_1
          ·rw [if_pos c16] at H
           have c16b0 : ((bt a0 x7_1) == x6_1) = true := beq_iff_eq.mpr c16
           have c16b1 : ((bt a0 x7_1) != x6_1) = false := bne_eq_false_iff_eq.mpr c16
           clear c16
           by_cases c18 : x4_1.length < 140737488355328
           ·rw [if_pos c18] at H
            have LMc18 := Aside0.mk c18
            clear c18
            obtain ⟨y139, hy139⟩ : ∃ y_ : List Int, y_ = (x4_1 ++ [bt a0 x7_1]) := ⟨_, rfl⟩
            replace H : (spec_UnstuffBits.l0 k1 a0 y139 (wrap64 (x5_1 + 1)) x6_1 (wrap64 (x7_1 + 1))) = some (r1, r2) := by first | (rw [hy139]; with_reducible exact H) | (have H2_ := (Option.bind_some _ _).symm.trans H; rw [hy139]; with_reducible exact H2_) | (have H2_ := (Option.bind_some _ _).symm.trans H; with_reducible exact H2_) | with_reducible exact H | (rw [hy139]; exact H) | exact H
            have Ny139 := Aside0.mk hy139
            clear hy139
            have H' := Aside0.mk H
            clear H
            have p15 : 0 ≤ (x7_1 : Int) := of_decide_eq_true as_
            have q15 : x7_1 < (a0.size : Int) := of_decide_eq_true as_
            have hx15 := bt_at a0 x7_1
            replace p15 := eq_true p15
            replace q15 := eq_true q15
            have p17 : 0 ≤ (x7_1 : Int) := of_decide_eq_true as_
            have q17 : x7_1 < (a0.size : Int) := of_decide_eq_true as_
            have hx17 := bt_at a0 x7_1
            replace p17 := eq_true p17
            replace q17 := eq_true q17
            go_wp2_with (first | ((with_reducible refine gate_builtin (b := .append) (xs := #[.tmp 40, .tmp 44]) rfl ?_); at_builtin; refine Kd.R_append (Kd.int .u8) (w0 := w) w.heap.size rfl (.tmp 40) (.tmp 44) 29 5 (.int .u8 0) 1 rfl Tryd.underlying29 info5 rfl (by decide) (by omega) u4 x4_1 (bt a0 x7_1) [.int .u8 (bt a0 x7_1)] (fun _ => True) (fun _ => False) rfl rfl ?aP (fun _ hk => hk.elim) ?aF ?aO ?aB ?aS ?aL ?_; (case aP => exact rfl); (case aB => exact hb_); (case aF => exact (fun _ _ => trivial)); (case aO => exact (ra_ HO_4.out)); (case aS => exact (below_size hb_)); (case aL => have := LMc18.out; omega); intro v140 w19 ho hb hg hat; rw [← Ny139.out] at ho; have n0_ := Aside0.mk (hb); have n1_ := Aside0.mk (ho); clear HB; clear HO_4; have HB := n0_; have HO141 := n1_; clear n0_ n1_; clear ho hb hg hat))
            go_roundg k1
            case measure => have := HK1.out; omega
            case rel => exact ⟨(y139), (wrap64 (x5_1 + 1)), (x6_1), (wrap64 (x7_1 + 1)), es_, es_, es_, H', ⟨by have := HK1.out; omega⟩, ⟨ra_ HO141.out⟩, ⟨hb_⟩⟩
           ·rw [if_neg c18] at H
            exact absurd H (by simp)
          ·rw [if_neg c16] at H
           have c16b0 : ((bt a0 x7_1) == x6_1) = false := beq_eq_false_iff_ne.mpr c16
           have c16b1 : ((bt a0 x7_1) != x6_1) = true := bne_iff_ne.mpr c16
           by_cases c22 : x4_1.length < 140737488355328
           ·rw [if_pos c22] at H
            have LMc22 := Aside0.mk c22
            clear c22
            obtain ⟨y142, hy142⟩ : ∃ y_ : List Int, y_ = (x4_1 ++ [bt a0 x7_1]) := ⟨_, rfl⟩
            replace H : (spec_UnstuffBits.l0 k1 a0 y142 1 (bt a0 x7_1) (wrap64 (x7_1 + 1))) = some (r1, r2) := by first | (rw [hy142]; with_reducible exact H) | (have H2_ := (Option.bind_some _ _).symm.trans H; rw [hy142]; with_reducible exact H2_) | (have H2_ := (Option.bind_some _ _).symm.trans H; with_reducible exact H2_) | with_reducible exact H | (rw [hy142]; exact H) | exact H
            have Ny142 := Aside0.mk hy142
            clear hy142
            have H' := Aside0.mk H
            clear H
            have p15 : 0 ≤ (x7_1 : Int) := of_decide_eq_true as_
            have q15 : x7_1 < (a0.size : Int) := of_decide_eq_true as_
            have hx15 := bt_at a0 x7_1
            replace p15 := eq_true p15
            replace q15 := eq_true q15
            have p20 : 0 ≤ (x7_1 : Int) := of_decide_eq_true as_
            have q20 : x7_1 < (a0.size : Int) := of_decide_eq_true as_
            have hx20 := bt_at a0 x7_1
            replace p20 := eq_true p20
            replace q20 := eq_true q20
            have p21 : 0 ≤ (x7_1 : Int) := of_decide_eq_true as_
            have q21 : x7_1 < (a0.size : Int) := of_decide_eq_true as_
            have hx21 := bt_at a0 x7_1
            replace p21 := eq_true p21
            replace q21 := eq_true q21
            go_wp2_with (first | ((with_reducible refine gate_builtin (b := .append) (xs := #[.tmp 40, .tmp 44]) rfl ?_); at_builtin; refine Kd.R_append (Kd.int .u8) (w0 := w) w.heap.size rfl (.tmp 40) (.tmp 44) 29 5 (.int .u8 0) 1 rfl Tryd.underlying29 info5 rfl (by decide) (by omega) u4 x4_1 (bt a0 x7_1) [.int .u8 (bt a0 x7_1)] (fun _ => True) (fun _ => False) rfl rfl ?aP (fun _ hk => hk.elim) ?aF ?aO ?aB ?aS ?aL ?_; (case aP => exact rfl); (case aB => exact hb_); (case aF => exact (fun _ _ => trivial)); (case aO => exact (ra_ HO_4.out)); (case aS => exact (below_size hb_)); (case aL => have := LMc22.out; omega); intro v143 w23 ho hb hg hat; rw [← Ny142.out] at ho; have n0_ := Aside0.mk (hb); have n1_ := Aside0.mk (ho); clear HB; clear HO_4; have HB := n0_; have HO144 := n1_; clear n0_ n1_; clear ho hb hg hat))
            go_roundg k1
            case measure => have := HK1.out; omega
            case rel => exact ⟨(y142), (1), (bt a0 x7_1), (wrap64 (x7_1 + 1)), es_, es_, es_, H', ⟨by have := HK1.out; omega⟩, ⟨ra_ HO144.out⟩, ⟨hb_⟩⟩
           ·rw [if_neg c22] at H
            exact absurd H (by simp)
         ·rw [if_neg c14] at H
          exact absurd H (by simp)
       ·rw [if_neg c8] at H
        have c8b0 : decide (x7_1 < (a0.size : Int)) = false := decide_eq_false c8
        clear c8
        by_cases c24 : x5_1 = 5
        ·rw [if_pos c24] at H
         have c24b0 : (x5_1 == 5) = true := beq_iff_eq.mpr c24
         have c24b1 : (x5_1 != 5) = false := bne_eq_false_iff_eq.mpr c24
         clear c24
         simp only [Option.some.injEq, Prod.mk.injEq] at H
         obtain ⟨rfl, rfl⟩ := H
         go_wp2
         go_ret2
         exact ⟨er_, hb_⟩
        ·rw [if_neg c24] at H
         have c24b0 : (x5_1 == 5) = false := beq_eq_false_iff_ne.mpr c24
         have c24b1 : (x5_1 != 5) = true := bne_iff_ne.mpr c24
         simp only [Option.some.injEq, Prod.mk.injEq] at H
         obtain ⟨rfl, rfl⟩ := H
         have hcv25 := own_string (P := Tryd.prog) Tryd.underlying29 Tryd.underlying5 Tryd.underlying9 (Kd.own_of_R HO_4.out)
         go_wp2
         go_ret2
         exact ⟨er_, hb_⟩
    ·rw [if_neg c5] at H
     exact absurd H (by simp)
   ·rw [if_neg c4] at H
    exact absurd H (by simp)
  ·replace c3 := Bool.eq_false_iff.mpr c3
   subst c3
   rw [if_neg (show ¬ (false = true) by decide)] at H
   simp only [Option.some.injEq, Prod.mk.injEq] at H
   obtain ⟨rfl, rfl⟩ := H
   go_enter Tryd.func10, Tryd.ntmps10
   go_wp2_with (first | ((with_reducible refine gate_callee (f := 12) rfl ?_); refine goesL_ (some 9) rfl rfl Tryd.func12 (by kernel_rfl) rfl #[.string a0] rfl ls_ ?_; (with_reducible refine (spec_l23Bits.calls k a0 false _ A2.out).mono ?_); rintro e w' ⟨rfl, ⟨nd, rfl⟩⟩; refine ⟨_, rfl, ?_⟩))
   go_ret2
   exact ⟨er_, hb_⟩

end Go.Proofs.YtbdonoeellmeoaaDoor.Pr
