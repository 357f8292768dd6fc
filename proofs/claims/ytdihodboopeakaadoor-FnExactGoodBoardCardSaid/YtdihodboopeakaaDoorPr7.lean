-- Written by this session's own print (wip/tools/mkmp.py) out of the translation. Lean checks it.
import Derived.Test.YtdihodboopeakaaDoorPr0
import Derived.Test.YtdihodboopeakaaDoorPr6
import Derived.Test.YtdihodboopeakaaDoorPrd1
namespace Go.Proofs.YtdihodboopeakaaDoor.Pr
open Go.RowKit Go.Proofs.YtdihodboopeakaaDoorW.PrintWords Go.Proofs.YtdihodboopeakaaDoorW.PrintLast Go.Proofs.YtdihodboopeakaaDoorW.PrintMore
attribute [local go_sem] max2_int min2_int max_two min_two max_three min_three max_four min_four   -- for this text's walks alone
set_option linter.unusedVariables false
set_option linter.unusedSimpArgs false

set_option maxHeartbeats 8000000 in
set_option maxRecDepth 100000 in
theorem spec_l22Letter.calls (a0 : Int) (r : Bool) (w : World) (h : spec_l22Letter.f a0 = some r) :
   Calls Tryd.prog 92 #[.int .u8 a0] w fun e w' => e = .returned (.bool r) ∧ Drawn0 w w' := by
  have H : (if a0 ≥ 97 then (if a0 ≤ 122 then (some true) else (if a0 ≥ 65 then (some (decide (a0 ≤ 90))) else (some false))) else (if a0 ≥ 65 then (some (decide (a0 ≤ 90))) else (some false))) = some r := h
  clear h
  by_cases c2 : a0 ≥ 97
  ·rw [if_pos c2] at H
   have c2b0 : decide (97 ≤ a0) = true := decide_eq_true c2
   clear c2
   by_cases c3 : a0 ≤ 122
   ·rw [if_pos c3] at H
    have c3b0 : decide (a0 ≤ 122) = true := decide_eq_true c3
    clear c3
    obtain rfl := Option.some.inj H
    go_enter Tryd.func92, Tryd.ntmps92
    go_wp2
    go_ret
    exact ⟨es_, by repeat (first | exact Drawn0.refl _ | apply Drawn0.step)⟩
   ·rw [if_neg c3] at H
    have c3b0 : decide (a0 ≤ 122) = false := decide_eq_false c3
    clear c3
    by_cases c4 : a0 ≥ 65
    ·rw [if_pos c4] at H
     have c4b0 : decide (65 ≤ a0) = true := decide_eq_true c4
     clear c4
     obtain rfl := Option.some.inj H
     go_enter Tryd.func92, Tryd.ntmps92
     go_wp2
     go_ret
     exact ⟨es_, by repeat (first | exact Drawn0.refl _ | apply Drawn0.step)⟩
    ·rw [if_neg c4] at H
     have c4b0 : decide (65 ≤ a0) = false := decide_eq_false c4
     clear c4
     obtain rfl := Option.some.inj H
     go_enter Tryd.func92, Tryd.ntmps92
     go_wp2
     go_ret
     exact ⟨es_, by repeat (first | exact Drawn0.refl _ | apply Drawn0.step)⟩
  ·rw [if_neg c2] at H
   have c2b0 : decide (97 ≤ a0) = false := decide_eq_false c2
   clear c2
   by_cases c5 : a0 ≥ 65
   ·rw [if_pos c5] at H
    have c5b0 : decide (65 ≤ a0) = true := decide_eq_true c5
    clear c5
    obtain rfl := Option.some.inj H
    go_enter Tryd.func92, Tryd.ntmps92
    go_wp2
    go_ret
    exact ⟨es_, by repeat (first | exact Drawn0.refl _ | apply Drawn0.step)⟩
   ·rw [if_neg c5] at H
    have c5b0 : decide (65 ≤ a0) = false := decide_eq_false c5
    clear c5
    obtain rfl := Option.some.inj H
    go_enter Tryd.func92, Tryd.ntmps92
    go_wp2
    go_ret
    exact ⟨es_, by repeat (first | exact Drawn0.refl _ | apply Drawn0.step)⟩

set_option maxHeartbeats 8000000 in
set_option maxRecDepth 100000 in
theorem spec_l22Odd.calls (k : Nat) (a0 : ByteArray) (r1 : Int) (r2 : Int) (w : World) (h : spec_l22Odd.f k a0 = some (r1, r2)) :
   Calls Tryd.prog 67 #[.string a0] w fun e w' => e = .returned (.tuple #[.int .i64 r1, .int .i64 r2]) ∧ Drawn0 w w' := by
  have H : (spec_l22Odd.l0 k a0 0 0) = some (r1, r2) := h
  clear h
  have H' := Aside0.mk H
  clear H
  go_enter Tryd.func67, Tryd.ntmps67
  go_wp2
  go_loopg [4, 5] k (fun kq v4 v5 w' => ∃ (x4_1 : Int) (x5_1 : Int), v4 = .int .i64 x4_1 ∧ v5 = .int .i64 x5_1 ∧ Aside0 (spec_l22Odd.l0 kq a0 x4_1 x5_1 = some (r1, r2)) ∧ Aside0 (kq ≤ k) ∧ Drawn0 w w')
  case atStart => exact ⟨(0), (0), es_, es_, H', ⟨Nat.le_refl _⟩, by repeat (first | exact Drawn0.refl _ | apply Drawn0.step)⟩
  case round =>
   clear H'
   obtain ⟨x4_1, x5_1, rfl, rfl, HA, HK1, ⟨m1, rfl⟩⟩ := hrel
   cases gk with
   | zero => exact absurd HA.out (by simp [spec_l22Odd.l0])
   | succ k1 =>
    have H := HA.out
    clear HA
    simp only [spec_l22Odd.l0] at H
    by_cases c2 : x5_1 < (a0.size : Int)
    ·rw [if_pos c2] at H
     have c2b0 : decide (x5_1 < (a0.size : Int)) = true := decide_eq_true c2
     clear c2
     replace H := Option.bind_eq_some_iff.mp H
     obtain ⟨t157, A30, H⟩ := H
     replace H : (if t157 = 0 then (some (x5_1, 0)) else (if t157 = 1 then (if 0 ≤ x5_1 then ((spec_l22Letter.f (bt a0 x5_1)).bind fun t158 => (if t158 = true then (spec_l22Odd.l0 k1 a0 (wrap64 (x4_1 + 1)) (wrap64 (x5_1 + t157))) else (some (x5_1, 0)))) else (none)) else (spec_l22Odd.l0 k1 a0 (wrap64 (x4_1 + 1)) (wrap64 (x5_1 + t157))))) = some (r1, r2) := H
     have A3 := Aside0.mk A30
     clear A30
     by_cases c4 : t157 = 0
     ·rw [if_pos c4] at H
      have c4b0 : (t157 == 0) = true := beq_iff_eq.mpr c4
      have c4b1 : (t157 != 0) = false := bne_eq_false_iff_eq.mpr c4
      clear c4
      simp only [Option.some.injEq, Prod.mk.injEq] at H
      obtain ⟨rfl, rfl⟩ := H
      go_wp2_with (first | ((with_reducible refine gate_callee (f := 91) rfl ?_); refine goesL_ (some 13) rfl rfl Tryd.func91 (by kernel_rfl) rfl #[.string a0, .int .i64 x5_1] rfl ls_ ?_; (with_reducible refine (spec_l22Rune.calls k1 a0 x5_1 t157 _ A3.out).mono ?_); rintro e w' ⟨rfl, ⟨nd, rfl⟩⟩; refine ⟨_, rfl, ?_⟩))
      go_ret2
      exact ⟨es_, by repeat (first | exact Drawn0.refl _ | apply Drawn0.step)⟩
     ·rw [if_neg c4] at H
      have c4b0 : (t157 == 0) = false := beq_eq_false_iff_ne.mpr c4
      have c4b1 : (t157 != 0) = true := bne_iff_ne.mpr c4
      by_cases c5 : t157 = 1
      ·rw [if_pos c5] at H
       have c5b0 : (t157 == 1) = true := beq_iff_eq.mpr c5
       have c5b1 : (t157 != 1) = false := bne_eq_false_iff_eq.mpr c5
       clear c5
       by_cases c6 : 0 ≤ x5_1
       ·rw [if_pos c6] at H
        have c6b0 : decide (0 ≤ x5_1) = true := decide_eq_true c6
        clear c6
        replace H := Option.bind_eq_some_iff.mp H
        obtain ⟨t158, A80, H⟩ := H
        replace H : (if t158 = true then (spec_l22Odd.l0 k1 a0 (wrap64 (x4_1 + 1)) (wrap64 (x5_1 + t157))) else (some (x5_1, 0))) = some (r1, r2) := H
        have A8 := Aside0.mk A80
        clear A80
        by_cases c9 : t158 = true
        ·subst c9
         rw [if_pos rfl] at H
         have H' := Aside0.mk H
         clear H
         go_wp2_with (first | ((with_reducible refine gate_callee (f := 91) rfl ?_); refine goesL_ (some 13) rfl rfl Tryd.func91 (by kernel_rfl) rfl #[.string a0, .int .i64 x5_1] rfl ls_ ?_; (with_reducible refine (spec_l22Rune.calls k1 a0 x5_1 t157 _ A3.out).mono ?_); rintro e w' ⟨rfl, ⟨nd, rfl⟩⟩; refine ⟨_, rfl, ?_⟩; have p7 : 0 ≤ (x5_1 : Int) := of_decide_eq_true as_; have q7 : x5_1 < (a0.size : Int) := of_decide_eq_true as_; have hx7 := bt_at a0 x5_1; replace p7 := eq_true p7; replace q7 := eq_true q7) | (go_at_call 92; (with_reducible refine (spec_l22Letter.calls (bt a0 x5_1) true _ A8.out).mono ?_); rintro e w' ⟨rfl, ⟨nd, rfl⟩⟩))
         go_roundg k1
         case measure => have := HK1.out; omega
         case rel => exact ⟨(wrap64 (x4_1 + 1)), (wrap64 (x5_1 + t157)), es_, es_, H', ⟨by have := HK1.out; omega⟩, by repeat (first | exact Drawn0.refl _ | apply Drawn0.step)⟩
        ·replace c9 := Bool.eq_false_iff.mpr c9
         subst c9
         rw [if_neg (show ¬ (false = true) by decide)] at H
         simp only [Option.some.injEq, Prod.mk.injEq] at H
         obtain ⟨rfl, rfl⟩ := H
         go_wp2_with (first | ((with_reducible refine gate_callee (f := 91) rfl ?_); refine goesL_ (some 13) rfl rfl Tryd.func91 (by kernel_rfl) rfl #[.string a0, .int .i64 x5_1] rfl ls_ ?_; (with_reducible refine (spec_l22Rune.calls k1 a0 x5_1 t157 _ A3.out).mono ?_); rintro e w' ⟨rfl, ⟨nd, rfl⟩⟩; refine ⟨_, rfl, ?_⟩; have p7 : 0 ≤ (x5_1 : Int) := of_decide_eq_true as_; have q7 : x5_1 < (a0.size : Int) := of_decide_eq_true as_; have hx7 := bt_at a0 x5_1; replace p7 := eq_true p7; replace q7 := eq_true q7) | (go_at_call 92; (with_reducible refine (spec_l22Letter.calls (bt a0 x5_1) false _ A8.out).mono ?_); rintro e w' ⟨rfl, ⟨nd, rfl⟩⟩))
         go_ret2
         exact ⟨es_, by repeat (first | exact Drawn0.refl _ | apply Drawn0.step)⟩
       ·rw [if_neg c6] at H
        exact absurd H (by simp)
      ·rw [if_neg c5] at H
       have c5b0 : (t157 == 1) = false := beq_eq_false_iff_ne.mpr c5
       have c5b1 : (t157 != 1) = true := bne_iff_ne.mpr c5
       have H' := Aside0.mk H
       clear H
       go_wp2_with (first | ((with_reducible refine gate_callee (f := 91) rfl ?_); refine goesL_ (some 13) rfl rfl Tryd.func91 (by kernel_rfl) rfl #[.string a0, .int .i64 x5_1] rfl ls_ ?_; (with_reducible refine (spec_l22Rune.calls k1 a0 x5_1 t157 _ A3.out).mono ?_); rintro e w' ⟨rfl, ⟨nd, rfl⟩⟩; refine ⟨_, rfl, ?_⟩))
       go_roundg k1
       case measure => have := HK1.out; omega
       case rel => exact ⟨(wrap64 (x4_1 + 1)), (wrap64 (x5_1 + t157)), es_, es_, H', ⟨by have := HK1.out; omega⟩, by repeat (first | exact Drawn0.refl _ | apply Drawn0.step)⟩
    ·rw [if_neg c2] at H
     have c2b0 : decide (x5_1 < (a0.size : Int)) = false := decide_eq_false c2
     clear c2
     simp only [Option.some.injEq, Prod.mk.injEq] at H
     obtain ⟨rfl, rfl⟩ := H
     go_wp2
     go_ret2
     exact ⟨es_, by repeat (first | exact Drawn0.refl _ | apply Drawn0.step)⟩

set_option maxHeartbeats 8000000 in
set_option maxRecDepth 100000 in
theorem spec_l22Name.calls (k : Nat) (a0 : ByteArray) (r : Bool) (w : World) (h : spec_l22Name.f k a0 = some r) :
   Calls Tryd.prog 64 #[.string a0] w fun e w' => e = .returned (.bool r) ∧ Drawn0 w w' := by
  have H : ((spec_l22Odd.f k a0).bind fun bt159 => (if bt159.1 < 0 then (if bt159.2 ≥ 1 then (some (decide (bt159.2 ≤ 12))) else (some false)) else (some false))) = some r := h
  clear h
  replace H := Option.bind_eq_some_iff.mp H
  obtain ⟨⟨t159, t160⟩, A20, H⟩ := H
  replace H : (if t159 < 0 then (if t160 ≥ 1 then (some (decide (t160 ≤ 12))) else (some false)) else (some false)) = some r := H
  have A2 := Aside0.mk A20
  clear A20
  by_cases c3 : t159 < 0
  ·rw [if_pos c3] at H
   have c3b0 : decide (t159 < 0) = true := decide_eq_true c3
   clear c3
   by_cases c4 : t160 ≥ 1
   ·rw [if_pos c4] at H
    have c4b0 : decide (1 ≤ t160) = true := decide_eq_true c4
    clear c4
    obtain rfl := Option.some.inj H
    go_enter Tryd.func64, Tryd.ntmps64
    go_wp2_with (first | ((with_reducible refine gate_callee (f := 67) rfl ?_); refine goesL_ (some 7) rfl rfl Tryd.func67 (by kernel_rfl) rfl #[.string a0] rfl ls_ ?_; (with_reducible refine (spec_l22Odd.calls k a0 t159 t160 _ A2.out).mono ?_); rintro e w' ⟨rfl, ⟨nd, rfl⟩⟩; refine ⟨_, rfl, ?_⟩))
    go_ret
    exact ⟨es_, by repeat (first | exact Drawn0.refl _ | apply Drawn0.step)⟩
   ·rw [if_neg c4] at H
    have c4b0 : decide (1 ≤ t160) = false := decide_eq_false c4
    clear c4
    obtain rfl := Option.some.inj H
    go_enter Tryd.func64, Tryd.ntmps64
    go_wp2_with (first | ((with_reducible refine gate_callee (f := 67) rfl ?_); refine goesL_ (some 7) rfl rfl Tryd.func67 (by kernel_rfl) rfl #[.string a0] rfl ls_ ?_; (with_reducible refine (spec_l22Odd.calls k a0 t159 t160 _ A2.out).mono ?_); rintro e w' ⟨rfl, ⟨nd, rfl⟩⟩; refine ⟨_, rfl, ?_⟩))
    go_ret
    exact ⟨es_, by repeat (first | exact Drawn0.refl _ | apply Drawn0.step)⟩
  ·rw [if_neg c3] at H
   have c3b0 : decide (t159 < 0) = false := decide_eq_false c3
   clear c3
   obtain rfl := Option.some.inj H
   go_enter Tryd.func64, Tryd.ntmps64
   go_wp2_with (first | ((with_reducible refine gate_callee (f := 67) rfl ?_); refine goesL_ (some 7) rfl rfl Tryd.func67 (by kernel_rfl) rfl #[.string a0] rfl ls_ ?_; (with_reducible refine (spec_l22Odd.calls k a0 t159 t160 _ A2.out).mono ?_); rintro e w' ⟨rfl, ⟨nd, rfl⟩⟩; refine ⟨_, rfl, ?_⟩))
   go_ret
   exact ⟨es_, by repeat (first | exact Drawn0.refl _ | apply Drawn0.step)⟩

end Go.Proofs.YtdihodboopeakaaDoor.Pr
