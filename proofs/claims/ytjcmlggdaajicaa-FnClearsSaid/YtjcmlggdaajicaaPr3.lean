-- Written by this session's own print (wip/tools/mkmp.py) out of the translation. Lean checks it.
import Derived.Test.YtjcmlggdaajicaaPr0
import Derived.Test.YtjcmlggdaajicaaPrd2
namespace Go.Proofs.Ytjcmlggdaajicaa.Pr
open Go.RowKit Go.Proofs.YtjcmlggdaajicaaW.PrintWords Go.Proofs.YtjcmlggdaajicaaW.PrintLast Go.Proofs.YtjcmlggdaajicaaW.PrintMore
attribute [local go_sem] max2_int min2_int max_two min_two max_three min_three max_four min_four   -- for this text's walks alone
set_option linter.unusedVariables false
set_option linter.unusedSimpArgs false

set_option maxHeartbeats 8000000 in
set_option maxRecDepth 100000 in
theorem spec_l18Meets.calls (k : Nat) (a0 : Int) (a1 : Int) (a2 : Int) (a3 : Int) (a4 : Int) (a5 : Int) (r : Bool) (w : World) (h : spec_l18Meets.f k a0 a1 a2 a3 a4 a5 = some r) :
   Calls Try.prog 55 #[.int .i64 a0, .int .i64 a1, .int .i64 a2, .int .i64 a3, .int .i64 a4, .int .i64 a5] w fun e w' => e = .returned (.bool r) ∧ Below w.heap.size w w' := by
  have HB := Aside0.mk (Below.refl w.heap.size w)
  have H : (if a0 < (wrap64 ((wrap64 (2 * a4)) - 1)) then (if a2 < (wrap64 ((wrap64 (2 * a4)) - 1)) then (spec_l18Meets.j0 k a0 a1 a2 a3 (wrap64 ((wrap64 (2 * a4)) - 1)) (wrap64 ((wrap64 (2 * a4)) + 1)) (wrap64 ((wrap64 (2 * a5)) - 1)) (wrap64 ((wrap64 (2 * a5)) + 1)) true) else (if a0 > (wrap64 ((wrap64 (2 * a4)) + 1)) then (if a2 > (wrap64 ((wrap64 (2 * a4)) + 1)) then (spec_l18Meets.j0 k a0 a1 a2 a3 (wrap64 ((wrap64 (2 * a4)) - 1)) (wrap64 ((wrap64 (2 * a4)) + 1)) (wrap64 ((wrap64 (2 * a5)) - 1)) (wrap64 ((wrap64 (2 * a5)) + 1)) true) else (if a1 < (wrap64 ((wrap64 (2 * a5)) - 1)) then (if a3 < (wrap64 ((wrap64 (2 * a5)) - 1)) then (spec_l18Meets.j0 k a0 a1 a2 a3 (wrap64 ((wrap64 (2 * a4)) - 1)) (wrap64 ((wrap64 (2 * a4)) + 1)) (wrap64 ((wrap64 (2 * a5)) - 1)) (wrap64 ((wrap64 (2 * a5)) + 1)) true) else (if a1 > (wrap64 ((wrap64 (2 * a5)) + 1)) then (spec_l18Meets.j0 k a0 a1 a2 a3 (wrap64 ((wrap64 (2 * a4)) - 1)) (wrap64 ((wrap64 (2 * a4)) + 1)) (wrap64 ((wrap64 (2 * a5)) - 1)) (wrap64 ((wrap64 (2 * a5)) + 1)) (decide (a3 > (wrap64 ((wrap64 (2 * a5)) + 1))))) else (spec_l18Meets.j0 k a0 a1 a2 a3 (wrap64 ((wrap64 (2 * a4)) - 1)) (wrap64 ((wrap64 (2 * a4)) + 1)) (wrap64 ((wrap64 (2 * a5)) - 1)) (wrap64 ((wrap64 (2 * a5)) + 1)) false))) else (if a1 > (wrap64 ((wrap64 (2 * a5)) + 1)) then (spec_l18Meets.j0 k a0 a1 a2 a3 (wrap64 ((wrap64 (2 * a4)) - 1)) (wrap64 ((wrap64 (2 * a4)) + 1)) (wrap64 ((wrap64 (2 * a5)) - 1)) (wrap64 ((wrap64 (2 * a5)) + 1)) (decide (a3 > (wrap64 ((wrap64 (2 * a5)) + 1))))) else (spec_l18Meets.j0 k a0 a1 a2 a3 (wrap64 ((wrap64 (2 * a4)) - 1)) (wrap64 ((wrap64 (2 * a4)) + 1)) (wrap64 ((wrap64 (2 * a5)) - 1)) (wrap64 ((wrap64 (2 * a5)) + 1)) false)))) else (if a1 < (wrap64 ((wrap64 (2 * a5)) - 1)) then (if a3 < (wrap64 ((wrap64 (2 * a5)) - 1)) then (spec_l18Meets.j0 k a0 a1 a2 a3 (wrap64 ((wrap64 (2 * a4)) - 1)) (wrap64 ((wrap64 (2 * a4)) + 1)) (wrap64 ((wrap64 (2 * a5)) - 1)) (wrap64 ((wrap64 (2 * a5)) + 1)) true) else (if a1 > (wrap64 ((wrap64 (2 * a5)) + 1)) then (spec_l18Meets.j0 k a0 a1 a2 a3 (wrap64 ((wrap64 (2 * a4)) - 1)) (wrap64 ((wrap64 (2 * a4)) + 1)) (wrap64 ((wrap64 (2 * a5)) - 1)) (wrap64 ((wrap64 (2 * a5)) + 1)) (decide (a3 > (wrap64 ((wrap64 (2 * a5)) + 1))))) else (spec_l18Meets.j0 k a0 a1 a2 a3 (wrap64 ((wrap64 (2 * a4)) - 1)) (wrap64 ((wrap64 (2 * a4)) + 1)) (wrap64 ((wrap64 (2 * a5)) - 1)) (wrap64 ((wrap64 (2 * a5)) + 1)) false))) else (if a1 > (wrap64 ((wrap64 (2 * a5)) + 1)) then (spec_l18Meets.j0 k a0 a1 a2 a3 (wrap64 ((wrap64 (2 * a4)) - 1)) (wrap64 ((wrap64 (2 * a4)) + 1)) (wrap64 ((wrap64 (2 * a5)) - 1)) (wrap64 ((wrap64 (2 * a5)) + 1)) (decide (a3 > (wrap64 ((wrap64 (2 * a5)) + 1))))) else (spec_l18Meets.j0 k a0 a1 a2 a3 (wrap64 ((wrap64 (2 * a4)) - 1)) (wrap64 ((wrap64 (2 * a4)) + 1)) (wrap64 ((wrap64 (2 * a5)) - 1)) (wrap64 ((wrap64 (2 * a5)) + 1)) false))))) else (if a0 > (wrap64 ((wrap64 (2 * a4)) + 1)) then (if a2 > (wrap64 ((wrap64 (2 * a4)) + 1)) then (spec_l18Meets.j0 k a0 a1 a2 a3 (wrap64 ((wrap64 (2 * a4)) - 1)) (wrap64 ((wrap64 (2 * a4)) + 1)) (wrap64 ((wrap64 (2 * a5)) - 1)) (wrap64 ((wrap64 (2 * a5)) + 1)) true) else (if a1 < (wrap64 ((wrap64 (2 * a5)) - 1)) then (if a3 < (wrap64 ((wrap64 (2 * a5)) - 1)) then (spec_l18Meets.j0 k a0 a1 a2 a3 (wrap64 ((wrap64 (2 * a4)) - 1)) (wrap64 ((wrap64 (2 * a4)) + 1)) (wrap64 ((wrap64 (2 * a5)) - 1)) (wrap64 ((wrap64 (2 * a5)) + 1)) true) else (if a1 > (wrap64 ((wrap64 (2 * a5)) + 1)) then (spec_l18Meets.j0 k a0 a1 a2 a3 (wrap64 ((wrap64 (2 * a4)) - 1)) (wrap64 ((wrap64 (2 * a4)) + 1)) (wrap64 ((wrap64 (2 * a5)) - 1)) (wrap64 ((wrap64 (2 * a5)) + 1)) (decide (a3 > (wrap64 ((wrap64 (2 * a5)) + 1))))) else (spec_l18Meets.j0 k a0 a1 a2 a3 (wrap64 ((wrap64 (2 * a4)) - 1)) (wrap64 ((wrap64 (2 * a4)) + 1)) (wrap64 ((wrap64 (2 * a5)) - 1)) (wrap64 ((wrap64 (2 * a5)) + 1)) false))) else (if a1 > (wrap64 ((wrap64 (2 * a5)) + 1)) then (spec_l18Meets.j0 k a0 a1 a2 a3 (wrap64 ((wrap64 (2 * a4)) - 1)) (wrap64 ((wrap64 (2 * a4)) + 1)) (wrap64 ((wrap64 (2 * a5)) - 1)) (wrap64 ((wrap64 (2 * a5)) + 1)) (decide (a3 > (wrap64 ((wrap64 (2 * a5)) + 1))))) else (spec_l18Meets.j0 k a0 a1 a2 a3 (wrap64 ((wrap64 (2 * a4)) - 1)) (wrap64 ((wrap64 (2 * a4)) + 1)) (wrap64 ((wrap64 (2 * a5)) - 1)) (wrap64 ((wrap64 (2 * a5)) + 1)) false)))) else (if a1 < (wrap64 ((wrap64 (2 * a5)) - 1)) then (if a3 < (wrap64 ((wrap64 (2 * a5)) - 1)) then (spec_l18Meets.j0 k a0 a1 a2 a3 (wrap64 ((wrap64 (2 * a4)) - 1)) (wrap64 ((wrap64 (2 * a4)) + 1)) (wrap64 ((wrap64 (2 * a5)) - 1)) (wrap64 ((wrap64 (2 * a5)) + 1)) true) else (if a1 > (wrap64 ((wrap64 (2 * a5)) + 1)) then (spec_l18Meets.j0 k a0 a1 a2 a3 (wrap64 ((wrap64 (2 * a4)) - 1)) (wrap64 ((wrap64 (2 * a4)) + 1)) (wrap64 ((wrap64 (2 * a5)) - 1)) (wrap64 ((wrap64 (2 * a5)) + 1)) (decide (a3 > (wrap64 ((wrap64 (2 * a5)) + 1))))) else (spec_l18Meets.j0 k a0 a1 a2 a3 (wrap64 ((wrap64 (2 * a4)) - 1)) (wrap64 ((wrap64 (2 * a4)) + 1)) (wrap64 ((wrap64 (2 * a5)) - 1)) (wrap64 ((wrap64 (2 * a5)) + 1)) false))) else (if a1 > (wrap64 ((wrap64 (2 * a5)) + 1)) then (spec_l18Meets.j0 k a0 a1 a2 a3 (wrap64 ((wrap64 (2 * a4)) - 1)) (wrap64 ((wrap64 (2 * a4)) + 1)) (wrap64 ((wrap64 (2 * a5)) - 1)) (wrap64 ((wrap64 (2 * a5)) + 1)) (decide (a3 > (wrap64 ((wrap64 (2 * a5)) + 1))))) else (spec_l18Meets.j0 k a0 a1 a2 a3 (wrap64 ((wrap64 (2 * a4)) - 1)) (wrap64 ((wrap64 (2 * a4)) + 1)) (wrap64 ((wrap64 (2 * a5)) - 1)) (wrap64 ((wrap64 (2 * a5)) + 1)) false))))) = some r := h
  clear h
  have HC7 := Aside0.mk H
  clear H
  go_enter Try.func55, Try.ntmps55
  go_upto_region 5 with (fail)
  go_cut [75] (fun v75 wc => ∃ (kq : Nat) (x75_6 : Bool), v75 = .bool x75_6 ∧ Aside0 (spec_l18Meets.j0 kq a0 a1 a2 a3 (wrap64 ((wrap64 (2 * a4)) - 1)) (wrap64 ((wrap64 (2 * a4)) + 1)) (wrap64 ((wrap64 (2 * a5)) - 1)) (wrap64 ((wrap64 (2 * a5)) + 1)) x75_6 = some r) ∧ Aside0 (kq ≤ k) ∧ Aside0 (Below w.heap.size w wc))
  case first =>
   have H := HC7.out
   clear HC7
   by_cases c8 : a0 < (wrap64 ((wrap64 (2 * a4)) - 1))
   ·rw [if_pos c8] at H
    have c8b0 : decide (a0 < (wrap64 ((wrap64 (2 * a4)) - 1))) = true := decide_eq_true c8
    clear c8
    (first | rw [c8b0] | (simp only [i64_w, i32_w]; rw [c8b0]) | skip)
    by_cases c9 : a2 < (wrap64 ((wrap64 (2 * a4)) - 1))
    ·rw [if_pos c9] at H
     have c9b0 : decide (a2 < (wrap64 ((wrap64 (2 * a4)) - 1))) = true := decide_eq_true c9
     clear c9
     have H' := Aside0.mk H
     clear H
     go_wp2
     go_meet
     case rel => exact ⟨_, (true), es_, H', ⟨by first | omega | exact Nat.le_refl _⟩, ⟨hb_⟩⟩
    ·rw [if_neg c9] at H
     have c9b0 : decide (a2 < (wrap64 ((wrap64 (2 * a4)) - 1))) = false := decide_eq_false c9
     clear c9
     by_cases c10 : a0 > (wrap64 ((wrap64 (2 * a4)) + 1))
     ·rw [if_pos c10] at H
      have c10b0 : decide ((wrap64 ((wrap64 (2 * a4)) + 1)) < a0) = true := decide_eq_true c10
      clear c10
      by_cases c11 : a2 > (wrap64 ((wrap64 (2 * a4)) + 1))
      ·rw [if_pos c11] at H
       have c11b0 : decide ((wrap64 ((wrap64 (2 * a4)) + 1)) < a2) = true := decide_eq_true c11
       clear c11
       have H' := Aside0.mk H
       clear H
       go_wp2
       go_meet
       case rel => exact ⟨_, (true), es_, H', ⟨by first | omega | exact Nat.le_refl _⟩, ⟨hb_⟩⟩
      ·rw [if_neg c11] at H
       have c11b0 : decide ((wrap64 ((wrap64 (2 * a4)) + 1)) < a2) = false := decide_eq_false c11
       clear c11
       by_cases c12 : a1 < (wrap64 ((wrap64 (2 * a5)) - 1))
       ·rw [if_pos c12] at H
        have c12b0 : decide (a1 < (wrap64 ((wrap64 (2 * a5)) - 1))) = true := decide_eq_true c12
        clear c12
        by_cases c13 : a3 < (wrap64 ((wrap64 (2 * a5)) - 1))
        ·rw [if_pos c13] at H
         have c13b0 : decide (a3 < (wrap64 ((wrap64 (2 * a5)) - 1))) = true := decide_eq_true c13
         clear c13
         have H' := Aside0.mk H
         clear H
         go_wp2
         go_meet
         case rel => exact ⟨_, (true), es_, H', ⟨by first | omega | exact Nat.le_refl _⟩, ⟨hb_⟩⟩
        ·rw [if_neg c13] at H
         have c13b0 : decide (a3 < (wrap64 ((wrap64 (2 * a5)) - 1))) = false := decide_eq_false c13
         clear c13
         by_cases c14 : a1 > (wrap64 ((wrap64 (2 * a5)) + 1))
         ·rw [if_pos c14] at H
          have c14b0 : decide ((wrap64 ((wrap64 (2 * a5)) + 1)) < a1) = true := decide_eq_true c14
          clear c14
          have H' := Aside0.mk H
          clear H
          go_wp2
          go_meet
          case rel => exact ⟨_, (decide (a3 > (wrap64 ((wrap64 (2 * a5)) + 1)))), es_, H', ⟨by first | omega | exact Nat.le_refl _⟩, ⟨hb_⟩⟩
         ·rw [if_neg c14] at H
          have c14b0 : decide ((wrap64 ((wrap64 (2 * a5)) + 1)) < a1) = false := decide_eq_false c14
          clear c14
          have H' := Aside0.mk H
          clear H
          go_wp2
          go_meet
          case rel => exact ⟨_, (false), es_, H', ⟨by first | omega | exact Nat.le_refl _⟩, ⟨hb_⟩⟩
       ·rw [if_neg c12] at H
        have c12b0 : decide (a1 < (wrap64 ((wrap64 (2 * a5)) - 1))) = false := decide_eq_false c12
        clear c12
        by_cases c15 : a1 > (wrap64 ((wrap64 (2 * a5)) + 1))
        ·rw [if_pos c15] at H
         have c15b0 : decide ((wrap64 ((wrap64 (2 * a5)) + 1)) < a1) = true := decide_eq_true c15
         clear c15
         have H' := Aside0.mk H
         clear H
         go_wp2
         go_meet
         case rel => exact ⟨_, (decide (a3 > (wrap64 ((wrap64 (2 * a5)) + 1)))), es_, H', ⟨by first | omega | exact Nat.le_refl _⟩, ⟨hb_⟩⟩
        ·rw [if_neg c15] at H
         have c15b0 : decide ((wrap64 ((wrap64 (2 * a5)) + 1)) < a1) = false := decide_eq_false c15
         clear c15
         have H' := Aside0.mk H
         clear H
         go_wp2
         go_meet
         case rel => exact ⟨_, (false), es_, H', ⟨by first | omega | exact Nat.le_refl _⟩, ⟨hb_⟩⟩
     ·rw [if_neg c10] at H
      have c10b0 : decide ((wrap64 ((wrap64 (2 * a4)) + 1)) < a0) = false := decide_eq_false c10
      clear c10
      by_cases c16 : a1 < (wrap64 ((wrap64 (2 * a5)) - 1))
      ·rw [if_pos c16] at H
       have c16b0 : decide (a1 < (wrap64 ((wrap64 (2 * a5)) - 1))) = true := decide_eq_true c16
       clear c16
       by_cases c17 : a3 < (wrap64 ((wrap64 (2 * a5)) - 1))
       ·rw [if_pos c17] at H
        have c17b0 : decide (a3 < (wrap64 ((wrap64 (2 * a5)) - 1))) = true := decide_eq_true c17
        clear c17
        have H' := Aside0.mk H
        clear H
        go_wp2
        go_meet
        case rel => exact ⟨_, (true), es_, H', ⟨by first | omega | exact Nat.le_refl _⟩, ⟨hb_⟩⟩
       ·rw [if_neg c17] at H
        have c17b0 : decide (a3 < (wrap64 ((wrap64 (2 * a5)) - 1))) = false := decide_eq_false c17
        clear c17
        by_cases c18 : a1 > (wrap64 ((wrap64 (2 * a5)) + 1))
        ·rw [if_pos c18] at H
         have c18b0 : decide ((wrap64 ((wrap64 (2 * a5)) + 1)) < a1) = true := decide_eq_true c18
         clear c18
         have H' := Aside0.mk H
         clear H
         go_wp2
         go_meet
         case rel => exact ⟨_, (decide (a3 > (wrap64 ((wrap64 (2 * a5)) + 1)))), es_, H', ⟨by first | omega | exact Nat.le_refl _⟩, ⟨hb_⟩⟩
        ·rw [if_neg c18] at H
         have c18b0 : decide ((wrap64 ((wrap64 (2 * a5)) + 1)) < a1) = false := decide_eq_false c18
         clear c18
         have H' := Aside0.mk H
         clear H
         go_wp2
         go_meet
         case rel => exact ⟨_, (false), es_, H', ⟨by first | omega | exact Nat.le_refl _⟩, ⟨hb_⟩⟩
      ·rw [if_neg c16] at H
       have c16b0 : decide (a1 < (wrap64 ((wrap64 (2 * a5)) - 1))) = false := decide_eq_false c16
       clear c16
       by_cases c19 : a1 > (wrap64 ((wrap64 (2 * a5)) + 1))
       ·rw [if_pos c19] at H
        have c19b0 : decide ((wrap64 ((wrap64 (2 * a5)) + 1)) < a1) = true := decide_eq_true c19
        clear c19
        have H' := Aside0.mk H
        clear H
        go_wp2
        go_meet
        case rel => exact ⟨_, (decide (a3 > (wrap64 ((wrap64 (2 * a5)) + 1)))), es_, H', ⟨by first | omega | exact Nat.le_refl _⟩, ⟨hb_⟩⟩
       ·rw [if_neg c19] at H
        have c19b0 : decide ((wrap64 ((wrap64 (2 * a5)) + 1)) < a1) = false := decide_eq_false c19
        clear c19
        have H' := Aside0.mk H
        clear H
        go_wp2
        go_meet
        case rel => exact ⟨_, (false), es_, H', ⟨by first | omega | exact Nat.le_refl _⟩, ⟨hb_⟩⟩
   ·rw [if_neg c8] at H
    have c8b0 : decide (a0 < (wrap64 ((wrap64 (2 * a4)) - 1))) = false := decide_eq_false c8
    clear c8
    (first | rw [c8b0] | (simp only [i64_w, i32_w]; rw [c8b0]) | skip)
    by_cases c20 : a0 > (wrap64 ((wrap64 (2 * a4)) + 1))
    ·rw [if_pos c20] at H
     have c20b0 : decide ((wrap64 ((wrap64 (2 * a4)) + 1)) < a0) = true := decide_eq_true c20
     clear c20
     by_cases c21 : a2 > (wrap64 ((wrap64 (2 * a4)) + 1))
     ·rw [if_pos c21] at H
      have c21b0 : decide ((wrap64 ((wrap64 (2 * a4)) + 1)) < a2) = true := decide_eq_true c21
      clear c21
      have H' := Aside0.mk H
      clear H
      go_wp2
      go_meet
      case rel => exact ⟨_, (true), es_, H', ⟨by first | omega | exact Nat.le_refl _⟩, ⟨hb_⟩⟩
     ·rw [if_neg c21] at H
      have c21b0 : decide ((wrap64 ((wrap64 (2 * a4)) + 1)) < a2) = false := decide_eq_false c21
      clear c21
      by_cases c22 : a1 < (wrap64 ((wrap64 (2 * a5)) - 1))
      ·rw [if_pos c22] at H
       have c22b0 : decide (a1 < (wrap64 ((wrap64 (2 * a5)) - 1))) = true := decide_eq_true c22
       clear c22
       by_cases c23 : a3 < (wrap64 ((wrap64 (2 * a5)) - 1))
       ·rw [if_pos c23] at H
        have c23b0 : decide (a3 < (wrap64 ((wrap64 (2 * a5)) - 1))) = true := decide_eq_true c23
        clear c23
        have H' := Aside0.mk H
        clear H
        go_wp2
        go_meet
        case rel => exact ⟨_, (true), es_, H', ⟨by first | omega | exact Nat.le_refl _⟩, ⟨hb_⟩⟩
       ·rw [if_neg c23] at H
        have c23b0 : decide (a3 < (wrap64 ((wrap64 (2 * a5)) - 1))) = false := decide_eq_false c23
        clear c23
        by_cases c24 : a1 > (wrap64 ((wrap64 (2 * a5)) + 1))
        ·rw [if_pos c24] at H
         have c24b0 : decide ((wrap64 ((wrap64 (2 * a5)) + 1)) < a1) = true := decide_eq_true c24
         clear c24
         have H' := Aside0.mk H
         clear H
         go_wp2
         go_meet
         case rel => exact ⟨_, (decide (a3 > (wrap64 ((wrap64 (2 * a5)) + 1)))), es_, H', ⟨by first | omega | exact Nat.le_refl _⟩, ⟨hb_⟩⟩
        ·rw [if_neg c24] at H
         have c24b0 : decide ((wrap64 ((wrap64 (2 * a5)) + 1)) < a1) = false := decide_eq_false c24
         clear c24
         have H' := Aside0.mk H
         clear H
         go_wp2
         go_meet
         case rel => exact ⟨_, (false), es_, H', ⟨by first | omega | exact Nat.le_refl _⟩, ⟨hb_⟩⟩
      ·rw [if_neg c22] at H
       have c22b0 : decide (a1 < (wrap64 ((wrap64 (2 * a5)) - 1))) = false := decide_eq_false c22
       clear c22
       by_cases c25 : a1 > (wrap64 ((wrap64 (2 * a5)) + 1))
       ·rw [if_pos c25] at H
        have c25b0 : decide ((wrap64 ((wrap64 (2 * a5)) + 1)) < a1) = true := decide_eq_true c25
        clear c25
        have H' := Aside0.mk H
        clear H
        go_wp2
        go_meet
        case rel => exact ⟨_, (decide (a3 > (wrap64 ((wrap64 (2 * a5)) + 1)))), es_, H', ⟨by first | omega | exact Nat.le_refl _⟩, ⟨hb_⟩⟩
       ·rw [if_neg c25] at H
        have c25b0 : decide ((wrap64 ((wrap64 (2 * a5)) + 1)) < a1) = false := decide_eq_false c25
        clear c25
        have H' := Aside0.mk H
        clear H
        go_wp2
        go_meet
        case rel => exact ⟨_, (false), es_, H', ⟨by first | omega | exact Nat.le_refl _⟩, ⟨hb_⟩⟩
    ·rw [if_neg c20] at H
     have c20b0 : decide ((wrap64 ((wrap64 (2 * a4)) + 1)) < a0) = false := decide_eq_false c20
     clear c20
     by_cases c26 : a1 < (wrap64 ((wrap64 (2 * a5)) - 1))
     ·rw [if_pos c26] at H
      have c26b0 : decide (a1 < (wrap64 ((wrap64 (2 * a5)) - 1))) = true := decide_eq_true c26
      clear c26
      by_cases c27 : a3 < (wrap64 ((wrap64 (2 * a5)) - 1))
      ·rw [if_pos c27] at H
       have c27b0 : decide (a3 < (wrap64 ((wrap64 (2 * a5)) - 1))) = true := decide_eq_true c27
       clear c27
       have H' := Aside0.mk H
       clear H
       go_wp2
       go_meet
       case rel => exact ⟨_, (true), es_, H', ⟨by first | omega | exact Nat.le_refl _⟩, ⟨hb_⟩⟩
      ·rw [if_neg c27] at H
       have c27b0 : decide (a3 < (wrap64 ((wrap64 (2 * a5)) - 1))) = false := decide_eq_false c27
       clear c27
       by_cases c28 : a1 > (wrap64 ((wrap64 (2 * a5)) + 1))
       ·rw [if_pos c28] at H
        have c28b0 : decide ((wrap64 ((wrap64 (2 * a5)) + 1)) < a1) = true := decide_eq_true c28
        clear c28
        have H' := Aside0.mk H
        clear H
        go_wp2
        go_meet
        case rel => exact ⟨_, (decide (a3 > (wrap64 ((wrap64 (2 * a5)) + 1)))), es_, H', ⟨by first | omega | exact Nat.le_refl _⟩, ⟨hb_⟩⟩
       ·rw [if_neg c28] at H
        have c28b0 : decide ((wrap64 ((wrap64 (2 * a5)) + 1)) < a1) = false := decide_eq_false c28
        clear c28
        have H' := Aside0.mk H
        clear H
        go_wp2
        go_meet
        case rel => exact ⟨_, (false), es_, H', ⟨by first | omega | exact Nat.le_refl _⟩, ⟨hb_⟩⟩
     ·rw [if_neg c26] at H
      have c26b0 : decide (a1 < (wrap64 ((wrap64 (2 * a5)) - 1))) = false := decide_eq_false c26
      clear c26
      by_cases c29 : a1 > (wrap64 ((wrap64 (2 * a5)) + 1))
      ·rw [if_pos c29] at H
       have c29b0 : decide ((wrap64 ((wrap64 (2 * a5)) + 1)) < a1) = true := decide_eq_true c29
       clear c29
       have H' := Aside0.mk H
       clear H
       go_wp2
       go_meet
       case rel => exact ⟨_, (decide (a3 > (wrap64 ((wrap64 (2 * a5)) + 1)))), es_, H', ⟨by first | omega | exact Nat.le_refl _⟩, ⟨hb_⟩⟩
      ·rw [if_neg c29] at H
       have c29b0 : decide ((wrap64 ((wrap64 (2 * a5)) + 1)) < a1) = false := decide_eq_false c29
       clear c29
       have H' := Aside0.mk H
       clear H
       go_wp2
       go_meet
       case rel => exact ⟨_, (false), es_, H', ⟨by first | omega | exact Nat.le_refl _⟩, ⟨hb_⟩⟩
  case rest =>
   clear HC7
   try clear c1
   try clear c2
   try clear p2
   try clear c5
   try clear p6
   try clear c8
   try clear c8b0
   try clear c9
   try clear c9b0
   try clear c10
   try clear c10b0
   try clear c11
   try clear c11b0
   try clear c12
   try clear c12b0
   try clear c13
   try clear c13b0
   try clear c14
   try clear c14b0
   try clear c15
   try clear c15b0
   try clear c16
   try clear c16b0
   try clear c17
   try clear c17b0
   try clear c18
   try clear c18b0
   try clear c19
   try clear c19b0
   try clear c20
   try clear c20b0
   try clear c21
   try clear c21b0
   try clear c22
   try clear c22b0
   try clear c23
   try clear c23b0
   try clear c24
   try clear c24b0
   try clear c25
   try clear c25b0
   try clear c26
   try clear c26b0
   try clear c27
   try clear c27b0
   try clear c28
   try clear c28b0
   try clear c29
   try clear c29b0
   obtain ⟨kq, x75_6, rfl, HA, HJ6, HB⟩ := hcut
   cases kq with
   | zero => exact absurd HA.out (by simp [spec_l18Meets.j0])
   | succ kj6 =>
    have H := HA.out
    clear HA
    simp only [spec_l18Meets.j0] at H
    by_cases c30 : x75_6 = true
    ·subst c30
     rw [if_pos rfl] at H
     obtain rfl := Option.some.inj H
     go_wp2
     go_ret
     exact ⟨er_, hb_⟩
    ·replace c30 := Bool.eq_false_iff.mpr c30
     subst c30
     rw [if_neg (show ¬ (false = true) by decide)] at H
     obtain ⟨y116, hy116⟩ : ∃ y_ : List Int, y_ = (([(wrap64 ((wrap64 (2 * a4)) - 1)), (wrap64 ((wrap64 (2 * a4)) + 1))] : List Int)) := ⟨_, rfl⟩
     replace H : (spec_l18Meets.l0 kj6 a0 a1 (wrap64 ((wrap64 (2 * a5)) - 1)) (wrap64 ((wrap64 (2 * a5)) + 1)) (wrap64 (a2 - a0)) (wrap64 (a3 - a1)) 0 0 y116 (y116.length : Int) 0) = some r := by first | (rw [hy116]; with_reducible exact H) | (have H2_ := (Option.bind_some _ _).symm.trans H; rw [hy116]; with_reducible exact H2_) | (have H2_ := (Option.bind_some _ _).symm.trans H; with_reducible exact H2_) | with_reducible exact H | (rw [hy116]; exact H) | exact H
     have Ny116 := Aside0.mk hy116
     clear hy116
     have H' := Aside0.mk H
     clear H
     go_wp2_with (first | ((with_reducible refine gate_dst (N := 84) rfl ?_); refine Kd.R_lit (Kd.int .i64) _ 3 ?hg (N := 84) ?hd (xs := ([(wrap64 ((wrap64 (2 * a4)) - 1)), (wrap64 ((wrap64 (2 * a4)) + 1))] : List Int)) (inner := [.int .i64 (wrap64 ((wrap64 (2 * a4)) - 1)), .int .i64 (wrap64 ((wrap64 (2 * a4)) + 1))]) (ok := fun _ => True) (okp := fun _ => True) ?hr ?hp (fun _ hk => hk) trivial (Below.refl _ _) (Nat.le_refl _) (by simp) ?_; (case hd => rfl); (case hg => rfl); (case hr => first | (go_simp; done) | (go_simp; rfl)); (case hp => exact (Reps.one (show Kd.M (Kd.int .i64) _ _ _ (wrap64 ((wrap64 (2 * a4)) - 1)) [.int .i64 (wrap64 ((wrap64 (2 * a4)) - 1))] from rfl) (Reps.one (show Kd.M (Kd.int .i64) _ _ _ (wrap64 ((wrap64 (2 * a4)) + 1)) [.int .i64 (wrap64 ((wrap64 (2 * a4)) + 1))] from rfl) (Reps.none _ _)))); intro v117 w31 ho32 hb hg_ hnew_; clear hg_ hnew_; (first | rw [← Ny116.out] at ho32 | (simp only [Int.reduceToNat] at ho32; rw [← Ny116.out] at ho32)); have n0_ := Aside0.mk (Kd.R_lower ho32 (below_size hb_)); have n1_ := Aside0.mk (below_step hb_ hb); clear HB; have HO118 := n0_; have HB := n1_; clear n0_ n1_; clear hb ho32; obtain ⟨Ao33, co33, eo33⟩ := Kd.R_slice HO118.out; subst eo33))
     go_loopg [19, 20, 86] kj6 (fun kq v19 v20 v86 w' => ∃ (x19_2 : Int) (x20_2 : Int) (x86_2 : Int), v19 = .int .i64 x19_2 ∧ v20 = .int .i64 x20_2 ∧ v86 = .int .i64 x86_2 ∧ Aside0 (spec_l18Meets.l0 kq a0 a1 (wrap64 ((wrap64 (2 * a5)) - 1)) (wrap64 ((wrap64 (2 * a5)) + 1)) (wrap64 (a2 - a0)) (wrap64 (a3 - a1)) x19_2 x20_2 y116 (y116.length : Int) x86_2 = some r) ∧ Aside0 (kq ≤ kj6) ∧ Aside0 (Kd.R (Kd.int .i64) 3 w' w.heap.size (fun _ => True) (.slice Ao33 y116.length co33) y116) ∧ Aside0 (Below w.heap.size w w'))
     case atStart => exact ⟨(0), (0), (0), es_, es_, es_, H', ⟨Nat.le_refl _⟩, ⟨ra_ HO118.out⟩, ⟨hb_⟩⟩
     case round =>
      clear H'
      try clear c1
      try clear c2
      try clear p2
      try clear c3
      try clear c5
      try clear p6
      try clear c8
      try clear c8b0
      try clear c9
      try clear c9b0
      try clear c10
      try clear c10b0
      try clear c11
      try clear c11b0
      try clear c12
      try clear c12b0
      try clear c13
      try clear c13b0
      try clear c14
      try clear c14b0
      try clear c15
      try clear c15b0
      try clear c16
      try clear c16b0
      try clear c17
      try clear c17b0
      try clear c18
      try clear c18b0
      try clear c19
      try clear c19b0
      try clear c20
      try clear c20b0
      try clear c21
      try clear c21b0
      try clear c22
      try clear c22b0
      try clear c23
      try clear c23b0
      try clear c24
      try clear c24b0
      try clear c25
      try clear c25b0
      try clear c26
      try clear c26b0
      try clear c27
      try clear c27b0
      try clear c28
      try clear c28b0
      try clear c29
      try clear c29b0
      try clear c30
      try clear p2
      try clear p6
      obtain ⟨x19_2, x20_2, x86_2, rfl, rfl, rfl, HA, HK2, HO_84, HB⟩ := hrel
      cases gk with
      | zero => exact absurd HA.out (by simp [spec_l18Meets.l0])
      | succ k2 =>
       have H := HA.out
       clear HA
       simp only [spec_l18Meets.l0] at H
       by_cases c34 : x86_2 < (y116.length : Int)
       ·rw [if_pos c34] at H
        have c34b0 : decide (x86_2 < (y116.length : Int)) = true := decide_eq_true c34
        clear c34
        by_cases c35 : 0 ≤ x86_2
        ·rw [if_pos c35] at H
         have c35b0 : decide (0 ≤ x86_2) = true := decide_eq_true c35
         clear c35
         by_cases c36 : x86_2 < (y116.length : Int)
         ·rw [if_pos c36] at H
          have c36b0 : decide (x86_2 < (y116.length : Int)) = true := decide_eq_true c36
          clear c36
          obtain ⟨y120, hy120⟩ : ∃ y_ : List Int, y_ = (([(wrap64 ((wrap64 (2 * a5)) - 1)), (wrap64 ((wrap64 (2 * a5)) + 1))] : List Int)) := ⟨_, rfl⟩
          replace H : (spec_l18Meets.l1 k2 a0 a1 (wrap64 ((wrap64 (2 * a5)) - 1)) (wrap64 ((wrap64 (2 * a5)) + 1)) (wrap64 (a2 - a0)) (wrap64 (a3 - a1)) x19_2 x20_2 (rd y116 x86_2) y116 (y116.length : Int) x86_2 y120 (y120.length : Int) 0) = some r := by first | (rw [hy120]; with_reducible exact H) | (have H2_ := (Option.bind_some _ _).symm.trans H; rw [hy120]; with_reducible exact H2_) | (have H2_ := (Option.bind_some _ _).symm.trans H; with_reducible exact H2_) | with_reducible exact H | (rw [hy120]; exact H) | exact H
          have Ny120 := Aside0.mk hy120
          clear hy120
          have H' := Aside0.mk H
          clear H
          have p119 : 0 ≤ (x86_2 : Int) := of_decide_eq_true as_
          have q119 : x86_2 < (y116.length : Int) := of_decide_eq_true as_
          obtain ⟨ad119, e119, hx119_0⟩ := Kd.at_int (Kd.R_reads' HO_84.out).2.2 x86_2 p119 q119
          cases e119
          replace p119 := eq_true p119
          replace q119 := eq_true q119
          go_wp2_with (first | ((with_reducible refine gate_dst (N := 92) rfl ?_); refine Kd.R_lit (Kd.int .i64) _ 3 ?hg (N := 92) ?hd (xs := ([(wrap64 ((wrap64 (2 * a5)) - 1)), (wrap64 ((wrap64 (2 * a5)) + 1))] : List Int)) (inner := [.int .i64 (wrap64 ((wrap64 (2 * a5)) - 1)), .int .i64 (wrap64 ((wrap64 (2 * a5)) + 1))]) (ok := fun _ => True) (okp := fun _ => True) ?hr ?hp (fun _ hk => hk) trivial (Below.refl _ _) (Nat.le_refl _) (by simp) ?_; (case hd => rfl); (case hg => rfl); (case hr => first | (go_simp; done) | (go_simp; rfl)); (case hp => exact (Reps.one (show Kd.M (Kd.int .i64) _ _ _ (wrap64 ((wrap64 (2 * a5)) - 1)) [.int .i64 (wrap64 ((wrap64 (2 * a5)) - 1))] from rfl) (Reps.one (show Kd.M (Kd.int .i64) _ _ _ (wrap64 ((wrap64 (2 * a5)) + 1)) [.int .i64 (wrap64 ((wrap64 (2 * a5)) + 1))] from rfl) (Reps.none _ _)))); intro v121 w37 ho38 hb hg_ hnew_; clear hg_ hnew_; (first | rw [← Ny120.out] at ho38 | (simp only [Int.reduceToNat] at ho38; rw [← Ny120.out] at ho38)); have n0_ := Aside0.mk (Kd.R_elder' (ra_ HO_84.out) (Kd.R_base ho38) hb); have n1_ := Aside0.mk (Kd.R_lower (Kd.R_new' ho38 (Kd.R_lt (ra_ HO_84.out))) (below_size hb_)); have n2_ := Aside0.mk (below_step hb_ hb); clear HO_84; clear HB; have HO_84 := n0_; have HO122 := n1_; have HB := n2_; clear n0_ n1_ n2_; clear hb ho38; obtain ⟨Ao39, co39, eo39⟩ := Kd.R_slice HO122.out; subst eo39))
          go_loopg [19, 20, 94] k2 (fun kq v19 v20 v94 w' => ∃ (x19_3 : Int) (x20_3 : Int) (x94_3 : Int), v19 = .int .i64 x19_3 ∧ v20 = .int .i64 x20_3 ∧ v94 = .int .i64 x94_3 ∧ Aside0 (spec_l18Meets.l1 kq a0 a1 (wrap64 ((wrap64 (2 * a5)) - 1)) (wrap64 ((wrap64 (2 * a5)) + 1)) (wrap64 (a2 - a0)) (wrap64 (a3 - a1)) x19_3 x20_3 (rd y116 x86_2) y116 (y116.length : Int) x86_2 y120 (y120.length : Int) x94_3 = some r) ∧ Aside0 (kq ≤ k2) ∧ Aside0 (Kd.R (Kd.int .i64) 3 w' w.heap.size (fun k_ => some k_ ≠ ((.slice Ao39 y120.length co39) : Value).ownBlock) (.slice (some ad119) y116.length co33) y116) ∧ Aside0 (Kd.R (Kd.int .i64) 3 w' w.heap.size (fun k_ => some k_ ≠ ((.slice (some ad119) y116.length co33) : Value).ownBlock) (.slice Ao39 y120.length co39) y120) ∧ Aside0 (Below w.heap.size w w'))
          case atStart => exact ⟨(x19_2), (x20_2), (0), es_, es_, es_, H', ⟨Nat.le_refl _⟩, ⟨by (with_reducible repeat (first | apply Kd.R_alloc | apply Kd.R_drewN | apply Kd.R_drew)); exact Kd.R_mono HO_84.out (fun _ hk => hk.2)⟩, ⟨by (with_reducible repeat (first | apply Kd.R_alloc | apply Kd.R_drewN | apply Kd.R_drew)); exact Kd.R_mono HO122.out (fun _ hk => hk.2)⟩, ⟨hb_⟩⟩
          case round =>
           clear H'
           try clear c1
           try clear p1
           try clear q1
           try clear hx1
           try clear c2
           try clear p2
           try clear c3
           try clear c5
           try clear p6
           try clear c8
           try clear c8b0
           try clear c9
           try clear c9b0
           try clear c10
           try clear c10b0
           try clear c11
           try clear c11b0
           try clear p11
           try clear q11
           try clear hx11
           try clear c12
           try clear c12b0
           try clear c13
           try clear c13b0
           try clear c14
           try clear c14b0
           try clear c15
           try clear c15b0
           try clear c16
           try clear c16b0
           try clear c17
           try clear c17b0
           try clear c18
           try clear c18b0
           try clear c19
           try clear c19b0
           try clear c20
           try clear c20b0
           try clear c21
           try clear c21b0
           try clear c22
           try clear c22b0
           try clear c23
           try clear c23b0
           try clear c24
           try clear c24b0
           try clear c25
           try clear c25b0
           try clear c26
           try clear c26b0
           try clear c27
           try clear c27b0
           try clear c28
           try clear c28b0
           try clear c29
           try clear c29b0
           try clear c30
           try clear c34
           try clear c34b0
           try clear c35
           try clear c35b0
           try clear c36
           try clear c36b0
           try clear hx119_0
           try clear p119
           try clear p2
           try clear p6
           try clear q119
           obtain ⟨x19_3, x20_3, x94_3, rfl, rfl, rfl, HA, HK3, HO_84, HO_92, HB⟩ := hrel
           cases gk with
           | zero => exact absurd HA.out (by simp [spec_l18Meets.l1])
           | succ k3 =>
            have H := HA.out
            clear HA
            simp only [spec_l18Meets.l1] at H
            by_cases c40 : x94_3 < (y120.length : Int)
            ·rw [if_pos c40] at H
             have c40b0 : decide (x94_3 < (y120.length : Int)) = true := decide_eq_true c40
             clear c40
             by_cases c41 : 0 ≤ x94_3
             ·rw [if_pos c41] at H
              have c41b0 : decide (0 ≤ x94_3) = true := decide_eq_true c41
              clear c41
              by_cases c42 : x94_3 < (y120.length : Int)
              ·rw [if_pos c42] at H
               have c42b0 : decide (x94_3 < (y120.length : Int)) = true := decide_eq_true c42
               clear c42
               by_cases c43 : (wrap64 ((wrap64 ((wrap64 (a2 - a0)) * (wrap64 ((rd y120 x94_3) - a1)))) - (wrap64 ((wrap64 (a3 - a1)) * (wrap64 ((rd y116 x86_2) - a0)))))) > 0
               ·rw [if_pos c43] at H
                have c43b0 : decide (0 < (wrap64 ((wrap64 ((wrap64 (a2 - a0)) * (wrap64 ((rd y120 x94_3) - a1)))) - (wrap64 ((wrap64 (a3 - a1)) * (wrap64 ((rd y116 x86_2) - a0))))))) = true := decide_eq_true c43
                clear c43
                by_cases c44 : (wrap64 ((wrap64 ((wrap64 (a2 - a0)) * (wrap64 ((rd y120 x94_3) - a1)))) - (wrap64 ((wrap64 (a3 - a1)) * (wrap64 ((rd y116 x86_2) - a0)))))) < 0
                ·rw [if_pos c44] at H
                 have c44b0 : decide ((wrap64 ((wrap64 ((wrap64 (a2 - a0)) * (wrap64 ((rd y120 x94_3) - a1)))) - (wrap64 ((wrap64 (a3 - a1)) * (wrap64 ((rd y116 x86_2) - a0)))))) < 0) = true := decide_eq_true c44
                 clear c44
                 have H' := Aside0.mk H
                 clear H
                 have p123 : 0 ≤ (x94_3 : Int) := of_decide_eq_true as_
                 have q123 : x94_3 < (y120.length : Int) := of_decide_eq_true as_
                 obtain ⟨ad123, e123, hx123_0⟩ := Kd.at_int (Kd.R_reads' HO_92.out).2.2 x94_3 p123 q123
                 cases e123
                 replace p123 := eq_true p123
                 replace q123 := eq_true q123
                 go_wp2
                 go_roundg k3
                 case measure => have := HJ6.out; have := HK2.out; have := HK3.out; omega
                 case rel => exact ⟨(wrap64 (x19_3 + 1)), (wrap64 (x20_3 + 1)), (wrap64 (x94_3 + 1)), es_, es_, es_, H', ⟨by have := HJ6.out; have := HK2.out; have := HK3.out; omega⟩, ⟨ra_ HO_84.out⟩, ⟨ra_ HO_92.out⟩, ⟨hb_⟩⟩
                ·rw [if_neg c44] at H
                 have c44b0 : decide ((wrap64 ((wrap64 ((wrap64 (a2 - a0)) * (wrap64 ((rd y120 x94_3) - a1)))) - (wrap64 ((wrap64 (a3 - a1)) * (wrap64 ((rd y116 x86_2) - a0)))))) < 0) = false := decide_eq_false c44
                 clear c44
                 have H' := Aside0.mk H
                 clear H
                 have p123 : 0 ≤ (x94_3 : Int) := of_decide_eq_true as_
                 have q123 : x94_3 < (y120.length : Int) := of_decide_eq_true as_
                 obtain ⟨ad123, e123, hx123_0⟩ := Kd.at_int (Kd.R_reads' HO_92.out).2.2 x94_3 p123 q123
                 cases e123
                 replace p123 := eq_true p123
                 replace q123 := eq_true q123
                 go_wp2
                 go_roundg k3
                 case measure => have := HJ6.out; have := HK2.out; have := HK3.out; omega
                 case rel => exact ⟨(wrap64 (x19_3 + 1)), (x20_3), (wrap64 (x94_3 + 1)), es_, es_, es_, H', ⟨by have := HJ6.out; have := HK2.out; have := HK3.out; omega⟩, ⟨ra_ HO_84.out⟩, ⟨ra_ HO_92.out⟩, ⟨hb_⟩⟩
               ·rw [if_neg c43] at H
                have c43b0 : decide (0 < (wrap64 ((wrap64 ((wrap64 (a2 - a0)) * (wrap64 ((rd y120 x94_3) - a1)))) - (wrap64 ((wrap64 (a3 - a1)) * (wrap64 ((rd y116 x86_2) - a0))))))) = false := decide_eq_false c43
                clear c43
                by_cases c45 : (wrap64 ((wrap64 ((wrap64 (a2 - a0)) * (wrap64 ((rd y120 x94_3) - a1)))) - (wrap64 ((wrap64 (a3 - a1)) * (wrap64 ((rd y116 x86_2) - a0)))))) < 0
                ·rw [if_pos c45] at H
                 have c45b0 : decide ((wrap64 ((wrap64 ((wrap64 (a2 - a0)) * (wrap64 ((rd y120 x94_3) - a1)))) - (wrap64 ((wrap64 (a3 - a1)) * (wrap64 ((rd y116 x86_2) - a0)))))) < 0) = true := decide_eq_true c45
                 clear c45
                 have H' := Aside0.mk H
                 clear H
                 have p123 : 0 ≤ (x94_3 : Int) := of_decide_eq_true as_
                 have q123 : x94_3 < (y120.length : Int) := of_decide_eq_true as_
                 obtain ⟨ad123, e123, hx123_0⟩ := Kd.at_int (Kd.R_reads' HO_92.out).2.2 x94_3 p123 q123
                 cases e123
                 replace p123 := eq_true p123
                 replace q123 := eq_true q123
                 go_wp2
                 go_roundg k3
                 case measure => have := HJ6.out; have := HK2.out; have := HK3.out; omega
                 case rel => exact ⟨(x19_3), (wrap64 (x20_3 + 1)), (wrap64 (x94_3 + 1)), es_, es_, es_, H', ⟨by have := HJ6.out; have := HK2.out; have := HK3.out; omega⟩, ⟨ra_ HO_84.out⟩, ⟨ra_ HO_92.out⟩, ⟨hb_⟩⟩
                ·rw [if_neg c45] at H
                 have c45b0 : decide ((wrap64 ((wrap64 ((wrap64 (a2 - a0)) * (wrap64 ((rd y120 x94_3) - a1)))) - (wrap64 ((wrap64 (a3 - a1)) * (wrap64 ((rd y116 x86_2) - a0)))))) < 0) = false := decide_eq_false c45
                 clear c45
                 have H' := Aside0.mk H
                 clear H
                 have p123 : 0 ≤ (x94_3 : Int) := of_decide_eq_true as_
                 have q123 : x94_3 < (y120.length : Int) := of_decide_eq_true as_
                 obtain ⟨ad123, e123, hx123_0⟩ := Kd.at_int (Kd.R_reads' HO_92.out).2.2 x94_3 p123 q123
                 cases e123
                 replace p123 := eq_true p123
                 replace q123 := eq_true q123
                 go_wp2
                 go_roundg k3
                 case measure => have := HJ6.out; have := HK2.out; have := HK3.out; omega
                 case rel => exact ⟨(x19_3), (x20_3), (wrap64 (x94_3 + 1)), es_, es_, es_, H', ⟨by have := HJ6.out; have := HK2.out; have := HK3.out; omega⟩, ⟨ra_ HO_84.out⟩, ⟨ra_ HO_92.out⟩, ⟨hb_⟩⟩
              ·rw [if_neg c42] at H
               exact absurd H (by simp)
             ·rw [if_neg c41] at H
              exact absurd H (by simp)
            ·rw [if_neg c40] at H
             have c40b0 : decide (x94_3 < (y120.length : Int)) = false := decide_eq_false c40
             clear c40
             have H' := Aside0.mk H
             clear H
             go_wp2
             go_roundg k3
             case measure => have := HJ6.out; have := HK2.out; have := HK3.out; omega
             case rel => exact ⟨(x19_3), (x20_3), (wrap64 (x86_2 + 1)), es_, es_, es_, H', ⟨by have := HJ6.out; have := HK2.out; have := HK3.out; omega⟩, ⟨by (with_reducible repeat (first | apply Kd.R_alloc | apply Kd.R_drewN | apply Kd.R_drew)); exact Kd.R_mono HO_84.out (fun _ hk => trivial)⟩, ⟨hb_⟩⟩
         ·rw [if_neg c36] at H
          exact absurd H (by simp)
        ·rw [if_neg c35] at H
         exact absurd H (by simp)
       ·rw [if_neg c34] at H
        have c34b0 : decide (x86_2 < (y116.length : Int)) = false := decide_eq_false c34
        clear c34
        by_cases c46 : x19_2 < 4
        ·rw [if_pos c46] at H
         have c46b0 : decide (x19_2 < 4) = true := decide_eq_true c46
         clear c46
         obtain rfl := Option.some.inj H
         go_wp2
         go_ret
         exact ⟨er_, hb_⟩
        ·rw [if_neg c46] at H
         have c46b0 : decide (x19_2 < 4) = false := decide_eq_false c46
         clear c46
         obtain rfl := Option.some.inj H
         go_wp2
         go_ret
         exact ⟨er_, hb_⟩

end Go.Proofs.Ytjcmlggdaajicaa.Pr
