-- Joined and pruned by wip/tools/prune.py out of this session's own texts (Pr3, Pr4)
import Derived.Test.YtjcmlggdaajicaaZfy6
namespace Go.Proofs.Ytjcmlggdaajicaa.Pr
open Go.RowKit Go.Proofs.YtjcmlggdaajicaaW.PrintWords Go.Proofs.YtjcmlggdaajicaaW.PrintLast Go.Proofs.YtjcmlggdaajicaaW.PrintMore
attribute [local go_sem] max2_int min2_int max_two min_two max_three min_three max_four min_four
set_option linter.unusedVariables false
set_option linter.unusedSimpArgs false

set_option maxHeartbeats 8000000 in
set_option maxRecDepth 100000 in
theorem spec_l18Meets.calls (k : Nat) (a0 : Int) (a1 : Int) (a2 : Int) (a3 : Int) (a4 : Int) (a5 : Int) (r : Bool) (w : World) (h : spec_l18Meets.f k a0 a1 a2 a3 a4 a5 = some r) :
   Calls Try.prog 55 #[.int .i64 a0,.int .i64 a1,.int .i64 a2,.int .i64 a3,.int .i64 a4,.int .i64 a5] w fun e w' => e = .returned (.bool r) ∧ Below w.heap.size w w':=by
  have HB:=ak (Below.refl w.heap.size w);have H : (if a0 < (wrap64 ((wrap64 (2 * a4)) - 1)) then (if a2 < (wrap64 ((wrap64 (2 * a4)) - 1)) then (spec_l18Meets.j0 k a0 a1 a2 a3 (wrap64 ((wrap64 (2 * a4)) - 1)) (wrap64 ((wrap64 (2 * a4)) + 1)) (wrap64 ((wrap64 (2 * a5)) - 1)) (wrap64 ((wrap64 (2 * a5)) + 1)) true) else (if a0 > (wrap64 ((wrap64 (2 * a4)) + 1)) then (if a2 > (wrap64 ((wrap64 (2 * a4)) + 1)) then (spec_l18Meets.j0 k a0 a1 a2 a3 (wrap64 ((wrap64 (2 * a4)) - 1)) (wrap64 ((wrap64 (2 * a4)) + 1)) (wrap64 ((wrap64 (2 * a5)) - 1)) (wrap64 ((wrap64 (2 * a5)) + 1)) true) else (if a1 < (wrap64 ((wrap64 (2 * a5)) - 1)) then (if a3 < (wrap64 ((wrap64 (2 * a5)) - 1)) then (spec_l18Meets.j0 k a0 a1 a2 a3 (wrap64 ((wrap64 (2 * a4)) - 1)) (wrap64 ((wrap64 (2 * a4)) + 1)) (wrap64 ((wrap64 (2 * a5)) - 1)) (wrap64 ((wrap64 (2 * a5)) + 1)) true) else (if a1 > (wrap64 ((wrap64 (2 * a5)) + 1)) then (spec_l18Meets.j0 k a0 a1 a2 a3 (wrap64 ((wrap64 (2 * a4)) - 1)) (wrap64 ((wrap64 (2 * a4)) + 1)) (wrap64 ((wrap64 (2 * a5)) - 1)) (wrap64 ((wrap64 (2 * a5)) + 1)) (decide (a3 > (wrap64 ((wrap64 (2 * a5)) + 1))))) else (spec_l18Meets.j0 k a0 a1 a2 a3 (wrap64 ((wrap64 (2 * a4)) - 1)) (wrap64 ((wrap64 (2 * a4)) + 1)) (wrap64 ((wrap64 (2 * a5)) - 1)) (wrap64 ((wrap64 (2 * a5)) + 1)) false))) else (if a1 > (wrap64 ((wrap64 (2 * a5)) + 1)) then (spec_l18Meets.j0 k a0 a1 a2 a3 (wrap64 ((wrap64 (2 * a4)) - 1)) (wrap64 ((wrap64 (2 * a4)) + 1)) (wrap64 ((wrap64 (2 * a5)) - 1)) (wrap64 ((wrap64 (2 * a5)) + 1)) (decide (a3 > (wrap64 ((wrap64 (2 * a5)) + 1))))) else (spec_l18Meets.j0 k a0 a1 a2 a3 (wrap64 ((wrap64 (2 * a4)) - 1)) (wrap64 ((wrap64 (2 * a4)) + 1)) (wrap64 ((wrap64 (2 * a5)) - 1)) (wrap64 ((wrap64 (2 * a5)) + 1)) false)))) else (if a1 < (wrap64 ((wrap64 (2 * a5)) - 1)) then (if a3 < (wrap64 ((wrap64 (2 * a5)) - 1)) then (spec_l18Meets.j0 k a0 a1 a2 a3 (wrap64 ((wrap64 (2 * a4)) - 1)) (wrap64 ((wrap64 (2 * a4)) + 1)) (wrap64 ((wrap64 (2 * a5)) - 1)) (wrap64 ((wrap64 (2 * a5)) + 1)) true) else (if a1 > (wrap64 ((wrap64 (2 * a5)) + 1)) then (spec_l18Meets.j0 k a0 a1 a2 a3 (wrap64 ((wrap64 (2 * a4)) - 1)) (wrap64 ((wrap64 (2 * a4)) + 1)) (wrap64 ((wrap64 (2 * a5)) - 1)) (wrap64 ((wrap64 (2 * a5)) + 1)) (decide (a3 > (wrap64 ((wrap64 (2 * a5)) + 1))))) else (spec_l18Meets.j0 k a0 a1 a2 a3 (wrap64 ((wrap64 (2 * a4)) - 1)) (wrap64 ((wrap64 (2 * a4)) + 1)) (wrap64 ((wrap64 (2 * a5)) - 1)) (wrap64 ((wrap64 (2 * a5)) + 1)) false))) else (if a1 > (wrap64 ((wrap64 (2 * a5)) + 1)) then (spec_l18Meets.j0 k a0 a1 a2 a3 (wrap64 ((wrap64 (2 * a4)) - 1)) (wrap64 ((wrap64 (2 * a4)) + 1)) (wrap64 ((wrap64 (2 * a5)) - 1)) (wrap64 ((wrap64 (2 * a5)) + 1)) (decide (a3 > (wrap64 ((wrap64 (2 * a5)) + 1))))) else (spec_l18Meets.j0 k a0 a1 a2 a3 (wrap64 ((wrap64 (2 * a4)) - 1)) (wrap64 ((wrap64 (2 * a4)) + 1)) (wrap64 ((wrap64 (2 * a5)) - 1)) (wrap64 ((wrap64 (2 * a5)) + 1)) false))))) else (if a0 > (wrap64 ((wrap64 (2 * a4)) + 1)) then (if a2 > (wrap64 ((wrap64 (2 * a4)) + 1)) then (spec_l18Meets.j0 k a0 a1 a2 a3 (wrap64 ((wrap64 (2 * a4)) - 1)) (wrap64 ((wrap64 (2 * a4)) + 1)) (wrap64 ((wrap64 (2 * a5)) - 1)) (wrap64 ((wrap64 (2 * a5)) + 1)) true) else (if a1 < (wrap64 ((wrap64 (2 * a5)) - 1)) then (if a3 < (wrap64 ((wrap64 (2 * a5)) - 1)) then (spec_l18Meets.j0 k a0 a1 a2 a3 (wrap64 ((wrap64 (2 * a4)) - 1)) (wrap64 ((wrap64 (2 * a4)) + 1)) (wrap64 ((wrap64 (2 * a5)) - 1)) (wrap64 ((wrap64 (2 * a5)) + 1)) true) else (if a1 > (wrap64 ((wrap64 (2 * a5)) + 1)) then (spec_l18Meets.j0 k a0 a1 a2 a3 (wrap64 ((wrap64 (2 * a4)) - 1)) (wrap64 ((wrap64 (2 * a4)) + 1)) (wrap64 ((wrap64 (2 * a5)) - 1)) (wrap64 ((wrap64 (2 * a5)) + 1)) (decide (a3 > (wrap64 ((wrap64 (2 * a5)) + 1))))) else (spec_l18Meets.j0 k a0 a1 a2 a3 (wrap64 ((wrap64 (2 * a4)) - 1)) (wrap64 ((wrap64 (2 * a4)) + 1)) (wrap64 ((wrap64 (2 * a5)) - 1)) (wrap64 ((wrap64 (2 * a5)) + 1)) false))) else (if a1 > (wrap64 ((wrap64 (2 * a5)) + 1)) then (spec_l18Meets.j0 k a0 a1 a2 a3 (wrap64 ((wrap64 (2 * a4)) - 1)) (wrap64 ((wrap64 (2 * a4)) + 1)) (wrap64 ((wrap64 (2 * a5)) - 1)) (wrap64 ((wrap64 (2 * a5)) + 1)) (decide (a3 > (wrap64 ((wrap64 (2 * a5)) + 1))))) else (spec_l18Meets.j0 k a0 a1 a2 a3 (wrap64 ((wrap64 (2 * a4)) - 1)) (wrap64 ((wrap64 (2 * a4)) + 1)) (wrap64 ((wrap64 (2 * a5)) - 1)) (wrap64 ((wrap64 (2 * a5)) + 1)) false)))) else (if a1 < (wrap64 ((wrap64 (2 * a5)) - 1)) then (if a3 < (wrap64 ((wrap64 (2 * a5)) - 1)) then (spec_l18Meets.j0 k a0 a1 a2 a3 (wrap64 ((wrap64 (2 * a4)) - 1)) (wrap64 ((wrap64 (2 * a4)) + 1)) (wrap64 ((wrap64 (2 * a5)) - 1)) (wrap64 ((wrap64 (2 * a5)) + 1)) true) else (if a1 > (wrap64 ((wrap64 (2 * a5)) + 1)) then (spec_l18Meets.j0 k a0 a1 a2 a3 (wrap64 ((wrap64 (2 * a4)) - 1)) (wrap64 ((wrap64 (2 * a4)) + 1)) (wrap64 ((wrap64 (2 * a5)) - 1)) (wrap64 ((wrap64 (2 * a5)) + 1)) (decide (a3 > (wrap64 ((wrap64 (2 * a5)) + 1))))) else (spec_l18Meets.j0 k a0 a1 a2 a3 (wrap64 ((wrap64 (2 * a4)) - 1)) (wrap64 ((wrap64 (2 * a4)) + 1)) (wrap64 ((wrap64 (2 * a5)) - 1)) (wrap64 ((wrap64 (2 * a5)) + 1)) false))) else (if a1 > (wrap64 ((wrap64 (2 * a5)) + 1)) then (spec_l18Meets.j0 k a0 a1 a2 a3 (wrap64 ((wrap64 (2 * a4)) - 1)) (wrap64 ((wrap64 (2 * a4)) + 1)) (wrap64 ((wrap64 (2 * a5)) - 1)) (wrap64 ((wrap64 (2 * a5)) + 1)) (decide (a3 > (wrap64 ((wrap64 (2 * a5)) + 1))))) else (spec_l18Meets.j0 k a0 a1 a2 a3 (wrap64 ((wrap64 (2 * a4)) - 1)) (wrap64 ((wrap64 (2 * a4)) + 1)) (wrap64 ((wrap64 (2 * a5)) - 1)) (wrap64 ((wrap64 (2 * a5)) + 1)) false))))) = some r:=h
  clear h;have HC7:=ak H;clear H;go_enter Try.func55,Try.ntmps55
  go_upto_region 5 with (fail)
  go_cut [75] (fun v75 wc => ∃ (kq : Nat) (j6 : Bool),v75 = .bool j6 ∧ Aside0 (spec_l18Meets.j0 kq a0 a1 a2 a3 (wrap64 ((wrap64 (2 * a4)) - 1)) (wrap64 ((wrap64 (2 * a4)) + 1)) (wrap64 ((wrap64 (2 * a5)) - 1)) (wrap64 ((wrap64 (2 * a5)) + 1)) j6 = some r) ∧ Aside0 (kq ≤ k) ∧ Aside0 (Below w.heap.size w wc))
  case first =>
   have H:=HC7.out;clear HC7;by_cases c8 : a0 < (wrap64 ((wrap64 (2 * a4)) - 1))
   ·rw [if_pos c8] at H
    have j7 : decide (a0 < (wrap64 ((wrap64 (2 * a4)) - 1))) = true:=dt_ c8;clear c8;(first | rw [j7] | (simp only [i64_w,i32_w];rw [j7]) | skip);by_cases c9 : a2 < (wrap64 ((wrap64 (2 * a4)) - 1))
    ·rw [if_pos c9] at H
     have zb6 : decide (a2 < (wrap64 ((wrap64 (2 * a4)) - 1))) = true:=dt_ c9;clear c9;have H':=ak H;clear H;go_wp2;go_meet
     case rel => exact ⟨_,(true),es_,H',⟨by first | omega | exact Nat.le_refl _⟩,⟨hb_⟩⟩
    ·rw [if_neg c9] at H
     have zb6 : decide (a2 < (wrap64 ((wrap64 (2 * a4)) - 1))) = false:=df_ c9;clear c9;by_cases c10 : a0 > (wrap64 ((wrap64 (2 * a4)) + 1))
     ·rw [if_pos c10] at H
      have m0 : decide ((wrap64 ((wrap64 (2 * a4)) + 1)) < a0) = true:=dt_ c10;clear c10;by_cases c11 : a2 > (wrap64 ((wrap64 (2 * a4)) + 1))
      ·rw [if_pos c11] at H
       have m1 : decide ((wrap64 ((wrap64 (2 * a4)) + 1)) < a2) = true:=dt_ c11;clear c11;have H':=ak H;clear H;go_wp2;go_meet
       case rel => exact ⟨_,(true),es_,H',⟨by first | omega | exact Nat.le_refl _⟩,⟨hb_⟩⟩
      ·rw [if_neg c11] at H
       have m1 : decide ((wrap64 ((wrap64 (2 * a4)) + 1)) < a2) = false:=df_ c11;clear c11;by_cases c12 : a1 < (wrap64 ((wrap64 (2 * a5)) - 1))
       ·rw [if_pos c12] at H
        have m2 : decide (a1 < (wrap64 ((wrap64 (2 * a5)) - 1))) = true:=dt_ c12;clear c12;by_cases c13 : a3 < (wrap64 ((wrap64 (2 * a5)) - 1))
        ·rw [if_pos c13] at H
         have m3 : decide (a3 < (wrap64 ((wrap64 (2 * a5)) - 1))) = true:=dt_ c13;clear c13;have H':=ak H;clear H;go_wp2;go_meet
         case rel => exact ⟨_,(true),es_,H',⟨by first | omega | exact Nat.le_refl _⟩,⟨hb_⟩⟩
        ·rw [if_neg c13] at H
         have m3 : decide (a3 < (wrap64 ((wrap64 (2 * a5)) - 1))) = false:=df_ c13;clear c13;by_cases c14 : a1 > (wrap64 ((wrap64 (2 * a5)) + 1))
         ·rw [if_pos c14] at H
          have m4 : decide ((wrap64 ((wrap64 (2 * a5)) + 1)) < a1) = true:=dt_ c14;clear c14;have H':=ak H;clear H;go_wp2;go_meet
          case rel => exact ⟨_,(decide (a3 > (wrap64 ((wrap64 (2 * a5)) + 1)))),es_,H',⟨by first | omega | exact Nat.le_refl _⟩,⟨hb_⟩⟩
         ·rw [if_neg c14] at H
          have m4 : decide ((wrap64 ((wrap64 (2 * a5)) + 1)) < a1) = false:=df_ c14;clear c14;have H':=ak H;clear H;go_wp2;go_meet
          case rel => exact ⟨_,(false),es_,H',⟨by first | omega | exact Nat.le_refl _⟩,⟨hb_⟩⟩
       ·rw [if_neg c12] at H
        have m2 : decide (a1 < (wrap64 ((wrap64 (2 * a5)) - 1))) = false:=df_ c12;clear c12;by_cases c15 : a1 > (wrap64 ((wrap64 (2 * a5)) + 1))
        ·rw [if_pos c15] at H
         have m5 : decide ((wrap64 ((wrap64 (2 * a5)) + 1)) < a1) = true:=dt_ c15;clear c15;have H':=ak H;clear H;go_wp2;go_meet
         case rel => exact ⟨_,(decide (a3 > (wrap64 ((wrap64 (2 * a5)) + 1)))),es_,H',⟨by first | omega | exact Nat.le_refl _⟩,⟨hb_⟩⟩
        ·rw [if_neg c15] at H
         have m5 : decide ((wrap64 ((wrap64 (2 * a5)) + 1)) < a1) = false:=df_ c15;clear c15;have H':=ak H;clear H;go_wp2;go_meet
         case rel => exact ⟨_,(false),es_,H',⟨by first | omega | exact Nat.le_refl _⟩,⟨hb_⟩⟩
     ·rw [if_neg c10] at H
      have m0 : decide ((wrap64 ((wrap64 (2 * a4)) + 1)) < a0) = false:=df_ c10;clear c10;by_cases c16 : a1 < (wrap64 ((wrap64 (2 * a5)) - 1))
      ·rw [if_pos c16] at H
       have m6 : decide (a1 < (wrap64 ((wrap64 (2 * a5)) - 1))) = true:=dt_ c16;clear c16;by_cases c17 : a3 < (wrap64 ((wrap64 (2 * a5)) - 1))
       ·rw [if_pos c17] at H
        have m7 : decide (a3 < (wrap64 ((wrap64 (2 * a5)) - 1))) = true:=dt_ c17;clear c17;have H':=ak H;clear H;go_wp2;go_meet
        case rel => exact ⟨_,(true),es_,H',⟨by first | omega | exact Nat.le_refl _⟩,⟨hb_⟩⟩
       ·rw [if_neg c17] at H
        have m7 : decide (a3 < (wrap64 ((wrap64 (2 * a5)) - 1))) = false:=df_ c17;clear c17;by_cases c18 : a1 > (wrap64 ((wrap64 (2 * a5)) + 1))
        ·rw [if_pos c18] at H
         have m8 : decide ((wrap64 ((wrap64 (2 * a5)) + 1)) < a1) = true:=dt_ c18;clear c18;have H':=ak H;clear H;go_wp2;go_meet
         case rel => exact ⟨_,(decide (a3 > (wrap64 ((wrap64 (2 * a5)) + 1)))),es_,H',⟨by first | omega | exact Nat.le_refl _⟩,⟨hb_⟩⟩
        ·rw [if_neg c18] at H
         have m8 : decide ((wrap64 ((wrap64 (2 * a5)) + 1)) < a1) = false:=df_ c18;clear c18;have H':=ak H;clear H;go_wp2;go_meet
         case rel => exact ⟨_,(false),es_,H',⟨by first | omega | exact Nat.le_refl _⟩,⟨hb_⟩⟩
      ·rw [if_neg c16] at H
       have m6 : decide (a1 < (wrap64 ((wrap64 (2 * a5)) - 1))) = false:=df_ c16;clear c16;by_cases c19 : a1 > (wrap64 ((wrap64 (2 * a5)) + 1))
       ·rw [if_pos c19] at H
        have m9 : decide ((wrap64 ((wrap64 (2 * a5)) + 1)) < a1) = true:=dt_ c19;clear c19;have H':=ak H;clear H;go_wp2;go_meet
        case rel => exact ⟨_,(decide (a3 > (wrap64 ((wrap64 (2 * a5)) + 1)))),es_,H',⟨by first | omega | exact Nat.le_refl _⟩,⟨hb_⟩⟩
       ·rw [if_neg c19] at H
        have m9 : decide ((wrap64 ((wrap64 (2 * a5)) + 1)) < a1) = false:=df_ c19;clear c19;have H':=ak H;clear H;go_wp2;go_meet
        case rel => exact ⟨_,(false),es_,H',⟨by first | omega | exact Nat.le_refl _⟩,⟨hb_⟩⟩
   ·rw [if_neg c8] at H
    have j7 : decide (a0 < (wrap64 ((wrap64 (2 * a4)) - 1))) = false:=df_ c8;clear c8;(first | rw [j7] | (simp only [i64_w,i32_w];rw [j7]) | skip);by_cases c20 : a0 > (wrap64 ((wrap64 (2 * a4)) + 1))
    ·rw [if_pos c20] at H
     have za0 : decide ((wrap64 ((wrap64 (2 * a4)) + 1)) < a0) = true:=dt_ c20;clear c20;by_cases c21 : a2 > (wrap64 ((wrap64 (2 * a4)) + 1))
     ·rw [if_pos c21] at H
      have za1 : decide ((wrap64 ((wrap64 (2 * a4)) + 1)) < a2) = true:=dt_ c21;clear c21;have H':=ak H;clear H;go_wp2;go_meet
      case rel => exact ⟨_,(true),es_,H',⟨by first | omega | exact Nat.le_refl _⟩,⟨hb_⟩⟩
     ·rw [if_neg c21] at H
      have za1 : decide ((wrap64 ((wrap64 (2 * a4)) + 1)) < a2) = false:=df_ c21;clear c21;by_cases c22 : a1 < (wrap64 ((wrap64 (2 * a5)) - 1))
      ·rw [if_pos c22] at H
       have za2 : decide (a1 < (wrap64 ((wrap64 (2 * a5)) - 1))) = true:=dt_ c22;clear c22;by_cases c23 : a3 < (wrap64 ((wrap64 (2 * a5)) - 1))
       ·rw [if_pos c23] at H
        have za3 : decide (a3 < (wrap64 ((wrap64 (2 * a5)) - 1))) = true:=dt_ c23;clear c23;have H':=ak H;clear H;go_wp2;go_meet
        case rel => exact ⟨_,(true),es_,H',⟨by first | omega | exact Nat.le_refl _⟩,⟨hb_⟩⟩
       ·rw [if_neg c23] at H
        have za3 : decide (a3 < (wrap64 ((wrap64 (2 * a5)) - 1))) = false:=df_ c23;clear c23;by_cases c24 : a1 > (wrap64 ((wrap64 (2 * a5)) + 1))
        ·rw [if_pos c24] at H
         have za4 : decide ((wrap64 ((wrap64 (2 * a5)) + 1)) < a1) = true:=dt_ c24;clear c24;have H':=ak H;clear H;go_wp2;go_meet
         case rel => exact ⟨_,(decide (a3 > (wrap64 ((wrap64 (2 * a5)) + 1)))),es_,H',⟨by first | omega | exact Nat.le_refl _⟩,⟨hb_⟩⟩
        ·rw [if_neg c24] at H
         have za4 : decide ((wrap64 ((wrap64 (2 * a5)) + 1)) < a1) = false:=df_ c24;clear c24;have H':=ak H;clear H;go_wp2;go_meet
         case rel => exact ⟨_,(false),es_,H',⟨by first | omega | exact Nat.le_refl _⟩,⟨hb_⟩⟩
      ·rw [if_neg c22] at H
       have za2 : decide (a1 < (wrap64 ((wrap64 (2 * a5)) - 1))) = false:=df_ c22;clear c22;by_cases c25 : a1 > (wrap64 ((wrap64 (2 * a5)) + 1))
       ·rw [if_pos c25] at H
        have za5 : decide ((wrap64 ((wrap64 (2 * a5)) + 1)) < a1) = true:=dt_ c25;clear c25;have H':=ak H;clear H;go_wp2;go_meet
        case rel => exact ⟨_,(decide (a3 > (wrap64 ((wrap64 (2 * a5)) + 1)))),es_,H',⟨by first | omega | exact Nat.le_refl _⟩,⟨hb_⟩⟩
       ·rw [if_neg c25] at H
        have za5 : decide ((wrap64 ((wrap64 (2 * a5)) + 1)) < a1) = false:=df_ c25;clear c25;have H':=ak H;clear H;go_wp2;go_meet
        case rel => exact ⟨_,(false),es_,H',⟨by first | omega | exact Nat.le_refl _⟩,⟨hb_⟩⟩
    ·rw [if_neg c20] at H
     have za0 : decide ((wrap64 ((wrap64 (2 * a4)) + 1)) < a0) = false:=df_ c20;clear c20;by_cases c26 : a1 < (wrap64 ((wrap64 (2 * a5)) - 1))
     ·rw [if_pos c26] at H
      have za6 : decide (a1 < (wrap64 ((wrap64 (2 * a5)) - 1))) = true:=dt_ c26;clear c26;by_cases c27 : a3 < (wrap64 ((wrap64 (2 * a5)) - 1))
      ·rw [if_pos c27] at H
       have za7 : decide (a3 < (wrap64 ((wrap64 (2 * a5)) - 1))) = true:=dt_ c27;clear c27;have H':=ak H;clear H;go_wp2;go_meet
       case rel => exact ⟨_,(true),es_,H',⟨by first | omega | exact Nat.le_refl _⟩,⟨hb_⟩⟩
      ·rw [if_neg c27] at H
       have za7 : decide (a3 < (wrap64 ((wrap64 (2 * a5)) - 1))) = false:=df_ c27;clear c27;by_cases c28 : a1 > (wrap64 ((wrap64 (2 * a5)) + 1))
       ·rw [if_pos c28] at H
        have za8 : decide ((wrap64 ((wrap64 (2 * a5)) + 1)) < a1) = true:=dt_ c28;clear c28;have H':=ak H;clear H;go_wp2;go_meet
        case rel => exact ⟨_,(decide (a3 > (wrap64 ((wrap64 (2 * a5)) + 1)))),es_,H',⟨by first | omega | exact Nat.le_refl _⟩,⟨hb_⟩⟩
       ·rw [if_neg c28] at H
        have za8 : decide ((wrap64 ((wrap64 (2 * a5)) + 1)) < a1) = false:=df_ c28;clear c28;have H':=ak H;clear H;go_wp2;go_meet
        case rel => exact ⟨_,(false),es_,H',⟨by first | omega | exact Nat.le_refl _⟩,⟨hb_⟩⟩
     ·rw [if_neg c26] at H
      have za6 : decide (a1 < (wrap64 ((wrap64 (2 * a5)) - 1))) = false:=df_ c26;clear c26;by_cases c29 : a1 > (wrap64 ((wrap64 (2 * a5)) + 1))
      ·rw [if_pos c29] at H
       have za9 : decide ((wrap64 ((wrap64 (2 * a5)) + 1)) < a1) = true:=dt_ c29;clear c29;have H':=ak H;clear H;go_wp2;go_meet
       case rel => exact ⟨_,(decide (a3 > (wrap64 ((wrap64 (2 * a5)) + 1)))),es_,H',⟨by first | omega | exact Nat.le_refl _⟩,⟨hb_⟩⟩
      ·rw [if_neg c29] at H
       have za9 : decide ((wrap64 ((wrap64 (2 * a5)) + 1)) < a1) = false:=df_ c29;clear c29;have H':=ak H;clear H;go_wp2;go_meet
       case rel => exact ⟨_,(false),es_,H',⟨by first | omega | exact Nat.le_refl _⟩,⟨hb_⟩⟩
  case rest =>
   clear HC7;obtain ⟨kq,j6,rfl,HA,HJ6,HB⟩:=hcut
   cases kq with
   | zero => exact absurd HA.out (by simp [spec_l18Meets.j0])
   | succ kj6 =>
    have H:=HA.out;clear HA;simp only [spec_l18Meets.j0] at H;by_cases c30 : j6 = true
    ·subst c30
     rw [if_pos rfl] at H
     obtain rfl:=Option.some.inj H
     go_wp2;go_ret;exact ⟨er_,hb_⟩
    ·replace c30:=Bool.eq_false_iff.mpr c30
     subst c30;rw [if_neg (show ¬ (false = true) by decide)] at H;obtain ⟨z2,j1⟩ : ∃ y_ : List Int,y_ = (([(wrap64 ((wrap64 (2 * a4)) - 1)),(wrap64 ((wrap64 (2 * a4)) + 1))] : List Int)):=⟨_,rfl⟩;(replace H : (spec_l18Meets.l0 kj6 a0 a1 (wrap64 ((wrap64 (2 * a5)) - 1)) (wrap64 ((wrap64 (2 * a5)) + 1)) (wrap64 (a2 - a0)) (wrap64 (a3 - a1)) 0 0 z2 (z2.length : Int) 0) = some r:=by first|(rw [j1];with_reducible first|exact H|exact bs_ H)|with_reducible exact bs_ H|with_reducible exact H|(rw [j1];exact H)|exact H);have r3:=ak j1;clear j1;have H':=ak H;clear H;go_wp2_with (first | ((with_reducible refine gate_dst (N:=84) rfl ?_);refine Kd.R_lit (Kd.int .i64) _ 3 ?hg (N:=84) ?hd (xs:=([(wrap64 ((wrap64 (2 * a4)) - 1)),(wrap64 ((wrap64 (2 * a4)) + 1))] : List Int)) (inner:=[.int .i64 (wrap64 ((wrap64 (2 * a4)) - 1)),.int .i64 (wrap64 ((wrap64 (2 * a4)) + 1))]) (ok:=fun _ => True) (okp:=fun _ => True) ?hr ?hp (fun _ hk => hk) trivial (Below.refl _ _) (Nat.le_refl _) (by simp) ?_;(case hd => rfl);(case hg => rfl);(case hr => first | (go_simp;done) | (go_simp;rfl));(case hp => exact (Reps.one (show Kd.M (Kd.int .i64) _ _ _ (wrap64 ((wrap64 (2 * a4)) - 1)) [.int .i64 (wrap64 ((wrap64 (2 * a4)) - 1))] from rfl) (Reps.one (show Kd.M (Kd.int .i64) _ _ _ (wrap64 ((wrap64 (2 * a4)) + 1)) [.int .i64 (wrap64 ((wrap64 (2 * a4)) + 1))] from rfl) (Reps.none _ _))));intro zc5 w31 j8 hb hg_ hnew_;clear hg_ hnew_;(first | rw [← r3.out] at j8 | (simp only [Int.reduceToNat] at j8;rw [← r3.out] at j8));have r4:=ak (Kd.R_lower j8 (below_size hb_));replace HB:=bq_ hb;clear hb j8;obtain ⟨zb7,r0,zb8⟩:=Kd.R_slice r4.out;subst zb8))
     go_loopg [19,20,86] kj6 (fun kq v19 v20 v86 w' => ∃ (z7 : Int) (j2 : Int) (z1 : Int),v19 = .int .i64 z7 ∧ v20 = .int .i64 j2 ∧ v86 = .int .i64 z1 ∧ Aside0 (spec_l18Meets.l0 kq a0 a1 (wrap64 ((wrap64 (2 * a5)) - 1)) (wrap64 ((wrap64 (2 * a5)) + 1)) (wrap64 (a2 - a0)) (wrap64 (a3 - a1)) z7 j2 z2 (z2.length : Int) z1 = some r) ∧ Aside0 (kq ≤ kj6) ∧ Aside0 (Kd.R (Kd.int .i64) 3 w' w.heap.size (fun _ => True) (.slice zb7 z2.length r0) z2) ∧ Aside0 (Below w.heap.size w w'))
     case atStart => exact ⟨(0),(0),(0),es_,es_,es_,H',⟨Nat.le_refl _⟩,⟨ra_ r4.out⟩,⟨hb_⟩⟩
     case round =>
      clear H';obtain ⟨z7,j2,z1,rfl,rfl,rfl,HA,HK2,z6,HB⟩:=hrel
      cases gk with
      | zero => exact absurd HA.out (by simp [spec_l18Meets.l0])
      | succ k2 =>
       have H:=HA.out;clear HA;simp only [spec_l18Meets.l0] at H;by_cases c34 : z1 < (z2.length : Int)
       ·rw [if_pos c34] at H
        have zb0 : decide (z1 < (z2.length : Int)) = true:=dt_ c34;clear c34;by_cases c35 : 0 ≤ z1
        ·rw [if_pos c35] at H
         have zc1 : decide (0 ≤ z1) = true:=dt_ c35;clear c35;by_cases c36 : z1 < (z2.length : Int)
         ·rw [if_pos c36] at H
          have zc2 : decide (z1 < (z2.length : Int)) = true:=dt_ c36;clear c36;obtain ⟨z3,j3⟩ : ∃ y_ : List Int,y_ = (([(wrap64 ((wrap64 (2 * a5)) - 1)),(wrap64 ((wrap64 (2 * a5)) + 1))] : List Int)):=⟨_,rfl⟩;(replace H : (spec_l18Meets.l1 k2 a0 a1 (wrap64 ((wrap64 (2 * a5)) - 1)) (wrap64 ((wrap64 (2 * a5)) + 1)) (wrap64 (a2 - a0)) (wrap64 (a3 - a1)) z7 j2 (rd z2 z1) z2 (z2.length : Int) z1 z3 (z3.length : Int) 0) = some r:=by first|(rw [j3];with_reducible first|exact H|exact bs_ H)|with_reducible exact bs_ H|with_reducible exact H|(rw [j3];exact H)|exact H);have r5:=ak j3;clear j3;have H':=ak H;clear H;have r1 : 0 ≤ (z1 : Int):=od_;have r2 : z1 < (z2.length : Int):=od_;obtain ⟨r6,e119,zc0⟩:=Kd.at_int (Kd.R_reads' z6.out).2.2 z1 r1 r2;cases e119;replace r1:=eq_true r1;replace r2:=eq_true r2;go_wp2_with (first | ((with_reducible refine gate_dst (N:=92) rfl ?_);refine Kd.R_lit (Kd.int .i64) _ 3 ?hg (N:=92) ?hd (xs:=([(wrap64 ((wrap64 (2 * a5)) - 1)),(wrap64 ((wrap64 (2 * a5)) + 1))] : List Int)) (inner:=[.int .i64 (wrap64 ((wrap64 (2 * a5)) - 1)),.int .i64 (wrap64 ((wrap64 (2 * a5)) + 1))]) (ok:=fun _ => True) (okp:=fun _ => True) ?hr ?hp (fun _ hk => hk) trivial (Below.refl _ _) (Nat.le_refl _) (by simp) ?_;(case hd => rfl);(case hg => rfl);(case hr => first | (go_simp;done) | (go_simp;rfl));(case hp => exact (Reps.one (show Kd.M (Kd.int .i64) _ _ _ (wrap64 ((wrap64 (2 * a5)) - 1)) [.int .i64 (wrap64 ((wrap64 (2 * a5)) - 1))] from rfl) (Reps.one (show Kd.M (Kd.int .i64) _ _ _ (wrap64 ((wrap64 (2 * a5)) + 1)) [.int .i64 (wrap64 ((wrap64 (2 * a5)) + 1))] from rfl) (Reps.none _ _))));intro zc6 w37 j4 hb hg_ hnew_;clear hg_ hnew_;(first | rw [← r5.out] at j4 | (simp only [Int.reduceToNat] at j4;rw [← r5.out] at j4));have r7:=ak (Kd.R_lower (Kd.R_new' j4 (Kd.R_lt (ra_ z6.out))) (below_size hb_));replace z6:=ak (Kd.R_elder' (ra_ z6.out) (Kd.R_base j4) hb);replace HB:=bq_ hb;clear hb j4;obtain ⟨r8,r9,zb9⟩:=Kd.R_slice r7.out;subst zb9))
          go_loopg [19,20,94] k2 (fun kq v19 v20 v94 w' => ∃ (z8 : Int) (z9 : Int) (z0 : Int),v19 = .int .i64 z8 ∧ v20 = .int .i64 z9 ∧ v94 = .int .i64 z0 ∧ Aside0 (spec_l18Meets.l1 kq a0 a1 (wrap64 ((wrap64 (2 * a5)) - 1)) (wrap64 ((wrap64 (2 * a5)) + 1)) (wrap64 (a2 - a0)) (wrap64 (a3 - a1)) z8 z9 (rd z2 z1) z2 (z2.length : Int) z1 z3 (z3.length : Int) z0 = some r) ∧ Aside0 (kq ≤ k2) ∧ Aside0 (Kd.R (Kd.int .i64) 3 w' w.heap.size (fun k_ => some k_ ≠ ((.slice r8 z3.length r9) : Value).ownBlock) (.slice (some r6) z2.length r0) z2) ∧ Aside0 (Kd.R (Kd.int .i64) 3 w' w.heap.size (fun k_ => some k_ ≠ ((.slice (some r6) z2.length r0) : Value).ownBlock) (.slice r8 z3.length r9) z3) ∧ Aside0 (Below w.heap.size w w'))
          case atStart => exact ⟨(z7),(j2),(0),es_,es_,es_,H',⟨Nat.le_refl _⟩,⟨by (with_reducible repeat (first | apply Kd.R_alloc | apply Kd.R_drewN | apply Kd.R_drew));exact Kd.R_mono z6.out (fun _ hk => hk.2)⟩,⟨by (with_reducible repeat (first | apply Kd.R_alloc | apply Kd.R_drewN | apply Kd.R_drew));exact Kd.R_mono r7.out (fun _ hk => hk.2)⟩,⟨hb_⟩⟩
          case round =>
           clear H';obtain ⟨z8,z9,z0,rfl,rfl,rfl,HA,HK3,z6,j0,HB⟩:=hrel
           cases gk with
           | zero => exact absurd HA.out (by simp [spec_l18Meets.l1])
           | succ k3 =>
            have H:=HA.out;clear HA;simp only [spec_l18Meets.l1] at H;by_cases c40 : z0 < (z3.length : Int)
            ·rw [if_pos c40] at H
             have zb1 : decide (z0 < (z3.length : Int)) = true:=dt_ c40;clear c40;by_cases c41 : 0 ≤ z0
             ·rw [if_pos c41] at H
              have zc3 : decide (0 ≤ z0) = true:=dt_ c41;clear c41;by_cases c42 : z0 < (z3.length : Int)
              ·rw [if_pos c42] at H
               have zc4 : decide (z0 < (z3.length : Int)) = true:=dt_ c42;clear c42;by_cases c43 : (wrap64 ((wrap64 ((wrap64 (a2 - a0)) * (wrap64 ((rd z3 z0) - a1)))) - (wrap64 ((wrap64 (a3 - a1)) * (wrap64 ((rd z2 z1) - a0)))))) > 0
               ·rw [if_pos c43] at H
                have zb2 : decide (0 < (wrap64 ((wrap64 ((wrap64 (a2 - a0)) * (wrap64 ((rd z3 z0) - a1)))) - (wrap64 ((wrap64 (a3 - a1)) * (wrap64 ((rd z2 z1) - a0))))))) = true:=dt_ c43;clear c43;by_cases c44 : (wrap64 ((wrap64 ((wrap64 (a2 - a0)) * (wrap64 ((rd z3 z0) - a1)))) - (wrap64 ((wrap64 (a3 - a1)) * (wrap64 ((rd z2 z1) - a0)))))) < 0
                ·rw [if_pos c44] at H
                 have zb3 : decide ((wrap64 ((wrap64 ((wrap64 (a2 - a0)) * (wrap64 ((rd z3 z0) - a1)))) - (wrap64 ((wrap64 (a3 - a1)) * (wrap64 ((rd z2 z1) - a0)))))) < 0) = true:=dt_ c44;clear c44;have H':=ak H;clear H;have z4 : 0 ≤ (z0 : Int):=od_;have z5 : z0 < (z3.length : Int):=od_;obtain ⟨j9,e123,j5⟩:=Kd.at_int (Kd.R_reads' j0.out).2.2 z0 z4 z5;cases e123;replace z4:=eq_true z4;replace z5:=eq_true z5;go_wp2;go_roundg k3
                 case measure => have:=HJ6.out;have:=HK2.out;have:=HK3.out;omega
                 case rel => exact ⟨(wrap64 (z8 + 1)),(wrap64 (z9 + 1)),(wrap64 (z0 + 1)),es_,es_,es_,H',⟨by have:=HJ6.out;have:=HK2.out;have:=HK3.out;omega⟩,⟨ra_ z6.out⟩,⟨ra_ j0.out⟩,⟨hb_⟩⟩
                ·rw [if_neg c44] at H
                 have zb3 : decide ((wrap64 ((wrap64 ((wrap64 (a2 - a0)) * (wrap64 ((rd z3 z0) - a1)))) - (wrap64 ((wrap64 (a3 - a1)) * (wrap64 ((rd z2 z1) - a0)))))) < 0) = false:=df_ c44;clear c44;have H':=ak H;clear H;have z4 : 0 ≤ (z0 : Int):=od_;have z5 : z0 < (z3.length : Int):=od_;obtain ⟨j9,e123,j5⟩:=Kd.at_int (Kd.R_reads' j0.out).2.2 z0 z4 z5;cases e123;replace z4:=eq_true z4;replace z5:=eq_true z5;go_wp2;go_roundg k3
                 case measure => have:=HJ6.out;have:=HK2.out;have:=HK3.out;omega
                 case rel => exact ⟨(wrap64 (z8 + 1)),(z9),(wrap64 (z0 + 1)),es_,es_,es_,H',⟨by have:=HJ6.out;have:=HK2.out;have:=HK3.out;omega⟩,⟨ra_ z6.out⟩,⟨ra_ j0.out⟩,⟨hb_⟩⟩
               ·rw [if_neg c43] at H
                have zb2 : decide (0 < (wrap64 ((wrap64 ((wrap64 (a2 - a0)) * (wrap64 ((rd z3 z0) - a1)))) - (wrap64 ((wrap64 (a3 - a1)) * (wrap64 ((rd z2 z1) - a0))))))) = false:=df_ c43;clear c43;by_cases c45 : (wrap64 ((wrap64 ((wrap64 (a2 - a0)) * (wrap64 ((rd z3 z0) - a1)))) - (wrap64 ((wrap64 (a3 - a1)) * (wrap64 ((rd z2 z1) - a0)))))) < 0
                ·rw [if_pos c45] at H
                 have zb4 : decide ((wrap64 ((wrap64 ((wrap64 (a2 - a0)) * (wrap64 ((rd z3 z0) - a1)))) - (wrap64 ((wrap64 (a3 - a1)) * (wrap64 ((rd z2 z1) - a0)))))) < 0) = true:=dt_ c45;clear c45;have H':=ak H;clear H;have z4 : 0 ≤ (z0 : Int):=od_;have z5 : z0 < (z3.length : Int):=od_;obtain ⟨j9,e123,j5⟩:=Kd.at_int (Kd.R_reads' j0.out).2.2 z0 z4 z5;cases e123;replace z4:=eq_true z4;replace z5:=eq_true z5;go_wp2;go_roundg k3
                 case measure => have:=HJ6.out;have:=HK2.out;have:=HK3.out;omega
                 case rel => exact ⟨(z8),(wrap64 (z9 + 1)),(wrap64 (z0 + 1)),es_,es_,es_,H',⟨by have:=HJ6.out;have:=HK2.out;have:=HK3.out;omega⟩,⟨ra_ z6.out⟩,⟨ra_ j0.out⟩,⟨hb_⟩⟩
                ·rw [if_neg c45] at H
                 have zb4 : decide ((wrap64 ((wrap64 ((wrap64 (a2 - a0)) * (wrap64 ((rd z3 z0) - a1)))) - (wrap64 ((wrap64 (a3 - a1)) * (wrap64 ((rd z2 z1) - a0)))))) < 0) = false:=df_ c45;clear c45;have H':=ak H;clear H;have z4 : 0 ≤ (z0 : Int):=od_;have z5 : z0 < (z3.length : Int):=od_;obtain ⟨j9,e123,j5⟩:=Kd.at_int (Kd.R_reads' j0.out).2.2 z0 z4 z5;cases e123;replace z4:=eq_true z4;replace z5:=eq_true z5;go_wp2;go_roundg k3
                 case measure => have:=HJ6.out;have:=HK2.out;have:=HK3.out;omega
                 case rel => exact ⟨(z8),(z9),(wrap64 (z0 + 1)),es_,es_,es_,H',⟨by have:=HJ6.out;have:=HK2.out;have:=HK3.out;omega⟩,⟨ra_ z6.out⟩,⟨ra_ j0.out⟩,⟨hb_⟩⟩
              ·rw [if_neg c42] at H
               exact absurd H (by simp)
             ·rw [if_neg c41] at H
              exact absurd H (by simp)
            ·rw [if_neg c40] at H
             have zb1 : decide (z0 < (z3.length : Int)) = false:=df_ c40;clear c40;have H':=ak H;clear H;go_wp2;go_roundg k3
             case measure => have:=HJ6.out;have:=HK2.out;have:=HK3.out;omega
             case rel => exact ⟨(z8),(z9),(wrap64 (z1 + 1)),es_,es_,es_,H',⟨by have:=HJ6.out;have:=HK2.out;have:=HK3.out;omega⟩,⟨by (with_reducible repeat (first | apply Kd.R_alloc | apply Kd.R_drewN | apply Kd.R_drew));exact Kd.R_mono z6.out (fun _ hk => trivial)⟩,⟨hb_⟩⟩
         ·rw [if_neg c36] at H
          exact absurd H (by simp)
        ·rw [if_neg c35] at H
         exact absurd H (by simp)
       ·rw [if_neg c34] at H
        have zb0 : decide (z1 < (z2.length : Int)) = false:=df_ c34;clear c34;by_cases c46 : z7 < 4
        ·rw [if_pos c46] at H
         have zb5 : decide (z7 < 4) = true:=dt_ c46;clear c46
         obtain rfl:=Option.some.inj H
         go_wp2;go_ret;exact ⟨er_,hb_⟩
        ·rw [if_neg c46] at H
         have zb5 : decide (z7 < 4) = false:=df_ c46;clear c46
         obtain rfl:=Option.some.inj H
         go_wp2;go_ret;exact ⟨er_,hb_⟩

end Go.Proofs.Ytjcmlggdaajicaa.Pr
namespace Go.Proofs.Ytjcmlggdaajicaa.Pr
open Go.RowKit Go.Proofs.YtjcmlggdaajicaaW.PrintWords Go.Proofs.YtjcmlggdaajicaaW.PrintLast Go.Proofs.YtjcmlggdaajicaaW.PrintMore
attribute [local go_sem] max2_int min2_int max_two min_two max_three min_three max_four min_four
set_option linter.unusedVariables false
set_option linter.unusedSimpArgs false

def spec_l18Clear.T10 : Bool × List (List Nat × List Nat):=(true,[([],[]),([0],[0]),([],[]),([1,2],[1,2]),([3],[3]),([4],[4]),([5],[5]),([6],[6]),([7,6],[6,7]),([6],[6]),([9,6],[6,9]),([6],[6]),([11,6],[6,11]),([6],[6]),([13,6],[6,13]),([6],[6]),([6],[6]),([16,6],[6,16]),([15,17,6],[6,15,17]),([6],[6]),([6],[6]),([20,6],[6,20]),([19,21,6],[6,19,21]),([8,10,12,14,18,22,6,6],[6,8,10,12,14,18,22]),([6,23],[6,23])])
def spec_l18Clear.B10 : List Nat:=[0,1,0,7,15,31,63,127,255,127,639,127,2175,127,8319,127,127,65663,229503,127,127,1048703,3670143,8388607,16777215]
theorem spec_l18Clear.tab10 : rtab .any (opsOf Try.f39 10) = spec_l18Clear.T10:=by kernel_rfl
theorem spec_l18Clear.bits10 : waitsOk spec_l18Clear.T10.2 spec_l18Clear.B10 = true:=by kernel_rfl
set_option maxHeartbeats 8000000 in
set_option maxRecDepth 100000 in
theorem spec_l18Clear.calls (k : Nat) (a0_0 : Int) (z5 : Option Addr) (c0_1 : Nat) (z2 : List Int) (a1 : Int) (a2 : Int) (r : Bool) (w : World) (hr0_1 : Kd.C (Kd.int .i64) w z5 z2.length z2) (hc0_1 : z2.length ≤ c0_1) (h : spec_l18Clear.f k a0_0 z2 a1 a2 = some r) :
   Calls Try.prog 39 #[.agg #[.int .i64 a0_0,.slice z5 z2.length c0_1],.int .i64 a1,.int .i64 a2] w fun e w' => e = .returned (.bool r) ∧ Below w.heap.size w w':=by
  have za5:=Try.underlying27;have z9:=ak hr0_1;have j4:=ak hc0_1;clear hr0_1 hc0_1;have HB:=ak (Below.refl w.heap.size w);have H : ((spec_l12Free.f a0_0 z2 a1).bind fun j5 => (if j5 = true then ((spec_l12Free.f a0_0 z2 a2).bind fun j0 => (spec_l18Clear.j0 k a1 a2 (!j0) a0_0 z2)) else (spec_l18Clear.j0 k a1 a2 true a0_0 z2))) = some r:=h;clear h;have HC4:=ak H;clear H;go_enter Try.func39,Try.ntmps39
  go_upto_region 1 with (first | ((with_reducible refine gate_dst (N:=3) rfl ?_);refine box_event ?hg (N:=3) ?hd (cs:=#[.int .i64 a0_0,.slice z5 z2.length c0_1]) (t:=27) ?hr ?_;(case hd => rfl);(case hg => rfl);(case hr => first | (go_simp;done) | (go_simp;rfl));intro z4 hg w5 hbox hb;have z0:=ak (hbox);have m7 : Aside0 (w.heap.size ≤ z4):=gz_;have m8 : Aside0 (w.heap.size ≤ z4):=gz_;replace HB:=bq_ hb;clear hb hbox hg))
  (try simp only [Act.put,aS,aZ,aN])
  go_cut [21] (fun v21 wc => ∃ (kq : Nat) (j3 : Bool),v21 = .bool j3 ∧ Aside0 (spec_l18Clear.j0 kq a1 a2 j3 a0_0 z2 = some r) ∧ Aside0 (kq ≤ k) ∧ Aside0 (wc.heap[z4]? = some (.cells #[.int .i64 a0_0,(.slice z5 z2.length c0_1)] 27 (0,0))) ∧ Aside0 (Below w.heap.size w wc))
  case first =>
   have H:=HC4.out;clear HC4;replace H:=Option.bind_eq_some_iff.mp H;obtain ⟨j5,A60,H⟩:=H;replace H : (if j5 = true then ((spec_l12Free.f a0_0 z2 a2).bind fun j0 => (spec_l18Clear.j0 k a1 a2 (!j0) a0_0 z2)) else (spec_l18Clear.j0 k a1 a2 true a0_0 z2)) = some r:=H;have A6:=ak A60;clear A60;by_cases c7 : j5 = true
   ·subst c7
    rw [if_pos rfl] at H;replace H:=Option.bind_eq_some_iff.mp H;obtain ⟨j0,A80,H⟩:=H;replace H : (spec_l18Clear.j0 k a1 a2 (!j0) a0_0 z2) = some r:=H;have A8:=ak A80;clear A80;have H':=ak H;clear H;have m3:=b20 z0;have m4:=b21 z0;have m5:=bf_ z0 0;have m6:=bf_ z0 1;go_wp2_with (first | ((with_reducible refine gate_callee (f:=43) rfl ?_);refine goesL_ (some 14) rfl rfl Try.func43 (by kernel_rfl) rfl #[.agg #[.int .i64 a0_0,.slice z5 z2.length c0_1],.int .i64 a1] rfl ls_ ?_;(with_reducible refine (spec_l12Free.calls a0_0 _ _ z2 a1 true _ ?j1 ?j2 A6.out).mono ?_);(case j1 => exact cb_ z9.out);(case j2 => exact j4.out);rintro e w10 ⟨rfl,hb⟩;refine ⟨_,rfl,?_⟩;replace z0:=bb_ z0 hb;replace HB:=bq_ hb;(try clear hb);(try clear hb2);(try clear hk);(try clear hi);have r1:=b20 z0;have r2:=b21 z0;have r3:=bf_ z0 0;have r4:=bf_ z0 1) | (go_at_call 43;(with_reducible refine (spec_l12Free.calls a0_0 _ _ z2 a2 j0 _ ?j1 ?j2 A8.out).mono ?_);(case j1 => exact cb_ z9.out);(case j2 => exact j4.out);rintro e w12 ⟨rfl,hb⟩;replace z0:=bb_ z0 hb;replace HB:=bq_ hb;(try clear hb);(try clear hb2);(try clear hk);(try clear hi)));go_meet
    case rel => exact ⟨_,(!j0),es_,H',⟨by first | omega | exact Nat.le_refl _⟩,⟨bk_ z0.out⟩,⟨hb_⟩⟩
   ·replace c7:=Bool.eq_false_iff.mpr c7
    subst c7;rw [if_neg (show ¬ (false = true) by decide)] at H;have H':=ak H;clear H;have r5:=b20 z0;have r6:=b21 z0;have r7:=bf_ z0 0;have r8:=bf_ z0 1;go_wp2_with (first | ((with_reducible refine gate_callee (f:=43) rfl ?_);refine goesL_ (some 14) rfl rfl Try.func43 (by kernel_rfl) rfl #[.agg #[.int .i64 a0_0,.slice z5 z2.length c0_1],.int .i64 a1] rfl ls_ ?_;(with_reducible refine (spec_l12Free.calls a0_0 _ _ z2 a1 false _ ?j1 ?j2 A6.out).mono ?_);(case j1 => exact cb_ z9.out);(case j2 => exact j4.out);rintro e w14 ⟨rfl,hb⟩;refine ⟨_,rfl,?_⟩;replace z0:=bb_ z0 hb;replace HB:=bq_ hb;(try clear hb);(try clear hb2);(try clear hk);(try clear hi)));go_meet
    case rel => exact ⟨_,(true),es_,H',⟨by first | omega | exact Nat.le_refl _⟩,⟨bk_ z0.out⟩,⟨hb_⟩⟩
  case rest =>
   clear HC4;obtain ⟨kq,j3,rfl,HA,HJ3,z0,HB⟩:=hcut
   cases kq with
   | zero => exact absurd HA.out (by simp [spec_l18Clear.j0])
   | succ kj3 =>
    have H:=HA.out;clear HA;simp only [spec_l18Clear.j0] at H;by_cases c15 : j3 = true
    ·subst c15
     rw [if_pos rfl] at H
     obtain rfl:=Option.some.inj H
     go_wp2;go_ret;exact ⟨er_,hb_⟩
    ·replace c15:=Bool.eq_false_iff.mpr c15
     subst c15;rw [if_neg (show ¬ (false = true) by decide)] at H;by_cases c16 : a0_0 = 0
     ·rw [if_pos c16] at H
      exact absurd H (by simp)
     ·rw [if_neg c16] at H
      have m9 : (a0_0 == 0) = false:=beq_eq_false_iff_ne.mpr c16;have za0 : (a0_0 != 0) = true:=bne_iff_ne.mpr c16;have H':=ak H;clear H;have r9:=b20 z0;have m0:=b21 z0;have m1:=bf_ z0 0;have m2:=bf_ z0 1;go_wp2
      go_loopg [41] kj3 (fun kq v41 w' => ∃ (z1 : Int),v41 = .int .i64 z1 ∧ Aside0 (spec_l18Clear.l0 kq (Int.tmod a1 a0_0) (wrap64 (Int.tdiv a1 a0_0)) (Int.tmod a2 a0_0) (wrap64 (Int.tdiv a2 a0_0)) (z2.length : Int) z1 a0_0 z2 = some r) ∧ Aside0 (kq ≤ kj3) ∧ Aside0 (w'.heap[z4]? = some (.cells #[.int .i64 a0_0,(.slice z5 z2.length c0_1)] 27 (0,0))) ∧ Aside0 (Below w.heap.size w w'))
      case atStart => exact ⟨(0),es_,H',⟨Nat.le_refl _⟩,⟨bk_ z0.out⟩,⟨hb_⟩⟩
      case round =>
       clear H';obtain ⟨z1,rfl,HA,HK2,z0,HB⟩:=hrel
       cases gk with
       | zero => exact absurd HA.out (by simp [spec_l18Clear.l0])
       | succ k2 =>
        have H:=HA.out;clear HA;simp only [spec_l18Clear.l0] at H;by_cases c18 : z1 < (z2.length : Int)
        ·rw [if_pos c18] at H
         have j8 : decide (z1 < (z2.length : Int)) = true:=dt_ c18;clear c18;by_cases c19 : 0 ≤ z1
         ·rw [if_pos c19] at H
          have za1 : decide (0 ≤ z1) = true:=dt_ c19;clear c19;by_cases c20 : z1 < (z2.length : Int)
          ·rw [if_pos c20] at H
           have za2 : decide (z1 < (z2.length : Int)) = true:=dt_ c20;clear c20;by_cases c21 : (rd z2 z1) = 0
           ·rw [if_pos c21] at H
            have j9 : ((rd z2 z1) == 0) = true:=beq_iff_eq.mpr c21;have r0 : ((rd z2 z1) != 0) = false:=bne_eq_false_iff_eq.mpr c21;clear c21;have H':=ak H;clear H;(try go_wp2);replace z0:=ak (blk_drew z0.out);replace HB:=ak (below_drew1 HB.out);have z6 : 0 ≤ (z1 : Int):=od_;have z7 : z1 < (z2.length : Int):=od_;obtain ⟨z8,e127,z3⟩:=Kd.at_int z9.out z1 z6 z7;have hw127_0:=z3;cases e127;replace z3:=hc_ HB z3;replace z6:=eq_true z6;replace z7:=eq_true z7;refine start_ (n:=25) (S:=fun w' => w'.cell? ⟨z4,0,none⟩ = some (.int .i64 a0_0) ∧ w'.cell? ⟨z4,1,none⟩ = some (.slice (some z8) z2.length c0_1) ∧ w'.cell? (z8.add (z1).toNat) = some (.int .i64 (rd z2 z1))) (ds:=[]) (bm 25 0) (by kernel_rfl) rfl rfl ⟨(blk_cell z0.out 0).trans rfl,(blk_cell z0.out 1).trans rfl,((HB.out.cell (World.block_lt_of_cell? w _ hw127_0)).trans hw127_0)⟩ (fun hHeld => ?_);refine with_tabW spec_l18Clear.tab10 spec_l18Clear.bits10 (fun HT_ HW_ => ?_);generalize wr.drew = w22 at z0 HB z3 hHeld ⊢;refine pz 0 44 HT_ ?_;refine pz 2 46 HT_ ?_;refine tz 1 45 rfl HT_ HW_ hHeld (by rintro w' ⟨s0,s1,s2⟩;go_simp;with_reducible rfl) ?_
            refine pz 3 47 HT_ ?_;refine tz 4 48 rfl HT_ HW_ hHeld (by rintro w' ⟨s0,s1,s2⟩;go_simp;with_reducible rfl) ?_
            refine pz 5 49 HT_ ?_;refine pz 6 50 HT_ ?_;refine pu 7 51 HT_ ?_;refine pu 8 52 HT_ ?_;refine pu 9 53 HT_ ?_;refine pu 10 54 HT_ ?_;refine pu 11 55 HT_ ?_;refine pu 12 56 HT_ ?_;refine pu 13 57 HT_ ?_;refine pu 14 58 HT_ ?_;refine pu 15 59 HT_ ?_;refine pu 16 60 HT_ ?_;refine pu 17 61 HT_ ?_;refine pu 18 62 HT_ ?_;refine pu 19 63 HT_ ?_;refine pu 20 64 HT_ ?_;refine pu 21 65 HT_ ?_;refine pu 22 66 HT_ ?_;refine pu 23 67 HT_ ?_;refine pz 24 68 HT_ ?_
            refine done_ (done_of HT_.out (by kernel_rfl)) ?_;(try go_wp2);go_roundg k2
            case measure => have:=HJ3.out;have:=HK2.out;omega
            case rel => exact ⟨(wrap64 (z1 + 1)),es_,H',⟨by have:=HJ3.out;have:=HK2.out;omega⟩,⟨bk_ z0.out⟩,⟨hb_⟩⟩
           ·rw [if_neg c21] at H
            have j9 : ((rd z2 z1) == 0) = false:=beq_eq_false_iff_ne.mpr c21;have r0 : ((rd z2 z1) != 0) = true:=bne_iff_ne.mpr c21;by_cases c23 : a0_0 = 0
            ·rw [if_pos c23] at H
             exact absurd H (by simp)
            ·rw [if_neg c23] at H
             have za3 : (a0_0 == 0) = false:=beq_eq_false_iff_ne.mpr c23;have za4 : (a0_0 != 0) = true:=bne_iff_ne.mpr c23;replace H:=Option.bind_eq_some_iff.mp H;obtain ⟨j6,j7,H⟩:=H;replace H : (if j6 = true then (some false) else (spec_l18Clear.l0 k2 (Int.tmod a1 a0_0) (wrap64 (Int.tdiv a1 a0_0)) (Int.tmod a2 a0_0) (wrap64 (Int.tdiv a2 a0_0)) (z2.length : Int) (wrap64 (z1 + 1)) a0_0 z2)) = some r:=H;have A24:=ak j7;clear j7;by_cases c25 : j6 = true
             ·subst c25
              rw [if_pos rfl] at H
              obtain rfl:=Option.some.inj H
              (try go_wp2);replace z0:=ak (blk_drew z0.out);replace HB:=ak (below_drew1 HB.out);have z6 : 0 ≤ (z1 : Int):=od_;have z7 : z1 < (z2.length : Int):=od_;obtain ⟨z8,e127,z3⟩:=Kd.at_int z9.out z1 z6 z7;have hw127_0:=z3;cases e127;replace z3:=hc_ HB z3;replace z6:=eq_true z6;replace z7:=eq_true z7;refine start_ (n:=25) (S:=fun w' => w'.cell? ⟨z4,0,none⟩ = some (.int .i64 a0_0) ∧ w'.cell? ⟨z4,1,none⟩ = some (.slice (some z8) z2.length c0_1) ∧ w'.cell? (z8.add (z1).toNat) = some (.int .i64 (rd z2 z1))) (ds:=[]) (bm 25 0) (by kernel_rfl) rfl rfl ⟨(blk_cell z0.out 0).trans rfl,(blk_cell z0.out 1).trans rfl,((HB.out.cell (World.block_lt_of_cell? w _ hw127_0)).trans hw127_0)⟩ (fun hHeld => ?_);refine with_tabW spec_l18Clear.tab10 spec_l18Clear.bits10 (fun HT_ HW_ => ?_);generalize wr.drew = w26 at z0 HB z3 hHeld ⊢;refine pure_ (i:=0) (N:=some 44) (v:=?_) (a':=?_) (bm 25 1) rfl rfl (any_of HT_.out (by kernel_rfl)) (fun _ _ _ h => h) (Or.inl ⟨by rfl,?_⟩) ?_ ?_;rotate_left
              (intro w';go_simp;with_reducible rfl);rotate_left;(simp only [Act.put,aS,aZ,aN,i64_w,i32_w];rfl)
              refine pz 2 46 HT_ ?_;refine tz 1 45 rfl HT_ HW_ hHeld (by rintro w' ⟨s0,s1,s2⟩;go_simp;with_reducible rfl) ?_
              refine pz 3 47 HT_ ?_;refine tz 4 48 rfl HT_ HW_ hHeld (by rintro w' ⟨s0,s1,s2⟩;go_simp;with_reducible rfl) ?_
              refine pz 5 49 HT_ ?_;refine pz 6 50 HT_ ?_;refine pz 7 51 HT_ ?_;refine pz 8 52 HT_ ?_;refine pz 9 53 HT_ ?_;refine pz 10 54 HT_ ?_;refine pz 11 55 HT_ ?_;refine pz 12 56 HT_ ?_;refine pz 13 57 HT_ ?_;refine pz 14 58 HT_ ?_;refine pz 15 59 HT_ ?_;refine pz 16 60 HT_ ?_;refine pz 19 63 HT_ ?_;refine pz 20 64 HT_ ?_;refine tz 17 61 rfl HT_ HW_ hHeld (by rintro w' ⟨s0,s1,s2⟩;go_simp;with_reducible rfl) ?_
              refine pz 18 62 HT_ ?_;refine tz 21 65 rfl HT_ HW_ hHeld (by rintro w' ⟨s0,s1,s2⟩;go_simp;with_reducible rfl) ?_
              refine pz 22 66 HT_ ?_
              refine one_ (i:=23) (N:=some 67) (bm 25 16777215) rfl rfl (one_of HT_.out (by kernel_rfl)) (by decide) (fun K hK => ?_);refine goes_ Try.func55 (by kernel_rfl) rfl #[.int .i64 (wrap64 (2 * (Int.tmod a1 a0_0))),.int .i64 (wrap64 (2 * (wrap64 (Int.tdiv a1 a0_0)))),.int .i64 (wrap64 (2 * (Int.tmod a2 a0_0))),.int .i64 (wrap64 (2 * (wrap64 (Int.tdiv a2 a0_0)))),.int .i64 (Int.tmod z1 a0_0),.int .i64 (wrap64 (Int.tdiv z1 a0_0))] (by rfl) rfl rfl ls_ ?_
              with_reducible refine (spec_l18Meets.calls k2 (wrap64 (2 * (Int.tmod a1 a0_0))) (wrap64 (2 * (wrap64 (Int.tdiv a1 a0_0)))) (wrap64 (2 * (Int.tmod a2 a0_0))) (wrap64 (2 * (wrap64 (Int.tdiv a2 a0_0)))) (Int.tmod z1 a0_0) (wrap64 (Int.tdiv z1 a0_0)) true _ A24.out).mono ?_
              rintro e w27 ⟨rfl,hb⟩;refine ⟨_,rfl,?_⟩;replace z0:=bb_ z0 hb;replace HB:=bq_ hb;refine hK.out _ _ ⟨(blk_cell z0.out 0).trans rfl,(blk_cell z0.out 1).trans rfl,((HB.out.cell (World.block_lt_of_cell? w _ hw127_0)).trans hw127_0)⟩ (fun hHeld => ?_);clear hK K;refine nz 67 ?_;refine pz 24 68 HT_ ?_
              refine done_ (done_of HT_.out (by kernel_rfl)) ?_;(try go_wp2);go_ret;exact ⟨er_,hb_⟩
             ·replace c25:=Bool.eq_false_iff.mpr c25
              subst c25;rw [if_neg (show ¬ (false = true) by decide)] at H;have H':=ak H;clear H;(try go_wp2);replace z0:=ak (blk_drew z0.out);replace HB:=ak (below_drew1 HB.out);have z6 : 0 ≤ (z1 : Int):=od_;have z7 : z1 < (z2.length : Int):=od_;obtain ⟨z8,e127,z3⟩:=Kd.at_int z9.out z1 z6 z7;have hw127_0:=z3;cases e127;replace z3:=hc_ HB z3;replace z6:=eq_true z6;replace z7:=eq_true z7;refine start_ (n:=25) (S:=fun w' => w'.cell? ⟨z4,0,none⟩ = some (.int .i64 a0_0) ∧ w'.cell? ⟨z4,1,none⟩ = some (.slice (some z8) z2.length c0_1) ∧ w'.cell? (z8.add (z1).toNat) = some (.int .i64 (rd z2 z1))) (ds:=[]) (bm 25 0) (by kernel_rfl) rfl rfl ⟨(blk_cell z0.out 0).trans rfl,(blk_cell z0.out 1).trans rfl,((HB.out.cell (World.block_lt_of_cell? w _ hw127_0)).trans hw127_0)⟩ (fun hHeld => ?_);refine with_tabW spec_l18Clear.tab10 spec_l18Clear.bits10 (fun HT_ HW_ => ?_);generalize wr.drew = w28 at z0 HB z3 hHeld ⊢;refine pure_ (i:=0) (N:=some 44) (v:=?_) (a':=?_) (bm 25 1) rfl rfl (any_of HT_.out (by kernel_rfl)) (fun _ _ _ h => h) (Or.inl ⟨by rfl,?_⟩) ?_ ?_;rotate_left
              (intro w';go_simp;with_reducible rfl);rotate_left;(simp only [Act.put,aS,aZ,aN,i64_w,i32_w];rfl)
              refine pz 2 46 HT_ ?_;refine tz 1 45 rfl HT_ HW_ hHeld (by rintro w' ⟨s0,s1,s2⟩;go_simp;with_reducible rfl) ?_
              refine pz 3 47 HT_ ?_;refine tz 4 48 rfl HT_ HW_ hHeld (by rintro w' ⟨s0,s1,s2⟩;go_simp;with_reducible rfl) ?_
              refine pz 5 49 HT_ ?_;refine pz 6 50 HT_ ?_;refine pz 7 51 HT_ ?_;refine pz 8 52 HT_ ?_;refine pz 9 53 HT_ ?_;refine pz 10 54 HT_ ?_;refine pz 11 55 HT_ ?_;refine pz 12 56 HT_ ?_;refine pz 13 57 HT_ ?_;refine pz 14 58 HT_ ?_;refine pz 15 59 HT_ ?_;refine pz 16 60 HT_ ?_;refine pz 19 63 HT_ ?_;refine pz 20 64 HT_ ?_;refine tz 17 61 rfl HT_ HW_ hHeld (by rintro w' ⟨s0,s1,s2⟩;go_simp;with_reducible rfl) ?_
              refine pz 18 62 HT_ ?_;refine tz 21 65 rfl HT_ HW_ hHeld (by rintro w' ⟨s0,s1,s2⟩;go_simp;with_reducible rfl) ?_
              refine pz 22 66 HT_ ?_
              refine one_ (i:=23) (N:=some 67) (bm 25 16777215) rfl rfl (one_of HT_.out (by kernel_rfl)) (by decide) (fun K hK => ?_);refine goes_ Try.func55 (by kernel_rfl) rfl #[.int .i64 (wrap64 (2 * (Int.tmod a1 a0_0))),.int .i64 (wrap64 (2 * (wrap64 (Int.tdiv a1 a0_0)))),.int .i64 (wrap64 (2 * (Int.tmod a2 a0_0))),.int .i64 (wrap64 (2 * (wrap64 (Int.tdiv a2 a0_0)))),.int .i64 (Int.tmod z1 a0_0),.int .i64 (wrap64 (Int.tdiv z1 a0_0))] (by rfl) rfl rfl ls_ ?_
              with_reducible refine (spec_l18Meets.calls k2 (wrap64 (2 * (Int.tmod a1 a0_0))) (wrap64 (2 * (wrap64 (Int.tdiv a1 a0_0)))) (wrap64 (2 * (Int.tmod a2 a0_0))) (wrap64 (2 * (wrap64 (Int.tdiv a2 a0_0)))) (Int.tmod z1 a0_0) (wrap64 (Int.tdiv z1 a0_0)) false _ A24.out).mono ?_
              rintro e w29 ⟨rfl,hb⟩;refine ⟨_,rfl,?_⟩;replace z0:=bb_ z0 hb;replace HB:=bq_ hb;refine hK.out _ _ ⟨(blk_cell z0.out 0).trans rfl,(blk_cell z0.out 1).trans rfl,((HB.out.cell (World.block_lt_of_cell? w _ hw127_0)).trans hw127_0)⟩ (fun hHeld => ?_);clear hK K;refine nz 67 ?_;refine pz 24 68 HT_ ?_
              refine done_ (done_of HT_.out (by kernel_rfl)) ?_;(try go_wp2);go_roundg k2
              case measure => have:=HJ3.out;have:=HK2.out;omega
              case rel => exact ⟨(wrap64 (z1 + 1)),es_,H',⟨by have:=HJ3.out;have:=HK2.out;omega⟩,⟨bk_ z0.out⟩,⟨hb_⟩⟩
          ·rw [if_neg c20] at H
           exact absurd H (by simp)
         ·rw [if_neg c19] at H
          exact absurd H (by simp)
        ·rw [if_neg c18] at H
         have j8 : decide (z1 < (z2.length : Int)) = false:=df_ c18;clear c18
         obtain rfl:=Option.some.inj H
         go_wp2;go_ret;exact ⟨er_,hb_⟩

end Go.Proofs.Ytjcmlggdaajicaa.Pr
