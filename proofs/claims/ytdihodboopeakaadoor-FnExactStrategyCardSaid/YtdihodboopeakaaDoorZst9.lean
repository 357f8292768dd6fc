-- Joined and pruned by wip/tools/prune.py out of this session's own texts (Pr6, Pr7, Pr8, Pr13)
import Derived.Test.YtdihodboopeakaaDoorZst8
-- Written by this session's own print (wip/tools/mkmp.py) out of the translation. Lean checks it.
namespace Go.Proofs.YtdihodboopeakaaDoor.Pr
open Go.RowKit Go.Proofs.YtdihodboopeakaaDoorW.PrintWords Go.Proofs.YtdihodboopeakaaDoorW.PrintLast Go.Proofs.YtdihodboopeakaaDoorW.PrintMore
attribute [local go_sem] max2_int min2_int max_two min_two max_three min_three max_four min_four   -- for this text's walks alone
set_option linter.unusedVariables false
set_option linter.unusedSimpArgs false

set_option maxHeartbeats 8000000 in
set_option maxRecDepth 100000 in
theorem spec_l22Rune.calls (k : Nat) (a0 : ByteArray) (a1 : Int) (r : Int) (w : World) (h : spec_l22Rune.f k a0 a1 = some r) :
   Calls Tryd.prog 91 #[.string a0, .int .i64 a1] w fun e w' => e = .returned (.int .i64 r) ∧ Drawn0 w w' := by
  have H : (if 0 ≤ a1 then (if a1 < (a0.size : Int) then (if (wrap64 (bt a0 a1)) < 128 then (some 1) else (if (wrap64 (bt a0 a1)) ≥ 194 then (spec_l22Rune.j0 k a0 a1 (wrap64 (bt a0 a1)) 128 191 (decide ((wrap64 (bt a0 a1)) ≤ 223))) else (spec_l22Rune.j0 k a0 a1 (wrap64 (bt a0 a1)) 128 191 false))) else (none)) else (none)) = some r := h; clear h; by_cases c3 : 0 ≤ a1
  ·rw [if_pos c3] at H
   have c3b0 : decide (0 ≤ a1) = true := decide_eq_true c3; clear c3; by_cases c4 : a1 < (a0.size : Int)
   ·rw [if_pos c4] at H
    have c4b0 : decide (a1 < (a0.size : Int)) = true := decide_eq_true c4; clear c4; have HC6 := Aside0.mk H; clear H; have p5 : 0 ≤ (a1 : Int) := of_decide_eq_true as_; have q5 : a1 < (a0.size : Int) := of_decide_eq_true as_; have hx5 := bt_at a0 a1; replace p5 := eq_true p5; replace q5 := eq_true q5; go_enter Tryd.func91, Tryd.ntmps91
    go_upto_block 0 with (fail)
    go_cut [6, 7, 8] (fun v6 v7 v8 wc => ∃ (kq : Nat) (x6_5 : Int) (x7_5 : Int) (x8_5 : Int), v6 = .int .i64 x6_5 ∧ v7 = .int .i64 x7_5 ∧ v8 = .int .i64 x8_5 ∧ Aside0 (spec_l22Rune.j3 kq a0 a1 x6_5 x7_5 x8_5 = some r) ∧ Aside0 (kq ≤ k) ∧ Drawn0 w wc)
    case first =>
     have H := HC6.out; clear HC6; by_cases c7 : (wrap64 (bt a0 a1)) < 128
     ·rw [if_pos c7] at H
      have c7b0 : decide ((wrap64 (bt a0 a1)) < 128) = true := decide_eq_true c7; clear c7; (first | rw [c7b0] | (simp only [i64_w, i32_w]; rw [c7b0]) | skip)
      obtain rfl := Option.some.inj H
      go_wp2; go_ret; exact ⟨es_, by repeat (first | exact Drawn0.refl _ | apply Drawn0.step)⟩
     ·rw [if_neg c7] at H
      have c7b0 : decide ((wrap64 (bt a0 a1)) < 128) = false := decide_eq_false c7; clear c7; (first | rw [c7b0] | (simp only [i64_w, i32_w]; rw [c7b0]) | skip); have HC8 := Aside0.mk H; clear H
      go_upto_region 8 with (fail)
      go_cut [18] (fun v18 wc => ∃ (kq : Nat) (x18_7 : Bool), v18 = .bool x18_7 ∧ Aside0 (spec_l22Rune.j0 kq a0 a1 (wrap64 (bt a0 a1)) 128 191 x18_7 = some r) ∧ Aside0 (kq ≤ k) ∧ Drawn0 w wc)
      case first =>
       have H := HC8.out; clear HC8; by_cases c9 : (wrap64 (bt a0 a1)) ≥ 194
       ·rw [if_pos c9] at H
        have c9b0 : decide (194 ≤ (wrap64 (bt a0 a1))) = true := decide_eq_true c9; clear c9; (first | rw [c9b0] | (simp only [i64_w, i32_w]; rw [c9b0]) | skip); have H' := Aside0.mk H; clear H; go_wp2; go_meet
        case rel => exact ⟨_, (decide ((wrap64 (bt a0 a1)) ≤ 223)), es_, H', ⟨by first | omega | exact Nat.le_refl _⟩, by repeat (first | exact Drawn0.refl _ | apply Drawn0.step)⟩
       ·rw [if_neg c9] at H
        have c9b0 : decide (194 ≤ (wrap64 (bt a0 a1))) = false := decide_eq_false c9; clear c9; (first | rw [c9b0] | (simp only [i64_w, i32_w]; rw [c9b0]) | skip); have H' := Aside0.mk H; clear H; go_wp2; go_meet
        case rel => exact ⟨_, (false), es_, H', ⟨by first | omega | exact Nat.le_refl _⟩, by repeat (first | exact Drawn0.refl _ | apply Drawn0.step)⟩
      case rest =>
       clear HC8; obtain ⟨kq, x18_7, rfl, HA, HJ7, ⟨mc7, rfl⟩⟩ := hcut
       cases kq with
       | zero => exact absurd HA.out (by simp [spec_l22Rune.j0])
       | succ kj7 =>
        have H := HA.out; clear HA; simp only [spec_l22Rune.j0] at H; by_cases c10 : x18_7 = true
        ·subst c10
         rw [if_pos rfl] at H; have H' := Aside0.mk H; clear H; go_wp2; go_meet
         case rel => exact ⟨_, (2), (128), (191), es_, es_, es_, H', ⟨by have := HJ7.out; first | omega | exact Nat.le_refl _⟩, by repeat (first | exact Drawn0.refl _ | apply Drawn0.step)⟩
        ·replace c10 := Bool.eq_false_iff.mpr c10
         subst c10; rw [if_neg (show ¬ (false = true) by decide)] at H; have HC11 := Aside0.mk H; clear H
         go_upto_region 10 with (fail)
         go_cut [25] (fun v25 wc => ∃ (kq : Nat) (x25_10 : Bool), v25 = .bool x25_10 ∧ Aside0 (spec_l22Rune.j1 kq a0 a1 (wrap64 (bt a0 a1)) 128 191 x25_10 = some r) ∧ Aside0 (kq ≤ kj7) ∧ Drawn0 w wc)
         case first =>
          have H := HC11.out; clear HC11; by_cases c12 : (wrap64 (bt a0 a1)) ≥ 224
          ·rw [if_pos c12] at H
           have c12b0 : decide (224 ≤ (wrap64 (bt a0 a1))) = true := decide_eq_true c12; clear c12; (first | rw [c12b0] | (simp only [i64_w, i32_w]; rw [c12b0]) | skip); have H' := Aside0.mk H; clear H; go_wp2; go_meet
           case rel => exact ⟨_, (decide ((wrap64 (bt a0 a1)) ≤ 239)), es_, H', ⟨by have := HJ7.out; first | omega | exact Nat.le_refl _⟩, by repeat (first | exact Drawn0.refl _ | apply Drawn0.step)⟩
          ·rw [if_neg c12] at H
           have c12b0 : decide (224 ≤ (wrap64 (bt a0 a1))) = false := decide_eq_false c12; clear c12; (first | rw [c12b0] | (simp only [i64_w, i32_w]; rw [c12b0]) | skip); have H' := Aside0.mk H; clear H; go_wp2; go_meet
           case rel => exact ⟨_, (false), es_, H', ⟨by have := HJ7.out; first | omega | exact Nat.le_refl _⟩, by repeat (first | exact Drawn0.refl _ | apply Drawn0.step)⟩
         case rest =>
          clear HC11; obtain ⟨kq, x25_10, rfl, HA, HJ10, ⟨mc10, rfl⟩⟩ := hcut
          cases kq with
          | zero => exact absurd HA.out (by simp [spec_l22Rune.j1])
          | succ kj10 =>
           have H := HA.out; clear HA; simp only [spec_l22Rune.j1] at H; by_cases c13 : x25_10 = true
           ·subst c13
            rw [if_pos rfl] at H; by_cases c14 : (wrap64 (bt a0 a1)) = 224
            ·rw [if_pos c14] at H
             have c14b0 : ((wrap64 (bt a0 a1)) == 224) = true := beq_iff_eq.mpr c14; have c14b1 : ((wrap64 (bt a0 a1)) != 224) = false := bne_eq_false_iff_eq.mpr c14; clear c14; by_cases c15 : (wrap64 (bt a0 a1)) = 237
             ·rw [if_pos c15] at H
              have c15b0 : ((wrap64 (bt a0 a1)) == 237) = true := beq_iff_eq.mpr c15; have c15b1 : ((wrap64 (bt a0 a1)) != 237) = false := bne_eq_false_iff_eq.mpr c15; clear c15; have H' := Aside0.mk H; clear H; go_wp2; go_meet
              case rel => exact ⟨_, (3), (160), (159), es_, es_, es_, H', ⟨by have := HJ7.out; have := HJ10.out; first | omega | exact Nat.le_refl _⟩, by repeat (first | exact Drawn0.refl _ | apply Drawn0.step)⟩
             ·rw [if_neg c15] at H
              have c15b0 : ((wrap64 (bt a0 a1)) == 237) = false := beq_eq_false_iff_ne.mpr c15; have c15b1 : ((wrap64 (bt a0 a1)) != 237) = true := bne_iff_ne.mpr c15; have H' := Aside0.mk H; clear H; go_wp2; go_meet
              case rel => exact ⟨_, (3), (160), (191), es_, es_, es_, H', ⟨by have := HJ7.out; have := HJ10.out; first | omega | exact Nat.le_refl _⟩, by repeat (first | exact Drawn0.refl _ | apply Drawn0.step)⟩
            ·rw [if_neg c14] at H
             have c14b0 : ((wrap64 (bt a0 a1)) == 224) = false := beq_eq_false_iff_ne.mpr c14; have c14b1 : ((wrap64 (bt a0 a1)) != 224) = true := bne_iff_ne.mpr c14; by_cases c16 : (wrap64 (bt a0 a1)) = 237
             ·rw [if_pos c16] at H
              have c16b0 : ((wrap64 (bt a0 a1)) == 237) = true := beq_iff_eq.mpr c16; have c16b1 : ((wrap64 (bt a0 a1)) != 237) = false := bne_eq_false_iff_eq.mpr c16; clear c16; have H' := Aside0.mk H; clear H; go_wp2; go_meet
              case rel => exact ⟨_, (3), (128), (159), es_, es_, es_, H', ⟨by have := HJ7.out; have := HJ10.out; first | omega | exact Nat.le_refl _⟩, by repeat (first | exact Drawn0.refl _ | apply Drawn0.step)⟩
             ·rw [if_neg c16] at H
              have c16b0 : ((wrap64 (bt a0 a1)) == 237) = false := beq_eq_false_iff_ne.mpr c16; have c16b1 : ((wrap64 (bt a0 a1)) != 237) = true := bne_iff_ne.mpr c16; have H' := Aside0.mk H; clear H; go_wp2; go_meet
              case rel => exact ⟨_, (3), (128), (191), es_, es_, es_, H', ⟨by have := HJ7.out; have := HJ10.out; first | omega | exact Nat.le_refl _⟩, by repeat (first | exact Drawn0.refl _ | apply Drawn0.step)⟩
           ·replace c13 := Bool.eq_false_iff.mpr c13
            subst c13; rw [if_neg (show ¬ (false = true) by decide)] at H; have HC17 := Aside0.mk H; clear H
            go_upto_region 16 with (fail)
            go_cut [36] (fun v36 wc => ∃ (kq : Nat) (x36_16 : Bool), v36 = .bool x36_16 ∧ Aside0 (spec_l22Rune.j2 kq a0 a1 (wrap64 (bt a0 a1)) 128 191 x36_16 = some r) ∧ Aside0 (kq ≤ kj10) ∧ Drawn0 w wc)
            case first =>
             have H := HC17.out; clear HC17; by_cases c18 : (wrap64 (bt a0 a1)) ≥ 240
             ·rw [if_pos c18] at H
              have c18b0 : decide (240 ≤ (wrap64 (bt a0 a1))) = true := decide_eq_true c18; clear c18; (first | rw [c18b0] | (simp only [i64_w, i32_w]; rw [c18b0]) | skip); have H' := Aside0.mk H; clear H; go_wp2; go_meet
              case rel => exact ⟨_, (decide ((wrap64 (bt a0 a1)) ≤ 244)), es_, H', ⟨by have := HJ7.out; have := HJ10.out; first | omega | exact Nat.le_refl _⟩, by repeat (first | exact Drawn0.refl _ | apply Drawn0.step)⟩
             ·rw [if_neg c18] at H
              have c18b0 : decide (240 ≤ (wrap64 (bt a0 a1))) = false := decide_eq_false c18; clear c18; (first | rw [c18b0] | (simp only [i64_w, i32_w]; rw [c18b0]) | skip); have H' := Aside0.mk H; clear H; go_wp2; go_meet
              case rel => exact ⟨_, (false), es_, H', ⟨by have := HJ7.out; have := HJ10.out; first | omega | exact Nat.le_refl _⟩, by repeat (first | exact Drawn0.refl _ | apply Drawn0.step)⟩
            case rest =>
             clear HC17; obtain ⟨kq, x36_16, rfl, HA, HJ16, ⟨mc16, rfl⟩⟩ := hcut
             cases kq with
             | zero => exact absurd HA.out (by simp [spec_l22Rune.j2])
             | succ kj16 =>
              have H := HA.out; clear HA; simp only [spec_l22Rune.j2] at H; by_cases c19 : x36_16 = true
              ·subst c19
               rw [if_pos rfl] at H; by_cases c20 : (wrap64 (bt a0 a1)) = 240
               ·rw [if_pos c20] at H
                have c20b0 : ((wrap64 (bt a0 a1)) == 240) = true := beq_iff_eq.mpr c20; have c20b1 : ((wrap64 (bt a0 a1)) != 240) = false := bne_eq_false_iff_eq.mpr c20; clear c20; by_cases c21 : (wrap64 (bt a0 a1)) = 244
                ·rw [if_pos c21] at H
                 have c21b0 : ((wrap64 (bt a0 a1)) == 244) = true := beq_iff_eq.mpr c21; have c21b1 : ((wrap64 (bt a0 a1)) != 244) = false := bne_eq_false_iff_eq.mpr c21; clear c21; have H' := Aside0.mk H; clear H; go_wp2; go_meet
                 case rel => exact ⟨_, (4), (144), (143), es_, es_, es_, H', ⟨by have := HJ7.out; have := HJ10.out; have := HJ16.out; first | omega | exact Nat.le_refl _⟩, by repeat (first | exact Drawn0.refl _ | apply Drawn0.step)⟩
                ·rw [if_neg c21] at H
                 have c21b0 : ((wrap64 (bt a0 a1)) == 244) = false := beq_eq_false_iff_ne.mpr c21; have c21b1 : ((wrap64 (bt a0 a1)) != 244) = true := bne_iff_ne.mpr c21; have H' := Aside0.mk H; clear H; go_wp2; go_meet
                 case rel => exact ⟨_, (4), (144), (191), es_, es_, es_, H', ⟨by have := HJ7.out; have := HJ10.out; have := HJ16.out; first | omega | exact Nat.le_refl _⟩, by repeat (first | exact Drawn0.refl _ | apply Drawn0.step)⟩
               ·rw [if_neg c20] at H
                have c20b0 : ((wrap64 (bt a0 a1)) == 240) = false := beq_eq_false_iff_ne.mpr c20; have c20b1 : ((wrap64 (bt a0 a1)) != 240) = true := bne_iff_ne.mpr c20; by_cases c22 : (wrap64 (bt a0 a1)) = 244
                ·rw [if_pos c22] at H
                 have c22b0 : ((wrap64 (bt a0 a1)) == 244) = true := beq_iff_eq.mpr c22; have c22b1 : ((wrap64 (bt a0 a1)) != 244) = false := bne_eq_false_iff_eq.mpr c22; clear c22; have H' := Aside0.mk H; clear H; go_wp2; go_meet
                 case rel => exact ⟨_, (4), (128), (143), es_, es_, es_, H', ⟨by have := HJ7.out; have := HJ10.out; have := HJ16.out; first | omega | exact Nat.le_refl _⟩, by repeat (first | exact Drawn0.refl _ | apply Drawn0.step)⟩
                ·rw [if_neg c22] at H
                 have c22b0 : ((wrap64 (bt a0 a1)) == 244) = false := beq_eq_false_iff_ne.mpr c22; have c22b1 : ((wrap64 (bt a0 a1)) != 244) = true := bne_iff_ne.mpr c22; have H' := Aside0.mk H; clear H; go_wp2; go_meet
                 case rel => exact ⟨_, (4), (128), (191), es_, es_, es_, H', ⟨by have := HJ7.out; have := HJ10.out; have := HJ16.out; first | omega | exact Nat.le_refl _⟩, by repeat (first | exact Drawn0.refl _ | apply Drawn0.step)⟩
              ·replace c19 := Bool.eq_false_iff.mpr c19
               subst c19; rw [if_neg (show ¬ (false = true) by decide)] at H
               obtain rfl := Option.some.inj H
               go_wp2; go_ret; exact ⟨es_, by repeat (first | exact Drawn0.refl _ | apply Drawn0.step)⟩
    case rest =>
     clear HC6; obtain ⟨kq, x6_5, x7_5, x8_5, rfl, rfl, rfl, HA, HJ5, ⟨mc5, rfl⟩⟩ := hcut
     cases kq with
     | zero => exact absurd HA.out (by simp [spec_l22Rune.j3])
     | succ kj5 =>
      have H := HA.out; clear HA; simp only [spec_l22Rune.j3] at H; have H' := Aside0.mk H; clear H; go_wp2
      go_loopg [7, 8, 9] kj5 (fun kq v7 v8 v9 w' => ∃ (x7_2 : Int) (x8_2 : Int) (x9_2 : Int), v7 = .int .i64 x7_2 ∧ v8 = .int .i64 x8_2 ∧ v9 = .int .i64 x9_2 ∧ Aside0 (spec_l22Rune.l0 kq a0 a1 x6_5 x7_2 x8_2 x9_2 = some r) ∧ Aside0 (kq ≤ kj5) ∧ Drawn0 w w')
      case atStart => exact ⟨(x7_5), (x8_5), (1), es_, es_, es_, H', ⟨Nat.le_refl _⟩, by repeat (first | exact Drawn0.refl _ | apply Drawn0.step)⟩
      case round =>
       clear H'; obtain ⟨x7_2, x8_2, x9_2, rfl, rfl, rfl, HA, HK2, ⟨m2, rfl⟩⟩ := hrel
       cases gk with
       | zero => exact absurd HA.out (by simp [spec_l22Rune.l0])
       | succ k2 =>
        have H := HA.out; clear HA; simp only [spec_l22Rune.l0] at H; by_cases c23 : x9_2 < x6_5
        ·rw [if_pos c23] at H
         have c23b0 : decide (x9_2 < x6_5) = true := decide_eq_true c23; clear c23; by_cases c24 : (wrap64 (a1 + x9_2)) ≥ (a0.size : Int)
         ·rw [if_pos c24] at H
          have c24b0 : decide ((a0.size : Int) ≤ (wrap64 (a1 + x9_2))) = true := decide_eq_true c24; clear c24
          obtain rfl := Option.some.inj H
          go_wp2; go_ret; exact ⟨es_, by repeat (first | exact Drawn0.refl _ | apply Drawn0.step)⟩
         ·rw [if_neg c24] at H
          have c24b0 : decide ((a0.size : Int) ≤ (wrap64 (a1 + x9_2))) = false := decide_eq_false c24; clear c24; obtain ⟨ji25, hji25⟩ : ∃ j_ : Int, (wrap64 (a1 + x9_2)) = j_ := ⟨_, rfl⟩; (replace H : (if 0 ≤ (ji25) then (if (ji25) < (a0.size : Int) then (if (wrap64 (bt a0 (ji25))) < x7_2 then (some 0) else (if (wrap64 (bt a0 (ji25))) > x8_2 then (some 0) else (spec_l22Rune.l0 k2 a0 a1 x6_5 128 191 (wrap64 (x9_2 + 1))))) else (none)) else (none)) = some r := by first | (rw [hji25] at H; exact H) | (simp only [hji25] at H ⊢; exact H)); (try rw [hji25] at c24b0); have hji25w : (IntKind.i64.wrap (a1 + x9_2)) = ji25 := (i64_w _).trans hji25; by_cases c26 : 0 ≤ (ji25)
          ·rw [if_pos c26] at H
           have c26b0 : decide (0 ≤ (ji25)) = true := decide_eq_true c26; clear c26; by_cases c27 : (ji25) < (a0.size : Int)
           ·rw [if_pos c27] at H
            have c27b0 : decide ((ji25) < (a0.size : Int)) = true := decide_eq_true c27; clear c27; by_cases c29 : (wrap64 (bt a0 (ji25))) < x7_2
            ·rw [if_pos c29] at H
             have c29b0 : decide ((wrap64 (bt a0 (ji25))) < x7_2) = true := decide_eq_true c29; clear c29
             obtain rfl := Option.some.inj H
             have p28 : 0 ≤ ((ji25) : Int) := of_decide_eq_true as_; have q28 : (ji25) < (a0.size : Int) := of_decide_eq_true as_; have hx28 := bt_at a0 (ji25); replace p28 := eq_true p28; replace q28 := eq_true q28; go_wp2; go_ret; exact ⟨by first | rfl | (simp; done) | (simp only [← hji25] <;> (first | rfl | simp)) | (simp [*]; done), by repeat (first | exact Drawn0.refl _ | apply Drawn0.step)⟩
            ·rw [if_neg c29] at H
             have c29b0 : decide ((wrap64 (bt a0 (ji25))) < x7_2) = false := decide_eq_false c29; clear c29; by_cases c30 : (wrap64 (bt a0 (ji25))) > x8_2
             ·rw [if_pos c30] at H
              have c30b0 : decide (x8_2 < (wrap64 (bt a0 (ji25)))) = true := decide_eq_true c30; clear c30
              obtain rfl := Option.some.inj H
              have p28 : 0 ≤ ((ji25) : Int) := of_decide_eq_true as_; have q28 : (ji25) < (a0.size : Int) := of_decide_eq_true as_; have hx28 := bt_at a0 (ji25); replace p28 := eq_true p28; replace q28 := eq_true q28; go_wp2; go_ret; exact ⟨by first | rfl | (simp; done) | (simp only [← hji25] <;> (first | rfl | simp)) | (simp [*]; done), by repeat (first | exact Drawn0.refl _ | apply Drawn0.step)⟩
             ·rw [if_neg c30] at H
              have c30b0 : decide (x8_2 < (wrap64 (bt a0 (ji25)))) = false := decide_eq_false c30; clear c30; have H' := Aside0.mk H; clear H; have p28 : 0 ≤ ((ji25) : Int) := of_decide_eq_true as_; have q28 : (ji25) < (a0.size : Int) := of_decide_eq_true as_; have hx28 := bt_at a0 (ji25); replace p28 := eq_true p28; replace q28 := eq_true q28; go_wp2; go_roundg k2
              case measure => have := HJ5.out; have := HK2.out; omega
              case rel => exact ⟨(128), (191), (wrap64 (x9_2 + 1)), es_, es_, es_, H', ⟨by have := HJ5.out; have := HK2.out; omega⟩, by repeat (first | exact Drawn0.refl _ | apply Drawn0.step)⟩
           ·rw [if_neg c27] at H
            exact absurd H (by simp)
          ·rw [if_neg c26] at H
           exact absurd H (by simp)
        ·rw [if_neg c23] at H
         have c23b0 : decide (x9_2 < x6_5) = false := decide_eq_false c23; clear c23
         obtain rfl := Option.some.inj H
         go_wp2; go_ret; exact ⟨es_, by repeat (first | exact Drawn0.refl _ | apply Drawn0.step)⟩
   ·rw [if_neg c4] at H
    exact absurd H (by simp)
  ·rw [if_neg c3] at H
   exact absurd H (by simp)

end Go.Proofs.YtdihodboopeakaaDoor.Pr
-- Written by this session's own print (wip/tools/mkmp.py) out of the translation. Lean checks it.
namespace Go.Proofs.YtdihodboopeakaaDoor.Pr
open Go.RowKit Go.Proofs.YtdihodboopeakaaDoorW.PrintWords Go.Proofs.YtdihodboopeakaaDoorW.PrintLast Go.Proofs.YtdihodboopeakaaDoorW.PrintMore
attribute [local go_sem] max2_int min2_int max_two min_two max_three min_three max_four min_four   -- for this text's walks alone
set_option linter.unusedVariables false
set_option linter.unusedSimpArgs false

set_option maxHeartbeats 8000000 in
set_option maxRecDepth 100000 in
theorem spec_l22Letter.calls (a0 : Int) (r : Bool) (w : World) (h : spec_l22Letter.f a0 = some r) :
   Calls Tryd.prog 92 #[.int .u8 a0] w fun e w' => e = .returned (.bool r) ∧ Drawn0 w w' := by
  have H : (if a0 ≥ 97 then (if a0 ≤ 122 then (some true) else (if a0 ≥ 65 then (some (decide (a0 ≤ 90))) else (some false))) else (if a0 ≥ 65 then (some (decide (a0 ≤ 90))) else (some false))) = some r := h; clear h; by_cases c2 : a0 ≥ 97
  ·rw [if_pos c2] at H
   have c2b0 : decide (97 ≤ a0) = true := decide_eq_true c2; clear c2; by_cases c3 : a0 ≤ 122
   ·rw [if_pos c3] at H
    have c3b0 : decide (a0 ≤ 122) = true := decide_eq_true c3; clear c3
    obtain rfl := Option.some.inj H
    go_enter Tryd.func92, Tryd.ntmps92; go_wp2; go_ret; exact ⟨es_, by repeat (first | exact Drawn0.refl _ | apply Drawn0.step)⟩
   ·rw [if_neg c3] at H
    have c3b0 : decide (a0 ≤ 122) = false := decide_eq_false c3; clear c3; by_cases c4 : a0 ≥ 65
    ·rw [if_pos c4] at H
     have c4b0 : decide (65 ≤ a0) = true := decide_eq_true c4; clear c4
     obtain rfl := Option.some.inj H
     go_enter Tryd.func92, Tryd.ntmps92; go_wp2; go_ret; exact ⟨es_, by repeat (first | exact Drawn0.refl _ | apply Drawn0.step)⟩
    ·rw [if_neg c4] at H
     have c4b0 : decide (65 ≤ a0) = false := decide_eq_false c4; clear c4
     obtain rfl := Option.some.inj H
     go_enter Tryd.func92, Tryd.ntmps92; go_wp2; go_ret; exact ⟨es_, by repeat (first | exact Drawn0.refl _ | apply Drawn0.step)⟩
  ·rw [if_neg c2] at H
   have c2b0 : decide (97 ≤ a0) = false := decide_eq_false c2; clear c2; by_cases c5 : a0 ≥ 65
   ·rw [if_pos c5] at H
    have c5b0 : decide (65 ≤ a0) = true := decide_eq_true c5; clear c5
    obtain rfl := Option.some.inj H
    go_enter Tryd.func92, Tryd.ntmps92; go_wp2; go_ret; exact ⟨es_, by repeat (first | exact Drawn0.refl _ | apply Drawn0.step)⟩
   ·rw [if_neg c5] at H
    have c5b0 : decide (65 ≤ a0) = false := decide_eq_false c5; clear c5
    obtain rfl := Option.some.inj H
    go_enter Tryd.func92, Tryd.ntmps92; go_wp2; go_ret; exact ⟨es_, by repeat (first | exact Drawn0.refl _ | apply Drawn0.step)⟩

set_option maxHeartbeats 8000000 in
set_option maxRecDepth 100000 in
theorem spec_l22Odd.calls (k : Nat) (a0 : ByteArray) (r1 : Int) (r2 : Int) (w : World) (h : spec_l22Odd.f k a0 = some (r1, r2)) :
   Calls Tryd.prog 67 #[.string a0] w fun e w' => e = .returned (.tuple #[.int .i64 r1, .int .i64 r2]) ∧ Drawn0 w w' := by
  have H : (spec_l22Odd.l0 k a0 0 0) = some (r1, r2) := h; clear h; have H' := Aside0.mk H; clear H; go_enter Tryd.func67, Tryd.ntmps67; go_wp2
  go_loopg [4, 5] k (fun kq v4 v5 w' => ∃ (x4_1 : Int) (x5_1 : Int), v4 = .int .i64 x4_1 ∧ v5 = .int .i64 x5_1 ∧ Aside0 (spec_l22Odd.l0 kq a0 x4_1 x5_1 = some (r1, r2)) ∧ Aside0 (kq ≤ k) ∧ Drawn0 w w')
  case atStart => exact ⟨(0), (0), es_, es_, H', ⟨Nat.le_refl _⟩, by repeat (first | exact Drawn0.refl _ | apply Drawn0.step)⟩
  case round =>
   clear H'; obtain ⟨x4_1, x5_1, rfl, rfl, HA, HK1, ⟨m1, rfl⟩⟩ := hrel
   cases gk with
   | zero => exact absurd HA.out (by simp [spec_l22Odd.l0])
   | succ k1 =>
    have H := HA.out; clear HA; simp only [spec_l22Odd.l0] at H; by_cases c2 : x5_1 < (a0.size : Int)
    ·rw [if_pos c2] at H
     have c2b0 : decide (x5_1 < (a0.size : Int)) = true := decide_eq_true c2; clear c2; replace H := Option.bind_eq_some_iff.mp H; obtain ⟨t157, A30, H⟩ := H; replace H : (if t157 = 0 then (some (x5_1, 0)) else (if t157 = 1 then (if 0 ≤ x5_1 then ((spec_l22Letter.f (bt a0 x5_1)).bind fun t158 => (if t158 = true then (spec_l22Odd.l0 k1 a0 (wrap64 (x4_1 + 1)) (wrap64 (x5_1 + t157))) else (some (x5_1, 0)))) else (none)) else (spec_l22Odd.l0 k1 a0 (wrap64 (x4_1 + 1)) (wrap64 (x5_1 + t157))))) = some (r1, r2) := H; have A3 := Aside0.mk A30; clear A30; by_cases c4 : t157 = 0
     ·rw [if_pos c4] at H
      have c4b0 : (t157 == 0) = true := beq_iff_eq.mpr c4; have c4b1 : (t157 != 0) = false := bne_eq_false_iff_eq.mpr c4; clear c4; simp only [Option.some.injEq, Prod.mk.injEq] at H; obtain ⟨rfl, rfl⟩ := H; go_wp2_with (first | ((with_reducible refine gate_callee (f := 91) rfl ?_); refine goesL_ (some 13) rfl rfl Tryd.func91 (by kernel_rfl) rfl #[.string a0, .int .i64 x5_1] rfl ls_ ?_; (with_reducible refine (spec_l22Rune.calls k1 a0 x5_1 t157 _ A3.out).mono ?_); rintro e w' ⟨rfl, ⟨nd, rfl⟩⟩; refine ⟨_, rfl, ?_⟩))
      go_ret2
      exact ⟨es_, by repeat (first | exact Drawn0.refl _ | apply Drawn0.step)⟩
     ·rw [if_neg c4] at H
      have c4b0 : (t157 == 0) = false := beq_eq_false_iff_ne.mpr c4; have c4b1 : (t157 != 0) = true := bne_iff_ne.mpr c4; by_cases c5 : t157 = 1
      ·rw [if_pos c5] at H
       have c5b0 : (t157 == 1) = true := beq_iff_eq.mpr c5; have c5b1 : (t157 != 1) = false := bne_eq_false_iff_eq.mpr c5; clear c5; by_cases c6 : 0 ≤ x5_1
       ·rw [if_pos c6] at H
        have c6b0 : decide (0 ≤ x5_1) = true := decide_eq_true c6; clear c6; replace H := Option.bind_eq_some_iff.mp H; obtain ⟨t158, A80, H⟩ := H; replace H : (if t158 = true then (spec_l22Odd.l0 k1 a0 (wrap64 (x4_1 + 1)) (wrap64 (x5_1 + t157))) else (some (x5_1, 0))) = some (r1, r2) := H; have A8 := Aside0.mk A80; clear A80; by_cases c9 : t158 = true
        ·subst c9
         rw [if_pos rfl] at H; have H' := Aside0.mk H; clear H; go_wp2_with (first | ((with_reducible refine gate_callee (f := 91) rfl ?_); refine goesL_ (some 13) rfl rfl Tryd.func91 (by kernel_rfl) rfl #[.string a0, .int .i64 x5_1] rfl ls_ ?_; (with_reducible refine (spec_l22Rune.calls k1 a0 x5_1 t157 _ A3.out).mono ?_); rintro e w' ⟨rfl, ⟨nd, rfl⟩⟩; refine ⟨_, rfl, ?_⟩; have p7 : 0 ≤ (x5_1 : Int) := of_decide_eq_true as_; have q7 : x5_1 < (a0.size : Int) := of_decide_eq_true as_; have hx7 := bt_at a0 x5_1; replace p7 := eq_true p7; replace q7 := eq_true q7) | (go_at_call 92; (with_reducible refine (spec_l22Letter.calls (bt a0 x5_1) true _ A8.out).mono ?_); rintro e w' ⟨rfl, ⟨nd, rfl⟩⟩)); go_roundg k1
         case measure => have := HK1.out; omega
         case rel => exact ⟨(wrap64 (x4_1 + 1)), (wrap64 (x5_1 + t157)), es_, es_, H', ⟨by have := HK1.out; omega⟩, by repeat (first | exact Drawn0.refl _ | apply Drawn0.step)⟩
        ·replace c9 := Bool.eq_false_iff.mpr c9
         subst c9; rw [if_neg (show ¬ (false = true) by decide)] at H; simp only [Option.some.injEq, Prod.mk.injEq] at H; obtain ⟨rfl, rfl⟩ := H; go_wp2_with (first | ((with_reducible refine gate_callee (f := 91) rfl ?_); refine goesL_ (some 13) rfl rfl Tryd.func91 (by kernel_rfl) rfl #[.string a0, .int .i64 x5_1] rfl ls_ ?_; (with_reducible refine (spec_l22Rune.calls k1 a0 x5_1 t157 _ A3.out).mono ?_); rintro e w' ⟨rfl, ⟨nd, rfl⟩⟩; refine ⟨_, rfl, ?_⟩; have p7 : 0 ≤ (x5_1 : Int) := of_decide_eq_true as_; have q7 : x5_1 < (a0.size : Int) := of_decide_eq_true as_; have hx7 := bt_at a0 x5_1; replace p7 := eq_true p7; replace q7 := eq_true q7) | (go_at_call 92; (with_reducible refine (spec_l22Letter.calls (bt a0 x5_1) false _ A8.out).mono ?_); rintro e w' ⟨rfl, ⟨nd, rfl⟩⟩))
         go_ret2
         exact ⟨es_, by repeat (first | exact Drawn0.refl _ | apply Drawn0.step)⟩
       ·rw [if_neg c6] at H
        exact absurd H (by simp)
      ·rw [if_neg c5] at H
       have c5b0 : (t157 == 1) = false := beq_eq_false_iff_ne.mpr c5; have c5b1 : (t157 != 1) = true := bne_iff_ne.mpr c5; have H' := Aside0.mk H; clear H; go_wp2_with (first | ((with_reducible refine gate_callee (f := 91) rfl ?_); refine goesL_ (some 13) rfl rfl Tryd.func91 (by kernel_rfl) rfl #[.string a0, .int .i64 x5_1] rfl ls_ ?_; (with_reducible refine (spec_l22Rune.calls k1 a0 x5_1 t157 _ A3.out).mono ?_); rintro e w' ⟨rfl, ⟨nd, rfl⟩⟩; refine ⟨_, rfl, ?_⟩)); go_roundg k1
       case measure => have := HK1.out; omega
       case rel => exact ⟨(wrap64 (x4_1 + 1)), (wrap64 (x5_1 + t157)), es_, es_, H', ⟨by have := HK1.out; omega⟩, by repeat (first | exact Drawn0.refl _ | apply Drawn0.step)⟩
    ·rw [if_neg c2] at H
     have c2b0 : decide (x5_1 < (a0.size : Int)) = false := decide_eq_false c2; clear c2; simp only [Option.some.injEq, Prod.mk.injEq] at H; obtain ⟨rfl, rfl⟩ := H; go_wp2
     go_ret2
     exact ⟨es_, by repeat (first | exact Drawn0.refl _ | apply Drawn0.step)⟩

set_option maxHeartbeats 8000000 in
set_option maxRecDepth 100000 in
theorem spec_l22Name.calls (k : Nat) (a0 : ByteArray) (r : Bool) (w : World) (h : spec_l22Name.f k a0 = some r) :
   Calls Tryd.prog 64 #[.string a0] w fun e w' => e = .returned (.bool r) ∧ Drawn0 w w' := by
  have H : ((spec_l22Odd.f k a0).bind fun bt159 => (if bt159.1 < 0 then (if bt159.2 ≥ 1 then (some (decide (bt159.2 ≤ 12))) else (some false)) else (some false))) = some r := h; clear h; replace H := Option.bind_eq_some_iff.mp H; obtain ⟨⟨t159, t160⟩, A20, H⟩ := H; replace H : (if t159 < 0 then (if t160 ≥ 1 then (some (decide (t160 ≤ 12))) else (some false)) else (some false)) = some r := H; have A2 := Aside0.mk A20; clear A20; by_cases c3 : t159 < 0
  ·rw [if_pos c3] at H
   have c3b0 : decide (t159 < 0) = true := decide_eq_true c3; clear c3; by_cases c4 : t160 ≥ 1
   ·rw [if_pos c4] at H
    have c4b0 : decide (1 ≤ t160) = true := decide_eq_true c4; clear c4
    obtain rfl := Option.some.inj H
    go_enter Tryd.func64, Tryd.ntmps64; go_wp2_with (first | ((with_reducible refine gate_callee (f := 67) rfl ?_); refine goesL_ (some 7) rfl rfl Tryd.func67 (by kernel_rfl) rfl #[.string a0] rfl ls_ ?_; (with_reducible refine (spec_l22Odd.calls k a0 t159 t160 _ A2.out).mono ?_); rintro e w' ⟨rfl, ⟨nd, rfl⟩⟩; refine ⟨_, rfl, ?_⟩)); go_ret; exact ⟨es_, by repeat (first | exact Drawn0.refl _ | apply Drawn0.step)⟩
   ·rw [if_neg c4] at H
    have c4b0 : decide (1 ≤ t160) = false := decide_eq_false c4; clear c4
    obtain rfl := Option.some.inj H
    go_enter Tryd.func64, Tryd.ntmps64; go_wp2_with (first | ((with_reducible refine gate_callee (f := 67) rfl ?_); refine goesL_ (some 7) rfl rfl Tryd.func67 (by kernel_rfl) rfl #[.string a0] rfl ls_ ?_; (with_reducible refine (spec_l22Odd.calls k a0 t159 t160 _ A2.out).mono ?_); rintro e w' ⟨rfl, ⟨nd, rfl⟩⟩; refine ⟨_, rfl, ?_⟩)); go_ret; exact ⟨es_, by repeat (first | exact Drawn0.refl _ | apply Drawn0.step)⟩
  ·rw [if_neg c3] at H
   have c3b0 : decide (t159 < 0) = false := decide_eq_false c3; clear c3
   obtain rfl := Option.some.inj H
   go_enter Tryd.func64, Tryd.ntmps64; go_wp2_with (first | ((with_reducible refine gate_callee (f := 67) rfl ?_); refine goesL_ (some 7) rfl rfl Tryd.func67 (by kernel_rfl) rfl #[.string a0] rfl ls_ ?_; (with_reducible refine (spec_l22Odd.calls k a0 t159 t160 _ A2.out).mono ?_); rintro e w' ⟨rfl, ⟨nd, rfl⟩⟩; refine ⟨_, rfl, ?_⟩)); go_ret; exact ⟨es_, by repeat (first | exact Drawn0.refl _ | apply Drawn0.step)⟩

end Go.Proofs.YtdihodboopeakaaDoor.Pr
-- Written by this session's own print (wip/tools/mkmp.py) out of the translation. Lean checks it.
namespace Go.Proofs.YtdihodboopeakaaDoor.Pr
open Go.RowKit Go.Proofs.YtdihodboopeakaaDoorW.PrintWords Go.Proofs.YtdihodboopeakaaDoorW.PrintLast Go.Proofs.YtdihodboopeakaaDoorW.PrintMore
attribute [local go_sem] max2_int min2_int max_two min_two max_three min_three max_four min_four   -- for this text's walks alone
set_option linter.unusedVariables false
set_option linter.unusedSimpArgs false

set_option maxHeartbeats 8000000 in
set_option maxRecDepth 100000 in
theorem spec_GoodBoard.calls (k : Nat) (A0_0 : Option Addr) (c0_0 : Nat) (l0_0 : List ByteArray) (A0_1 : Option Addr) (c0_1 : Nat) (l0_1 : List Bool) (A0_2 : Option Addr) (c0_2 : Nat) (l0_2 : List (List Int)) (r : Bool) (w : World) (hr0_0 : Kd.C Kd.string w A0_0 l0_0.length l0_0) (hc0_0 : l0_0.length ≤ c0_0) (hr0_1 : Kd.C Kd.bool w A0_1 l0_1.length l0_1) (hc0_1 : l0_1.length ≤ c0_1) (hr0_2 : Kd.C (Kd.slice 3 (Kd.int .i64)) w A0_2 l0_2.length l0_2) (hc0_2 : l0_2.length ≤ c0_2) (h : spec_GoodBoard.f k l0_0 l0_1 l0_2 = some r) :
   Calls Tryd.prog 27 #[.agg #[.slice A0_0 l0_0.length c0_0, .slice A0_1 l0_1.length c0_1, .slice A0_2 l0_2.length c0_2]] w fun e w' => e = .returned (.bool r) ∧ Below w.heap.size w w' := by
  have hu34 := Tryd.underlying34; have HR0_0 := Aside0.mk hr0_0; have HC0_0 := Aside0.mk hc0_0; clear hr0_0 hc0_0; have HR0_1 := Aside0.mk hr0_1; have HC0_1 := Aside0.mk hc0_1; clear hr0_1 hc0_1; have HR0_2 := Aside0.mk hr0_2; have HC0_2 := Aside0.mk hc0_2; clear hr0_2 hc0_2; have HB := Aside0.mk (Below.refl w.heap.size w); have H : (if (l0_0.length : Int) < 1 then (spec_GoodBoard.j0 k (l0_0.length : Int) true l0_0 l0_1 l0_2) else (if (l0_0.length : Int) > 14 then (spec_GoodBoard.j0 k (l0_0.length : Int) true l0_0 l0_1 l0_2) else (if (l0_1.length : Int) = (l0_0.length : Int) then (spec_GoodBoard.j0 k (l0_0.length : Int) ((l0_2.length : Int) != (l0_0.length : Int)) l0_0 l0_1 l0_2) else (spec_GoodBoard.j0 k (l0_0.length : Int) true l0_0 l0_1 l0_2)))) = some r := h; clear h; have HC2 := Aside0.mk H; clear H; go_enter Tryd.func27, Tryd.ntmps27
  go_upto_region 2 with (first | ((with_reducible refine gate_dst (N := 1) rfl ?_); (try (refine gate_guard (by rfl) ?_; dsimp only)); refine box_event ?hg (N := 1) ?hd (cs := #[.slice A0_0 l0_0.length c0_0, .slice A0_1 l0_1.length c0_1, .slice A0_2 l0_2.length c0_2]) (t := 34) ?hr ?_; (case hd => rfl); (case hg => rfl); (case hr => first | (go_simp; done) | (go_simp; rfl)); intro gb161 hg w3 hbox hb; have BK161 := Aside0.mk (hbox); have GW161 : Aside0 (w.heap.size ≤ gb161) := gz_; have GE161 : Aside0 (w.heap.size ≤ gb161) := gz_; replace HB := Aside0.mk (below_step hb_ hb); clear hb hbox hg; have hcz4_0 : w3.cell? ⟨gb161, 0, none⟩ = some (.slice A0_0 l0_0.length c0_0) := (blk_cell BK161.out 0).trans rfl; have hcz4_1 : w3.cell? ⟨gb161, 1, none⟩ = some (.slice A0_1 l0_1.length c0_1) := (blk_cell BK161.out 1).trans rfl; have hcz4_2 : w3.cell? ⟨gb161, 2, none⟩ = some (.slice A0_2 l0_2.length c0_2) := (blk_cell BK161.out 2).trans rfl; have hfz4_0 := blk_frozen BK161.out 0; have hfz4_1 := blk_frozen BK161.out 1; have hfz4_2 := blk_frozen BK161.out 2))
  (try simp only [Act.put, List.setIfInBounds_toArray, List.set_cons_zero, List.set_cons_succ])
  go_cut [30] (fun v30 wc => ∃ (kq : Nat) (x30_1 : Bool), v30 = .bool x30_1 ∧ Aside0 (spec_GoodBoard.j0 kq (l0_0.length : Int) x30_1 l0_0 l0_1 l0_2 = some r) ∧ Aside0 (kq ≤ k) ∧ Aside0 (wc.heap[gb161]? = some (.cells #[(.slice A0_0 l0_0.length c0_0), (.slice A0_1 l0_1.length c0_1), (.slice A0_2 l0_2.length c0_2)] 34 (0, 0))) ∧ Aside0 (Below w.heap.size w wc))
  case first =>
   have H := HC2.out; clear HC2; by_cases c5 : (l0_0.length : Int) < 1
   ·rw [if_pos c5] at H
    have c5b0 : decide ((l0_0.length : Int) < 1) = true := decide_eq_true c5; have c5b1 : decide (l0_0.length < 1) = true := decide_eq_true (by omega); clear c5; (first | rw [c5b0] | (simp only [i64_w, i32_w]; rw [c5b0]) | skip); have H' := Aside0.mk H; clear H; go_wp2; go_meet
    case rel => exact ⟨_, (true), es_, H', ⟨by first | omega | exact Nat.le_refl _⟩, ⟨bk_ BK161.out⟩, ⟨hb_⟩⟩
   ·rw [if_neg c5] at H
    have c5b0 : decide ((l0_0.length : Int) < 1) = false := decide_eq_false c5; have c5b1 : decide (l0_0.length < 1) = false := decide_eq_false (by omega); clear c5; (first | rw [c5b0] | (simp only [i64_w, i32_w]; rw [c5b0]) | skip); by_cases c6 : (l0_0.length : Int) > 14
    ·rw [if_pos c6] at H
     have c6b0 : decide (14 < (l0_0.length : Int)) = true := decide_eq_true c6; have c6b1 : decide (14 < l0_0.length) = true := decide_eq_true (by omega); clear c6; have H' := Aside0.mk H; clear H; go_wp2; go_meet
     case rel => exact ⟨_, (true), es_, H', ⟨by first | omega | exact Nat.le_refl _⟩, ⟨bk_ BK161.out⟩, ⟨hb_⟩⟩
    ·rw [if_neg c6] at H
     have c6b0 : decide (14 < (l0_0.length : Int)) = false := decide_eq_false c6; have c6b1 : decide (14 < l0_0.length) = false := decide_eq_false (by omega); clear c6; by_cases c7 : (l0_1.length : Int) = (l0_0.length : Int)
     ·rw [if_pos c7] at H
      have c7b0 : ((l0_1.length : Int) == (l0_0.length : Int)) = true := beq_iff_eq.mpr c7; have c7b1 : ((l0_1.length : Int) != (l0_0.length : Int)) = false := bne_eq_false_iff_eq.mpr c7; (have c7b2 : (l0_1.length == l0_0.length) = true := by first | simpa using c7 | (simp at c7 ⊢; omega)); clear c7; have H' := Aside0.mk H; clear H; have hcz8_0 : w3.cell? ⟨gb161, 0, none⟩ = some (.slice A0_0 l0_0.length c0_0) := (blk_cell BK161.out 0).trans rfl; have hcz8_1 : w3.cell? ⟨gb161, 1, none⟩ = some (.slice A0_1 l0_1.length c0_1) := (blk_cell BK161.out 1).trans rfl; have hcz8_2 : w3.cell? ⟨gb161, 2, none⟩ = some (.slice A0_2 l0_2.length c0_2) := (blk_cell BK161.out 2).trans rfl; have hfz8_0 := blk_frozen BK161.out 0; have hfz8_1 := blk_frozen BK161.out 1; have hfz8_2 := blk_frozen BK161.out 2; go_wp2; go_meet
      case rel => exact ⟨_, (((l0_2.length : Int) != (l0_0.length : Int))), es_, H', ⟨by first | omega | exact Nat.le_refl _⟩, ⟨bk_ BK161.out⟩, ⟨hb_⟩⟩
     ·rw [if_neg c7] at H
      have c7b0 : ((l0_1.length : Int) == (l0_0.length : Int)) = false := beq_eq_false_iff_ne.mpr c7; have c7b1 : ((l0_1.length : Int) != (l0_0.length : Int)) = true := bne_iff_ne.mpr c7; (have c7b2 : (l0_1.length == l0_0.length) = false := by first | simpa using c7 | (simp at c7 ⊢; omega)); have H' := Aside0.mk H; clear H; have hcz9_0 : w3.cell? ⟨gb161, 0, none⟩ = some (.slice A0_0 l0_0.length c0_0) := (blk_cell BK161.out 0).trans rfl; have hcz9_1 : w3.cell? ⟨gb161, 1, none⟩ = some (.slice A0_1 l0_1.length c0_1) := (blk_cell BK161.out 1).trans rfl; have hcz9_2 : w3.cell? ⟨gb161, 2, none⟩ = some (.slice A0_2 l0_2.length c0_2) := (blk_cell BK161.out 2).trans rfl; have hfz9_0 := blk_frozen BK161.out 0; have hfz9_1 := blk_frozen BK161.out 1; have hfz9_2 := blk_frozen BK161.out 2; go_wp2; go_meet
      case rel => exact ⟨_, (true), es_, H', ⟨by first | omega | exact Nat.le_refl _⟩, ⟨bk_ BK161.out⟩, ⟨hb_⟩⟩
  case rest =>
   clear HC2; obtain ⟨kq, x30_1, rfl, HA, HJ1, BK161, HB⟩ := hcut
   cases kq with
   | zero => exact absurd HA.out (by simp [spec_GoodBoard.j0])
   | succ kj1 =>
    have H := HA.out; clear HA; simp only [spec_GoodBoard.j0] at H; by_cases c10 : x30_1 = true
    ·subst c10
     rw [if_pos rfl] at H
     obtain rfl := Option.some.inj H
     go_wp2; go_ret; exact ⟨er_, hb_⟩
    ·replace c10 := Bool.eq_false_iff.mpr c10
     subst c10; rw [if_neg (show ¬ (false = true) by decide)] at H; have H' := Aside0.mk H; clear H; have hcz11_0 : wc.cell? ⟨gb161, 0, none⟩ = some (.slice A0_0 l0_0.length c0_0) := (blk_cell BK161.out 0).trans rfl; have hcz11_1 : wc.cell? ⟨gb161, 1, none⟩ = some (.slice A0_1 l0_1.length c0_1) := (blk_cell BK161.out 1).trans rfl; have hcz11_2 : wc.cell? ⟨gb161, 2, none⟩ = some (.slice A0_2 l0_2.length c0_2) := (blk_cell BK161.out 2).trans rfl; have hfz11_0 := blk_frozen BK161.out 0; have hfz11_1 := blk_frozen BK161.out 1; have hfz11_2 := blk_frozen BK161.out 2; go_wp2
     go_loopg [34] kj1 (fun kq v34 w' => ∃ (x34_2 : Int), v34 = .int .i64 x34_2 ∧ Aside0 (spec_GoodBoard.l0 kq (l0_0.length : Int) l0_0 (l0_0.length : Int) x34_2 l0_0 l0_1 l0_2 = some r) ∧ Aside0 (kq ≤ kj1) ∧ Aside0 (w'.heap[gb161]? = some (.cells #[(.slice A0_0 l0_0.length c0_0), (.slice A0_1 l0_1.length c0_1), (.slice A0_2 l0_2.length c0_2)] 34 (0, 0))) ∧ Aside0 (Below w.heap.size w w'))
     case atStart => exact ⟨(0), es_, H', ⟨Nat.le_refl _⟩, ⟨bk_ BK161.out⟩, ⟨hb_⟩⟩
     case round =>
      clear H'; obtain ⟨x34_2, rfl, HA, HK2, BK161, HB⟩ := hrel
      cases gk with
      | zero => exact absurd HA.out (by simp [spec_GoodBoard.l0])
      | succ k2 =>
       have H := HA.out; clear HA; simp only [spec_GoodBoard.l0] at H; by_cases c12 : x34_2 < (l0_0.length : Int)
       ·rw [if_pos c12] at H
        have c12b0 : decide (x34_2 < (l0_0.length : Int)) = true := decide_eq_true c12; clear c12; by_cases c13 : 0 ≤ x34_2
        ·rw [if_pos c13] at H
         have c13b0 : decide (0 ≤ x34_2) = true := decide_eq_true c13; clear c13; by_cases c14 : x34_2 < (l0_0.length : Int)
         ·rw [if_pos c14] at H
          have c14b0 : decide (x34_2 < (l0_0.length : Int)) = true := decide_eq_true c14; clear c14; have HC15 := Aside0.mk H; clear H; have p162 : 0 ≤ (x34_2 : Int) := of_decide_eq_true as_; have q162 : x34_2 < (l0_0.length : Int) := of_decide_eq_true as_; obtain ⟨ad162, e162, hx162_0⟩ := Kd.at_string HR0_0.out x34_2 p162 q162; cases e162; replace hx162_0 := hc_ HB hx162_0; replace p162 := eq_true p162; replace q162 := eq_true q162
          go_upto_region 7 with (fail)
          go_cut [45] (fun v45 wc => ∃ (kq : Nat) (x45_14 : Bool), v45 = .bool x45_14 ∧ Aside0 (spec_GoodBoard.j2 kq (l0_0.length : Int) x34_2 l0_0 (l0_0.length : Int) x34_2 x45_14 l0_0 l0_1 l0_2 = some r) ∧ Aside0 (kq ≤ k2) ∧ Aside0 (wc.heap[gb161]? = some (.cells #[(.slice (some ad162) l0_0.length c0_0), (.slice A0_1 l0_1.length c0_1), (.slice A0_2 l0_2.length c0_2)] 34 (0, 0))) ∧ Aside0 (Below w.heap.size w wc))
          case first =>
           have H := HC15.out; clear HC15; by_cases c16 : (rdOf ByteArray.empty l0_0 x34_2).toList = ([] : List UInt8)
           ·rw [if_pos c16] at H
            have c16b0 : ((rdOf ByteArray.empty l0_0 x34_2).toList == ([] : List UInt8)) = true := beq_iff_eq.mpr c16; have c16b1 : ((rdOf ByteArray.empty l0_0 x34_2).toList != ([] : List UInt8)) = false := bne_eq_false_iff_eq.mpr c16; clear c16; (first | rw [c16b0] | (simp only [i64_w, i32_w]; rw [c16b0]) | skip); have H' := Aside0.mk H; clear H; go_wp2; go_meet
            case rel => exact ⟨_, (false), es_, H', ⟨by have := HJ1.out; have := HK2.out; first | omega | exact Nat.le_refl _⟩, ⟨bk_ BK161.out⟩, ⟨hb_⟩⟩
           ·rw [if_neg c16] at H
            have c16b0 : ((rdOf ByteArray.empty l0_0 x34_2).toList == ([] : List UInt8)) = false := beq_eq_false_iff_ne.mpr c16; have c16b1 : ((rdOf ByteArray.empty l0_0 x34_2).toList != ([] : List UInt8)) = true := bne_iff_ne.mpr c16; (first | rw [c16b0] | (simp only [i64_w, i32_w]; rw [c16b0]) | skip); replace H := Option.bind_eq_some_iff.mp H; obtain ⟨t163, A170, H⟩ := H; replace H : (spec_GoodBoard.j2 k2 (l0_0.length : Int) x34_2 l0_0 (l0_0.length : Int) x34_2 (!t163) l0_0 l0_1 l0_2) = some r := H; have A17 := Aside0.mk A170; clear A170; have H' := Aside0.mk H; clear H; go_wp2_with (first | (go_at_call 64; (with_reducible refine (spec_l22Name.calls k2 (rdOf ByteArray.empty l0_0 x34_2) t163 _ A17.out).mono ?_); rintro e w' ⟨rfl, ⟨nd, rfl⟩⟩)); go_meet
            case rel => exact ⟨_, (!t163), es_, H', ⟨by have := HJ1.out; have := HK2.out; first | omega | exact Nat.le_refl _⟩, ⟨bk_ BK161.out⟩, ⟨hb_⟩⟩
          case rest =>
           clear HC15; obtain ⟨kq, x45_14, rfl, HA, HJ14, BK161, HB⟩ := hcut
           cases kq with
           | zero => exact absurd HA.out (by simp [spec_GoodBoard.j2])
           | succ kj14 =>
            have H := HA.out; clear HA; simp only [spec_GoodBoard.j2] at H; by_cases c18 : x45_14 = true
            ·subst c18
             rw [if_pos rfl] at H
             obtain rfl := Option.some.inj H
             go_wp2; go_ret; exact ⟨er_, hb_⟩
            ·replace c18 := Bool.eq_false_iff.mpr c18
             subst c18; rw [if_neg (show ¬ (false = true) by decide)] at H; by_cases c19 : 0 ≤ x34_2
             ·rw [if_pos c19] at H
              have c19b0 : decide (0 ≤ x34_2) = true := decide_eq_true c19; clear c19; by_cases c20 : x34_2 < (l0_2.length : Int)
              ·rw [if_pos c20] at H
               have c20b0 : decide (x34_2 < (l0_2.length : Int)) = true := decide_eq_true c20; clear c20; have H' := Aside0.mk H; clear H; have hcz21_0 : wc.cell? ⟨gb161, 0, none⟩ = some (.slice (some ad162) l0_0.length c0_0) := (blk_cell BK161.out 0).trans rfl; have hcz21_1 : wc.cell? ⟨gb161, 1, none⟩ = some (.slice A0_1 l0_1.length c0_1) := (blk_cell BK161.out 1).trans rfl; have hcz21_2 : wc.cell? ⟨gb161, 2, none⟩ = some (.slice A0_2 l0_2.length c0_2) := (blk_cell BK161.out 2).trans rfl; have hfz21_0 := blk_frozen BK161.out 0; have hfz21_1 := blk_frozen BK161.out 1; have hfz21_2 := blk_frozen BK161.out 2; have p164 : 0 ≤ (x34_2 : Int) := of_decide_eq_true as_; have q164 : x34_2 < (l0_2.length : Int) := of_decide_eq_true as_; obtain ⟨ad164, A164_0, c164_0, e164, hx164_0, hl164_0, hi164_0⟩ := at_L3 HR0_2.out x34_2 p164 q164; cases e164; replace hx164_0 := hc_ HB hx164_0; have HR164_0 := Aside0.mk hi164_0; have HC164_0 := Aside0.mk hl164_0; clear hi164_0 hl164_0; replace p164 := eq_true p164; replace q164 := eq_true q164; go_wp2
               go_loopg [52] kj14 (fun kq v52 w' => ∃ (x52_4 : Int), v52 = .int .i64 x52_4 ∧ Aside0 (spec_GoodBoard.l1 kq (l0_0.length : Int) x34_2 l0_0 (l0_0.length : Int) x34_2 (rd_L3 l0_2 x34_2) ((rd_L3 l0_2 x34_2).length : Int) x52_4 l0_0 l0_1 l0_2 = some r) ∧ Aside0 (kq ≤ kj14) ∧ Aside0 (w'.heap[gb161]? = some (.cells #[(.slice (some ad162) l0_0.length c0_0), (.slice A0_1 l0_1.length c0_1), (.slice (some ad164) l0_2.length c0_2)] 34 (0, 0))) ∧ Aside0 (Below w.heap.size w w'))
               case atStart => exact ⟨(0), es_, H', ⟨Nat.le_refl _⟩, ⟨bk_ BK161.out⟩, ⟨hb_⟩⟩
               case round =>
                clear H'; obtain ⟨x52_4, rfl, HA, HK4, BK161, HB⟩ := hrel
                cases gk with
                | zero => exact absurd HA.out (by simp [spec_GoodBoard.l1])
                | succ k4 =>
                 have H := HA.out; clear HA; simp only [spec_GoodBoard.l1] at H; by_cases c22 : x52_4 < ((rd_L3 l0_2 x34_2).length : Int)
                 ·rw [if_pos c22] at H
                  have c22b0 : decide (x52_4 < ((rd_L3 l0_2 x34_2).length : Int)) = true := decide_eq_true c22; clear c22; by_cases c23 : 0 ≤ x52_4
                  ·rw [if_pos c23] at H
                   have c23b0 : decide (0 ≤ x52_4) = true := decide_eq_true c23; clear c23; by_cases c24 : x52_4 < ((rd_L3 l0_2 x34_2).length : Int)
                   ·rw [if_pos c24] at H
                    have c24b0 : decide (x52_4 < ((rd_L3 l0_2 x34_2).length : Int)) = true := decide_eq_true c24; clear c24; by_cases c25 : (rd (rd_L3 l0_2 x34_2) x52_4) < 0
                    ·rw [if_pos c25] at H
                     have c25b0 : decide ((rd (rd_L3 l0_2 x34_2) x52_4) < 0) = true := decide_eq_true c25; clear c25
                     obtain rfl := Option.some.inj H
                     have p165 : 0 ≤ (x52_4 : Int) := of_decide_eq_true as_; have q165 : x52_4 < ((rd_L3 l0_2 x34_2).length : Int) := of_decide_eq_true as_; obtain ⟨ad165, e165, hx165_0⟩ := Kd.at_int HR164_0.out x52_4 p165 q165; cases e165; replace hx165_0 := hc_ HB hx165_0; replace p165 := eq_true p165; replace q165 := eq_true q165; go_wp2; go_ret; exact ⟨er_, hb_⟩
                    ·rw [if_neg c25] at H
                     have c25b0 : decide ((rd (rd_L3 l0_2 x34_2) x52_4) < 0) = false := decide_eq_false c25; clear c25; by_cases c26 : (rd (rd_L3 l0_2 x34_2) x52_4) ≥ (l0_0.length : Int)
                     ·rw [if_pos c26] at H
                      have c26b0 : decide ((l0_0.length : Int) ≤ (rd (rd_L3 l0_2 x34_2) x52_4)) = true := decide_eq_true c26; clear c26
                      obtain rfl := Option.some.inj H
                      have p165 : 0 ≤ (x52_4 : Int) := of_decide_eq_true as_; have q165 : x52_4 < ((rd_L3 l0_2 x34_2).length : Int) := of_decide_eq_true as_; obtain ⟨ad165, e165, hx165_0⟩ := Kd.at_int HR164_0.out x52_4 p165 q165; cases e165; replace hx165_0 := hc_ HB hx165_0; replace p165 := eq_true p165; replace q165 := eq_true q165; go_wp2; go_ret; exact ⟨er_, hb_⟩
                     ·rw [if_neg c26] at H
                      have c26b0 : decide ((l0_0.length : Int) ≤ (rd (rd_L3 l0_2 x34_2) x52_4)) = false := decide_eq_false c26; clear c26; by_cases c27 : x52_4 > 0
                      ·rw [if_pos c27] at H
                       have c27b0 : decide (0 < x52_4) = true := decide_eq_true c27; clear c27; by_cases c28 : 0 ≤ x34_2
                       ·rw [if_pos c28] at H
                        have c28b0 : decide (0 ≤ x34_2) = true := decide_eq_true c28; clear c28; by_cases c29 : x34_2 < (l0_2.length : Int)
                        ·rw [if_pos c29] at H
                         have c29b0 : decide (x34_2 < (l0_2.length : Int)) = true := decide_eq_true c29; clear c29; obtain ⟨ji30, hji30⟩ : ∃ j_ : Int, (wrap64 (x52_4 - 1)) = j_ := ⟨_, rfl⟩; (replace H : (if 0 ≤ (ji30) then (if (ji30) < ((rd_L3 l0_2 x34_2).length : Int) then (if (rd (rd_L3 l0_2 x34_2) (ji30)) ≥ (rd (rd_L3 l0_2 x34_2) x52_4) then (some false) else (spec_GoodBoard.l1 k4 (l0_0.length : Int) x34_2 l0_0 (l0_0.length : Int) x34_2 (rd_L3 l0_2 x34_2) ((rd_L3 l0_2 x34_2).length : Int) (wrap64 (x52_4 + 1)) l0_0 l0_1 l0_2)) else (none)) else (none)) = some r := by first | (rw [hji30] at H; exact H) | (simp only [hji30] at H ⊢; exact H)); have hji30w : (IntKind.i64.wrap (x52_4 - 1)) = ji30 := (i64_w _).trans hji30; by_cases c31 : 0 ≤ (ji30)
                         ·rw [if_pos c31] at H
                          have c31b0 : decide (0 ≤ (ji30)) = true := decide_eq_true c31; clear c31; by_cases c32 : (ji30) < ((rd_L3 l0_2 x34_2).length : Int)
                          ·rw [if_pos c32] at H
                           have c32b0 : decide ((ji30) < ((rd_L3 l0_2 x34_2).length : Int)) = true := decide_eq_true c32; clear c32; by_cases c33 : (rd (rd_L3 l0_2 x34_2) (ji30)) ≥ (rd (rd_L3 l0_2 x34_2) x52_4)
                           ·rw [if_pos c33] at H
                            have c33b0 : decide ((rd (rd_L3 l0_2 x34_2) x52_4) ≤ (rd (rd_L3 l0_2 x34_2) (ji30))) = true := decide_eq_true c33; clear c33
                            obtain rfl := Option.some.inj H
                            have p165 : 0 ≤ (x52_4 : Int) := of_decide_eq_true as_; have q165 : x52_4 < ((rd_L3 l0_2 x34_2).length : Int) := of_decide_eq_true as_; obtain ⟨ad165, e165, hx165_0⟩ := Kd.at_int HR164_0.out x52_4 p165 q165; cases e165; replace hx165_0 := hc_ HB hx165_0; replace p165 := eq_true p165; replace q165 := eq_true q165; have hcz34_0 : wr.cell? ⟨gb161, 0, none⟩ = some (.slice (some ad162) l0_0.length c0_0) := (blk_cell BK161.out 0).trans rfl; have hcz34_1 : wr.cell? ⟨gb161, 1, none⟩ = some (.slice A0_1 l0_1.length c0_1) := (blk_cell BK161.out 1).trans rfl; have hcz34_2 : wr.cell? ⟨gb161, 2, none⟩ = some (.slice (some ad164) l0_2.length c0_2) := (blk_cell BK161.out 2).trans rfl; have hfz34_0 := blk_frozen BK161.out 0; have hfz34_1 := blk_frozen BK161.out 1; have hfz34_2 := blk_frozen BK161.out 2; have p166 : 0 ≤ (x34_2 : Int) := of_decide_eq_true as_; have q166 : x34_2 < (l0_2.length : Int) := of_decide_eq_true as_; obtain ⟨ad166, A166_0, c166_0, e166, hx166_0, hl166_0, hi166_0⟩ := at_L3 HR0_2.out x34_2 p166 q166
                            obtain rfl : ad164 = ad166 := (by injection e166)
                            replace hx166_0 := hc_ HB hx166_0; have HR166_0 := Aside0.mk hi166_0; have HC166_0 := Aside0.mk hl166_0; clear hi166_0 hl166_0; replace p166 := eq_true p166; replace q166 := eq_true q166; have p167 : 0 ≤ ((ji30) : Int) := of_decide_eq_true as_; have q167 : (ji30) < ((rd_L3 l0_2 x34_2).length : Int) := of_decide_eq_true as_; obtain ⟨ad167, e167, hx167_0⟩ := Kd.at_int HR166_0.out (ji30) p167 q167; cases e167; replace hx167_0 := hc_ HB hx167_0; replace p167 := eq_true p167; replace q167 := eq_true q167; go_wp2; go_ret; exact ⟨by first | rfl | (simp [errW_none, errW_some] <;> rfl) | (simp only [← hji30]; first | rfl | (simp [errW_none, errW_some] <;> rfl)) | (simp [*, errW_none, errW_some] <;> rfl), hb_⟩
                           ·rw [if_neg c33] at H
                            have c33b0 : decide ((rd (rd_L3 l0_2 x34_2) x52_4) ≤ (rd (rd_L3 l0_2 x34_2) (ji30))) = false := decide_eq_false c33; clear c33; have H' := Aside0.mk H; clear H; have p165 : 0 ≤ (x52_4 : Int) := of_decide_eq_true as_; have q165 : x52_4 < ((rd_L3 l0_2 x34_2).length : Int) := of_decide_eq_true as_; obtain ⟨ad165, e165, hx165_0⟩ := Kd.at_int HR164_0.out x52_4 p165 q165; cases e165; replace hx165_0 := hc_ HB hx165_0; replace p165 := eq_true p165; replace q165 := eq_true q165; have hcz35_0 : wr.cell? ⟨gb161, 0, none⟩ = some (.slice (some ad162) l0_0.length c0_0) := (blk_cell BK161.out 0).trans rfl; have hcz35_1 : wr.cell? ⟨gb161, 1, none⟩ = some (.slice A0_1 l0_1.length c0_1) := (blk_cell BK161.out 1).trans rfl; have hcz35_2 : wr.cell? ⟨gb161, 2, none⟩ = some (.slice (some ad164) l0_2.length c0_2) := (blk_cell BK161.out 2).trans rfl; have hfz35_0 := blk_frozen BK161.out 0; have hfz35_1 := blk_frozen BK161.out 1; have hfz35_2 := blk_frozen BK161.out 2; have p166 : 0 ≤ (x34_2 : Int) := of_decide_eq_true as_; have q166 : x34_2 < (l0_2.length : Int) := of_decide_eq_true as_; obtain ⟨ad166, A166_0, c166_0, e166, hx166_0, hl166_0, hi166_0⟩ := at_L3 HR0_2.out x34_2 p166 q166
                            obtain rfl : ad164 = ad166 := (by injection e166)
                            replace hx166_0 := hc_ HB hx166_0; have HR166_0 := Aside0.mk hi166_0; have HC166_0 := Aside0.mk hl166_0; clear hi166_0 hl166_0; replace p166 := eq_true p166; replace q166 := eq_true q166; have p167 : 0 ≤ ((ji30) : Int) := of_decide_eq_true as_; have q167 : (ji30) < ((rd_L3 l0_2 x34_2).length : Int) := of_decide_eq_true as_; obtain ⟨ad167, e167, hx167_0⟩ := Kd.at_int HR166_0.out (ji30) p167 q167; cases e167; replace hx167_0 := hc_ HB hx167_0; replace p167 := eq_true p167; replace q167 := eq_true q167; go_wp2; go_roundg k4
                            case measure => have := HJ1.out; have := HK2.out; have := HJ14.out; have := HK4.out; omega
                            case rel => exact ⟨(wrap64 (x52_4 + 1)), es_, H', ⟨by have := HJ1.out; have := HK2.out; have := HJ14.out; have := HK4.out; omega⟩, ⟨bk_ BK161.out⟩, ⟨hb_⟩⟩
                          ·rw [if_neg c32] at H
                           exact absurd H (by simp)
                         ·rw [if_neg c31] at H
                          exact absurd H (by simp)
                        ·rw [if_neg c29] at H
                         exact absurd H (by simp)
                       ·rw [if_neg c28] at H
                        exact absurd H (by simp)
                      ·rw [if_neg c27] at H
                       have c27b0 : decide (0 < x52_4) = false := decide_eq_false c27; clear c27; have H' := Aside0.mk H; clear H; have p165 : 0 ≤ (x52_4 : Int) := of_decide_eq_true as_; have q165 : x52_4 < ((rd_L3 l0_2 x34_2).length : Int) := of_decide_eq_true as_; obtain ⟨ad165, e165, hx165_0⟩ := Kd.at_int HR164_0.out x52_4 p165 q165; cases e165; replace hx165_0 := hc_ HB hx165_0; replace p165 := eq_true p165; replace q165 := eq_true q165; go_wp2; go_roundg k4
                       case measure => have := HJ1.out; have := HK2.out; have := HJ14.out; have := HK4.out; omega
                       case rel => exact ⟨(wrap64 (x52_4 + 1)), es_, H', ⟨by have := HJ1.out; have := HK2.out; have := HJ14.out; have := HK4.out; omega⟩, ⟨bk_ BK161.out⟩, ⟨hb_⟩⟩
                   ·rw [if_neg c24] at H
                    exact absurd H (by simp)
                  ·rw [if_neg c23] at H
                   exact absurd H (by simp)
                 ·rw [if_neg c22] at H
                  have c22b0 : decide (x52_4 < ((rd_L3 l0_2 x34_2).length : Int)) = false := decide_eq_false c22; clear c22; have H' := Aside0.mk H; clear H; go_wp2; go_roundg k4
                  case measure => have := HJ1.out; have := HK2.out; have := HJ14.out; have := HK4.out; omega
                  case rel => exact ⟨(wrap64 (x34_2 + 1)), es_, H', ⟨by have := HJ1.out; have := HK2.out; have := HJ14.out; have := HK4.out; omega⟩, ⟨bk_ BK161.out⟩, ⟨hb_⟩⟩
              ·rw [if_neg c20] at H
               exact absurd H (by simp)
             ·rw [if_neg c19] at H
              exact absurd H (by simp)
         ·rw [if_neg c14] at H
          exact absurd H (by simp)
        ·rw [if_neg c13] at H
         exact absurd H (by simp)
       ·rw [if_neg c12] at H
        have c12b0 : decide (x34_2 < (l0_0.length : Int)) = false := decide_eq_false c12; clear c12
        obtain rfl := Option.some.inj H
        go_wp2; go_ret; exact ⟨er_, hb_⟩

end Go.Proofs.YtdihodboopeakaaDoor.Pr
-- Written by this session's own print (wip/tools/mkmp.py) out of the translation. Lean checks it.
namespace Go.Proofs.YtdihodboopeakaaDoor.Pr
open Go.RowKit Go.Proofs.YtdihodboopeakaaDoorW.PrintWords Go.Proofs.YtdihodboopeakaaDoorW.PrintLast Go.Proofs.YtdihodboopeakaaDoorW.PrintMore
attribute [local go_sem] max2_int min2_int max_two min_two max_three min_three max_four min_four   -- for this text's walks alone
set_option linter.unusedVariables false
set_option linter.unusedSimpArgs false

set_option maxHeartbeats 8000000 in
set_option maxRecDepth 100000 in
theorem spec_l22Names.calls (k : Nat) (A0 : Option Addr) (c0 : Nat) (l0 : List ByteArray) (r : Bool) (w : World) (hr0 : Kd.C Kd.string w A0 l0.length l0) (hc0 : l0.length ≤ c0) (h : spec_l22Names.f k l0 = some r) :
   Calls Tryd.prog 87 #[.slice A0 l0.length c0] w fun e w' => e = .returned (.bool r) ∧ Drawn0 w w' := by
  have HR0 := Aside0.mk hr0; have HC0 := Aside0.mk hc0; clear hr0 hc0; have H : (if (l0.length : Int) > 6 then (some false) else (spec_l22Names.l0 k l0 l0 (l0.length : Int) 0)) = some r := h; clear h; by_cases c2 : (l0.length : Int) > 6
  ·rw [if_pos c2] at H
   have c2b0 : decide (6 < (l0.length : Int)) = true := decide_eq_true c2; have c2b1 : decide (6 < l0.length) = true := decide_eq_true (by omega); clear c2
   obtain rfl := Option.some.inj H
   go_enter Tryd.func87, Tryd.ntmps87; go_wp2; go_ret; exact ⟨es_, by repeat (first | exact Drawn0.refl _ | apply Drawn0.step)⟩
  ·rw [if_neg c2] at H
   have c2b0 : decide (6 < (l0.length : Int)) = false := decide_eq_false c2; have c2b1 : decide (6 < l0.length) = false := decide_eq_false (by omega); clear c2; have H' := Aside0.mk H; clear H; go_enter Tryd.func87, Tryd.ntmps87; go_wp2
   go_loopg [10] k (fun kq v10 w' => ∃ (x10_1 : Int), v10 = .int .i64 x10_1 ∧ Aside0 (spec_l22Names.l0 kq l0 l0 (l0.length : Int) x10_1 = some r) ∧ Aside0 (kq ≤ k) ∧ Drawn0 w w')
   case atStart => exact ⟨(0), es_, H', ⟨Nat.le_refl _⟩, by repeat (first | exact Drawn0.refl _ | apply Drawn0.step)⟩
   case round =>
    clear H'; obtain ⟨x10_1, rfl, HA, HK1, ⟨m1, rfl⟩⟩ := hrel
    cases gk with
    | zero => exact absurd HA.out (by simp [spec_l22Names.l0])
    | succ k1 =>
     have H := HA.out; clear HA; simp only [spec_l22Names.l0] at H; by_cases c3 : x10_1 < (l0.length : Int)
     ·rw [if_pos c3] at H
      have c3b0 : decide (x10_1 < (l0.length : Int)) = true := decide_eq_true c3; clear c3; by_cases c4 : 0 ≤ x10_1
      ·rw [if_pos c4] at H
       have c4b0 : decide (0 ≤ x10_1) = true := decide_eq_true c4; clear c4; by_cases c5 : x10_1 < (l0.length : Int)
       ·rw [if_pos c5] at H
        have c5b0 : decide (x10_1 < (l0.length : Int)) = true := decide_eq_true c5; clear c5; replace H := Option.bind_eq_some_iff.mp H; obtain ⟨t228, A60, H⟩ := H; replace H : (if t228 = true then (if x10_1 ≤ (l0.length : Int) then ((spec_l22In.f k1 (l0.take (x10_1 : Int).toNat) (rdOf ByteArray.empty l0 x10_1)).bind fun t230 => (if t230 = true then (some false) else (spec_l22Names.l0 k1 l0 l0 (l0.length : Int) (wrap64 (x10_1 + 1))))) else (none)) else (some false)) = some r := H; have A6 := Aside0.mk A60; clear A60; by_cases c7 : t228 = true
        ·subst c7
         rw [if_pos rfl] at H; have c8b0 := eq_true (of_decide_eq_true as_ : 0 ≤ x10_1); by_cases c9 : x10_1 ≤ (l0.length : Int)
         ·rw [if_pos c9] at H
          have c9b0 := eq_true c9; have c9b1 : decide (x10_1 ≤ (l0.length : Int)) = true := decide_eq_true c9; clear c9; replace H := Option.bind_eq_some_iff.mp H; obtain ⟨t230, A100, H⟩ := H; replace H : (if t230 = true then (some false) else (spec_l22Names.l0 k1 l0 l0 (l0.length : Int) (wrap64 (x10_1 + 1)))) = some r := H; have A10 := Aside0.mk A100; clear A100; by_cases c11 : t230 = true
          ·subst c11
           rw [if_pos rfl] at H
           obtain rfl := Option.some.inj H
           have p227 : 0 ≤ (x10_1 : Int) := of_decide_eq_true as_; have q227 : x10_1 < (l0.length : Int) := of_decide_eq_true as_; obtain ⟨ad227, e227, hx227_0⟩ := Kd.at_string HR0.out x10_1 p227 q227; cases e227; replace p227 := eq_true p227; replace q227 := eq_true q227; go_wp2_with (first | ((with_reducible refine gate_callee (f := 64) rfl ?_); refine goesL_ (some 16) rfl rfl Tryd.func64 (by kernel_rfl) rfl #[.string (rdOf ByteArray.empty l0 x10_1)] rfl ls_ ?_; (with_reducible refine (spec_l22Name.calls k1 (rdOf ByteArray.empty l0 x10_1) true _ A6.out).mono ?_); rintro e w' ⟨rfl, ⟨nd, rfl⟩⟩; refine ⟨_, rfl, ?_⟩; obtain ⟨i012, hi012, _, hsz12, _⟩ := info_parts info9; obtain ⟨hcut12, hA12, hC12⟩ := print_take_of (P := Tryd.prog) Value.string (⟨#[]⟩ : ByteArray) 22 9 .i64 Tryd.underlying22 hi012 hsz12 (some ad227) c0 l0 x10_1 (of_decide_eq_true as_) (of_decide_eq_true as_) HC0.out; have HR229 := Aside0.mk (Kd.C_of_reads (h1 := fun _ => rfl) (hA12 _ (Kd.reads_of_C HR0.out))); have HC229 := Aside0.mk hC12; clear hA12 hC12 hi012 hsz12) | (go_at_call 68; refine calls_of_args (args' := #[.slice (some ad227) (l0.take (x10_1 : Int).toNat).length c0, .string (rdOf ByteArray.empty l0 x10_1)]) (by first | (rw [show (l0.take (x10_1 : Int).toNat).length = x10_1.toNat from (by rw [List.length_take]; have h_ : (x10_1 : Int) ≤ (l0.length : Int) := of_decide_eq_true as_; omega)] <;> rfl) | rfl) ?_; (with_reducible refine (spec_l22In.calls k1 _ _ (l0.take (x10_1 : Int).toNat) (rdOf ByteArray.empty l0 x10_1) true _ ?side1 ?side2 A10.out).mono ?_); (case side1 => repeat (first | exact HR229.out | (with_reducible refine Kd.C_alloc ?_ _) | (with_reducible refine Kd.C_drewN ?_ _) | (with_reducible refine Kd.C_drew ?_))); (case side2 => exact HC229.out); rintro e w' ⟨rfl, ⟨nd, rfl⟩⟩)); go_ret; exact ⟨es_, by repeat (first | exact Drawn0.refl _ | apply Drawn0.step)⟩
          ·replace c11 := Bool.eq_false_iff.mpr c11
           subst c11; rw [if_neg (show ¬ (false = true) by decide)] at H; have H' := Aside0.mk H; clear H; have p227 : 0 ≤ (x10_1 : Int) := of_decide_eq_true as_; have q227 : x10_1 < (l0.length : Int) := of_decide_eq_true as_; obtain ⟨ad227, e227, hx227_0⟩ := Kd.at_string HR0.out x10_1 p227 q227; cases e227; replace p227 := eq_true p227; replace q227 := eq_true q227; go_wp2_with (first | ((with_reducible refine gate_callee (f := 64) rfl ?_); refine goesL_ (some 16) rfl rfl Tryd.func64 (by kernel_rfl) rfl #[.string (rdOf ByteArray.empty l0 x10_1)] rfl ls_ ?_; (with_reducible refine (spec_l22Name.calls k1 (rdOf ByteArray.empty l0 x10_1) true _ A6.out).mono ?_); rintro e w' ⟨rfl, ⟨nd, rfl⟩⟩; refine ⟨_, rfl, ?_⟩; obtain ⟨i013, hi013, _, hsz13, _⟩ := info_parts info9; obtain ⟨hcut13, hA13, hC13⟩ := print_take_of (P := Tryd.prog) Value.string (⟨#[]⟩ : ByteArray) 22 9 .i64 Tryd.underlying22 hi013 hsz13 (some ad227) c0 l0 x10_1 (of_decide_eq_true as_) (of_decide_eq_true as_) HC0.out; have HR229 := Aside0.mk (Kd.C_of_reads (h1 := fun _ => rfl) (hA13 _ (Kd.reads_of_C HR0.out))); have HC229 := Aside0.mk hC13; clear hA13 hC13 hi013 hsz13) | (go_at_call 68; refine calls_of_args (args' := #[.slice (some ad227) (l0.take (x10_1 : Int).toNat).length c0, .string (rdOf ByteArray.empty l0 x10_1)]) (by first | (rw [show (l0.take (x10_1 : Int).toNat).length = x10_1.toNat from (by rw [List.length_take]; have h_ : (x10_1 : Int) ≤ (l0.length : Int) := of_decide_eq_true as_; omega)] <;> rfl) | rfl) ?_; (with_reducible refine (spec_l22In.calls k1 _ _ (l0.take (x10_1 : Int).toNat) (rdOf ByteArray.empty l0 x10_1) false _ ?side1 ?side2 A10.out).mono ?_); (case side1 => repeat (first | exact HR229.out | (with_reducible refine Kd.C_alloc ?_ _) | (with_reducible refine Kd.C_drewN ?_ _) | (with_reducible refine Kd.C_drew ?_))); (case side2 => exact HC229.out); rintro e w' ⟨rfl, ⟨nd, rfl⟩⟩)); go_roundg k1
           case measure => have := HK1.out; omega
           case rel => exact ⟨(wrap64 (x10_1 + 1)), es_, H', ⟨by have := HK1.out; omega⟩, by repeat (first | exact Drawn0.refl _ | apply Drawn0.step)⟩
         ·rw [if_neg c9] at H
          exact absurd H (by simp)
        ·replace c7 := Bool.eq_false_iff.mpr c7
         subst c7; rw [if_neg (show ¬ (false = true) by decide)] at H
         obtain rfl := Option.some.inj H
         have p227 : 0 ≤ (x10_1 : Int) := of_decide_eq_true as_; have q227 : x10_1 < (l0.length : Int) := of_decide_eq_true as_; obtain ⟨ad227, e227, hx227_0⟩ := Kd.at_string HR0.out x10_1 p227 q227; cases e227; replace p227 := eq_true p227; replace q227 := eq_true q227; go_wp2_with (first | ((with_reducible refine gate_callee (f := 64) rfl ?_); refine goesL_ (some 16) rfl rfl Tryd.func64 (by kernel_rfl) rfl #[.string (rdOf ByteArray.empty l0 x10_1)] rfl ls_ ?_; (with_reducible refine (spec_l22Name.calls k1 (rdOf ByteArray.empty l0 x10_1) false _ A6.out).mono ?_); rintro e w' ⟨rfl, ⟨nd, rfl⟩⟩; refine ⟨_, rfl, ?_⟩)); go_ret; exact ⟨es_, by repeat (first | exact Drawn0.refl _ | apply Drawn0.step)⟩
       ·rw [if_neg c5] at H
        exact absurd H (by simp)
      ·rw [if_neg c4] at H
       exact absurd H (by simp)
     ·rw [if_neg c3] at H
      have c3b0 : decide (x10_1 < (l0.length : Int)) = false := decide_eq_false c3; clear c3
      obtain rfl := Option.some.inj H
      go_wp2; go_ret; exact ⟨es_, by repeat (first | exact Drawn0.refl _ | apply Drawn0.step)⟩

set_option maxHeartbeats 8000000 in
set_option maxRecDepth 100000 in
theorem spec_l22Good.calls (k : Nat) (A0_0 : Option Addr) (c0_0 : Nat) (l0_0 : List ByteArray) (A0_1 : Option Addr) (c0_1 : Nat) (l0_1 : List ByteArray) (r : Bool) (w : World) (hr0_0 : Kd.C Kd.string w A0_0 l0_0.length l0_0) (hc0_0 : l0_0.length ≤ c0_0) (hr0_1 : Kd.C Kd.string w A0_1 l0_1.length l0_1) (hc0_1 : l0_1.length ≤ c0_1) (h : spec_l22Good.f k l0_0 l0_1 = some r) :
   Calls Tryd.prog 50 #[.agg #[.slice A0_0 l0_0.length c0_0, .slice A0_1 l0_1.length c0_1]] w fun e w' => e = .returned (.bool r) ∧ Below w.heap.size w w' := by
  have hu36 := Tryd.underlying36; have HR0_0 := Aside0.mk hr0_0; have HC0_0 := Aside0.mk hc0_0; clear hr0_0 hc0_0; have HR0_1 := Aside0.mk hr0_1; have HC0_1 := Aside0.mk hc0_1; clear hr0_1 hc0_1; have HB := Aside0.mk (Below.refl w.heap.size w); have H : ((spec_l22Names.f k l0_0).bind fun t232 => (if t232 = true then ((spec_l22Names.f k l0_1).bind fun t233 => (some t233)) else (some false))) = some r := h; clear h; replace H := Option.bind_eq_some_iff.mp H; obtain ⟨t232, A20, H⟩ := H; replace H : (if t232 = true then ((spec_l22Names.f k l0_1).bind fun t233 => (some t233)) else (some false)) = some r := H; have A2 := Aside0.mk A20; clear A20; by_cases c3 : t232 = true
  ·subst c3
   rw [if_pos rfl] at H; replace H := Option.bind_eq_some_iff.mp H; obtain ⟨t233, A40, H⟩ := H; replace H : (some t233) = some r := H; have A4 := Aside0.mk A40; clear A40
   obtain rfl := Option.some.inj H
   go_enter Tryd.func50, Tryd.ntmps50; go_wp2_with (first | ((with_reducible refine gate_dst (N := 1) rfl ?_); refine box_event ?hg (N := 1) ?hd (cs := #[.slice A0_0 l0_0.length c0_0, .slice A0_1 l0_1.length c0_1]) (t := 36) ?hr ?_; (case hd => rfl); (case hg => rfl); (case hr => first | (go_simp; done) | (go_simp; rfl)); intro gb231 hg w5 hbox hb; have BK231 := Aside0.mk (hbox); have GW231 : Aside0 (w.heap.size ≤ gb231) := gz_; have GE231 : Aside0 (w.heap.size ≤ gb231) := gz_; replace HB := Aside0.mk (below_step hb_ hb); clear hb hbox hg; have hcz6_0 : w5.cell? ⟨gb231, 0, none⟩ = some (.slice A0_0 l0_0.length c0_0) := (blk_cell BK231.out 0).trans rfl; have hcz6_1 : w5.cell? ⟨gb231, 1, none⟩ = some (.slice A0_1 l0_1.length c0_1) := (blk_cell BK231.out 1).trans rfl; have hfz6_0 := blk_frozen BK231.out 0; have hfz6_1 := blk_frozen BK231.out 1) | ((with_reducible refine gate_callee (f := 87) rfl ?_); refine goesL_ (some 5) rfl rfl Tryd.func87 (by kernel_rfl) rfl #[.slice A0_0 l0_0.length c0_0] rfl ls_ ?_; (with_reducible refine (spec_l22Names.calls k _ _ l0_0 true _ ?side1 ?side2 A2.out).mono ?_); (case side1 => exact cb_ HR0_0.out); (case side2 => exact HC0_0.out); rintro e w' ⟨rfl, ⟨nd, rfl⟩⟩; refine ⟨_, rfl, ?_⟩) | (go_at_call 87; (with_reducible refine (spec_l22Names.calls k _ _ l0_1 t233 _ ?side1 ?side2 A4.out).mono ?_); (case side1 => repeat (first | exact (Kd.C_below HR0_1.out hb_) | (with_reducible refine Kd.C_alloc ?_ _) | (with_reducible refine Kd.C_drewN ?_ _) | (with_reducible refine Kd.C_drew ?_))); (case side2 => exact HC0_1.out); rintro e w' ⟨rfl, ⟨nd, rfl⟩⟩)); go_ret; exact ⟨er_, hb_⟩
  ·replace c3 := Bool.eq_false_iff.mpr c3
   subst c3; rw [if_neg (show ¬ (false = true) by decide)] at H
   obtain rfl := Option.some.inj H
   go_enter Tryd.func50, Tryd.ntmps50; go_wp2_with (first | ((with_reducible refine gate_dst (N := 1) rfl ?_); refine box_event ?hg (N := 1) ?hd (cs := #[.slice A0_0 l0_0.length c0_0, .slice A0_1 l0_1.length c0_1]) (t := 36) ?hr ?_; (case hd => rfl); (case hg => rfl); (case hr => first | (go_simp; done) | (go_simp; rfl)); intro gb231 hg w7 hbox hb; have BK231 := Aside0.mk (hbox); have GW231 : Aside0 (w.heap.size ≤ gb231) := gz_; have GE231 : Aside0 (w.heap.size ≤ gb231) := gz_; replace HB := Aside0.mk (below_step hb_ hb); clear hb hbox hg; have hcz8_0 : w7.cell? ⟨gb231, 0, none⟩ = some (.slice A0_0 l0_0.length c0_0) := (blk_cell BK231.out 0).trans rfl; have hcz8_1 : w7.cell? ⟨gb231, 1, none⟩ = some (.slice A0_1 l0_1.length c0_1) := (blk_cell BK231.out 1).trans rfl; have hfz8_0 := blk_frozen BK231.out 0; have hfz8_1 := blk_frozen BK231.out 1) | ((with_reducible refine gate_callee (f := 87) rfl ?_); refine goesL_ (some 5) rfl rfl Tryd.func87 (by kernel_rfl) rfl #[.slice A0_0 l0_0.length c0_0] rfl ls_ ?_; (with_reducible refine (spec_l22Names.calls k _ _ l0_0 false _ ?side1 ?side2 A2.out).mono ?_); (case side1 => exact cb_ HR0_0.out); (case side2 => exact HC0_0.out); rintro e w' ⟨rfl, ⟨nd, rfl⟩⟩; refine ⟨_, rfl, ?_⟩)); go_ret; exact ⟨er_, hb_⟩

end Go.Proofs.YtdihodboopeakaaDoor.Pr
