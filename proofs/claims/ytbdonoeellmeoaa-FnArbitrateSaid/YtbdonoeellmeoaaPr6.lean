-- Written by this session's own print (wip/tools/mkmp.py) out of the translation. Lean checks it.
import Derived.Test.YtbdonoeellmeoaaPr0
import Derived.Test.YtbdonoeellmeoaaPrd1
namespace Go.Proofs.Ytbdonoeellmeoaa.Pr
open Go.RowKit Go.Proofs.YtbdonoeellmeoaaW.PrintWords Go.Proofs.YtbdonoeellmeoaaW.PrintLast Go.Proofs.YtbdonoeellmeoaaW.PrintMore
attribute [local go_sem] max2_int min2_int max_two min_two max_three min_three max_four min_four   -- for this text's walks alone
set_option linter.unusedVariables false
set_option linter.unusedSimpArgs false

set_option maxHeartbeats 8000000 in
set_option maxRecDepth 100000 in
theorem spec_LeastFirst.calls (k : Nat) (A0 : Option Addr) (c0 : Nat) (l0 : List Int) (a1 : Int) (A2 : Option Addr) (c2 : Nat) (l2 : List Int) (r : Bool) (w : World) (hr0 : Kd.C (Kd.int .i64) w A0 l0.length l0) (hc0 : l0.length ≤ c0) (hr2 : Kd.C (Kd.int .i64) w A2 l2.length l2) (hc2 : l2.length ≤ c2) (h : spec_LeastFirst.f k l0 a1 l2 = some r) :
   Calls Try.prog 20 #[.slice A0 l0.length c0, .int .i64 a1, .slice A2 l2.length c2] w fun e w' => e = .returned (.bool r) ∧ Drawn0 w w' := by
  have HR0 := Aside0.mk hr0
  have HC0 := Aside0.mk hc0
  clear hr0 hc0
  have HR2 := Aside0.mk hr2
  have HC2 := Aside0.mk hc2
  clear hr2 hc2
  have H : (if a1 < 0 then (spec_LeastFirst.j0 k l0 a1 l2 true) else (spec_LeastFirst.j0 k l0 a1 l2 (decide (a1 ≥ (l0.length : Int))))) = some r := h
  clear h
  have HC4 := Aside0.mk H
  clear H
  go_enter Try.func20, Try.ntmps20
  go_upto_region 1 with (fail)
  go_cut [19] (fun v19 wc => ∃ (kq : Nat) (x19_3 : Bool), v19 = .bool x19_3 ∧ Aside0 (spec_LeastFirst.j0 kq l0 a1 l2 x19_3 = some r) ∧ Aside0 (kq ≤ k) ∧ Drawn0 w wc)
  case first =>
   have H := HC4.out
   clear HC4
   by_cases c5 : a1 < 0
   ·rw [if_pos c5] at H
    have c5b0 : decide (a1 < 0) = true := decide_eq_true c5
    clear c5
    (first | rw [c5b0] | (simp only [i64_w, i32_w]; rw [c5b0]) | skip)
    have H' := Aside0.mk H
    clear H
    go_wp2
    go_meet
    case rel => exact ⟨_, (true), es_, H', ⟨by first | omega | exact Nat.le_refl _⟩, by repeat (first | exact Drawn0.refl _ | apply Drawn0.step)⟩
   ·rw [if_neg c5] at H
    have c5b0 : decide (a1 < 0) = false := decide_eq_false c5
    clear c5
    (first | rw [c5b0] | (simp only [i64_w, i32_w]; rw [c5b0]) | skip)
    have H' := Aside0.mk H
    clear H
    go_wp2
    go_meet
    case rel => exact ⟨_, (decide (a1 ≥ (l0.length : Int))), es_, H', ⟨by first | omega | exact Nat.le_refl _⟩, by repeat (first | exact Drawn0.refl _ | apply Drawn0.step)⟩
  case rest =>
   clear HC4
   try clear c2
   try clear p2
   try clear c5
   try clear c5b0
   obtain ⟨kq, x19_3, rfl, HA, HJ3, ⟨mc3, rfl⟩⟩ := hcut
   cases kq with
   | zero => exact absurd HA.out (by simp [spec_LeastFirst.j0])
   | succ kj3 =>
    have H := HA.out
    clear HA
    simp only [spec_LeastFirst.j0] at H
    by_cases c6 : x19_3 = true
    ·subst c6
     rw [if_pos rfl] at H
     obtain rfl := Option.some.inj H
     go_wp2
     go_ret
     exact ⟨es_, by repeat (first | exact Drawn0.refl _ | apply Drawn0.step)⟩
    ·replace c6 := Bool.eq_false_iff.mpr c6
     subst c6
     rw [if_neg (show ¬ (false = true) by decide)] at H
     by_cases c7 : 0 ≤ a1
     ·rw [if_pos c7] at H
      have c7b0 : decide (0 ≤ a1) = true := decide_eq_true c7
      clear c7
      by_cases c8 : a1 < (l0.length : Int)
      ·rw [if_pos c8] at H
       have c8b0 : decide (a1 < (l0.length : Int)) = true := decide_eq_true c8
       clear c8
       have H' := Aside0.mk H
       clear H
       have p179 : 0 ≤ (a1 : Int) := of_decide_eq_true as_
       have q179 : a1 < (l0.length : Int) := of_decide_eq_true as_
       obtain ⟨ad179, e179, hx179_0⟩ := Kd.at_int HR0.out a1 p179 q179
       cases e179
       replace p179 := eq_true p179
       replace q179 := eq_true q179
       go_wp2
       go_loopg [26] kj3 (fun kq v26 w' => ∃ (x26_2 : Int), v26 = .int .i64 x26_2 ∧ Aside0 (spec_LeastFirst.l0 kq a1 l2 (rd l0 a1) l0 (l0.length : Int) x26_2 = some r) ∧ Aside0 (kq ≤ kj3) ∧ Drawn0 w w')
       case atStart => exact ⟨(0), es_, H', ⟨Nat.le_refl _⟩, by repeat (first | exact Drawn0.refl _ | apply Drawn0.step)⟩
       case round =>
        clear H'
        try clear p1
        try clear q1
        try clear hx1
        try clear c2
        try clear p2
        try clear c3
        try clear c5
        try clear c5b0
        try clear c6
        try clear c7
        try clear c7b0
        try clear c8
        try clear c8b0
        try clear hx179_0
        try clear p179
        try clear p2
        try clear q179
        obtain ⟨x26_2, rfl, HA, HK2, ⟨m2, rfl⟩⟩ := hrel
        cases gk with
        | zero => exact absurd HA.out (by simp [spec_LeastFirst.l0])
        | succ k2 =>
         have H := HA.out
         clear HA
         simp only [spec_LeastFirst.l0] at H
         by_cases c9 : x26_2 < (l0.length : Int)
         ·rw [if_pos c9] at H
          have c9b0 : decide (x26_2 < (l0.length : Int)) = true := decide_eq_true c9
          clear c9
          by_cases c10 : 0 ≤ x26_2
          ·rw [if_pos c10] at H
           have c10b0 : decide (0 ≤ x26_2) = true := decide_eq_true c10
           clear c10
           by_cases c11 : x26_2 < (l0.length : Int)
           ·rw [if_pos c11] at H
            have c11b0 : decide (x26_2 < (l0.length : Int)) = true := decide_eq_true c11
            clear c11
            have HC12 := Aside0.mk H
            clear H
            have p180 : 0 ≤ (x26_2 : Int) := of_decide_eq_true as_
            have q180 : x26_2 < (l0.length : Int) := of_decide_eq_true as_
            obtain ⟨ad180, e180, hx180_0⟩ := Kd.at_int HR0.out x26_2 p180 q180
            obtain rfl : ad179 = ad180 := (by injection e180)
            replace p180 := eq_true p180
            replace q180 := eq_true q180
            go_upto_region 7 with (fail)
            go_cut [43] (fun v43 wc => ∃ (kq : Nat) (x43_11 : Bool), v43 = .bool x43_11 ∧ Aside0 (spec_LeastFirst.j2 kq a1 l2 (rd l0 a1) x26_2 (rd l0 x26_2) l0 (l0.length : Int) x26_2 x43_11 = some r) ∧ Aside0 (kq ≤ k2) ∧ Drawn0 w wc)
            case first =>
             have H := HC12.out
             clear HC12
             by_cases c13 : (rd l0 x26_2) < (rd l0 a1)
             ·rw [if_pos c13] at H
              have c13b0 : decide ((rd l0 x26_2) < (rd l0 a1)) = true := decide_eq_true c13
              clear c13
              (first | rw [c13b0] | (simp only [i64_w, i32_w]; rw [c13b0]) | skip)
              have H' := Aside0.mk H
              clear H
              go_wp2
              go_meet
              case rel => exact ⟨_, (true), es_, H', ⟨by have := HJ3.out; have := HK2.out; first | omega | exact Nat.le_refl _⟩, by repeat (first | exact Drawn0.refl _ | apply Drawn0.step)⟩
             ·rw [if_neg c13] at H
              have c13b0 : decide ((rd l0 x26_2) < (rd l0 a1)) = false := decide_eq_false c13
              clear c13
              (first | rw [c13b0] | (simp only [i64_w, i32_w]; rw [c13b0]) | skip)
              by_cases c14 : (rd l0 x26_2) = (rd l0 a1)
              ·rw [if_pos c14] at H
               have c14b0 : ((rd l0 x26_2) == (rd l0 a1)) = true := beq_iff_eq.mpr c14
               have c14b1 : ((rd l0 x26_2) != (rd l0 a1)) = false := bne_eq_false_iff_eq.mpr c14
               clear c14
               have H' := Aside0.mk H
               clear H
               go_wp2
               go_meet
               case rel => exact ⟨_, (decide (x26_2 < a1)), es_, H', ⟨by have := HJ3.out; have := HK2.out; first | omega | exact Nat.le_refl _⟩, by repeat (first | exact Drawn0.refl _ | apply Drawn0.step)⟩
              ·rw [if_neg c14] at H
               have c14b0 : ((rd l0 x26_2) == (rd l0 a1)) = false := beq_eq_false_iff_ne.mpr c14
               have c14b1 : ((rd l0 x26_2) != (rd l0 a1)) = true := bne_iff_ne.mpr c14
               have H' := Aside0.mk H
               clear H
               go_wp2
               go_meet
               case rel => exact ⟨_, (false), es_, H', ⟨by have := HJ3.out; have := HK2.out; first | omega | exact Nat.le_refl _⟩, by repeat (first | exact Drawn0.refl _ | apply Drawn0.step)⟩
            case rest =>
             clear HC12
             try clear c1
             try clear p1
             try clear q1
             try clear hx1
             try clear c2
             try clear p2
             try clear c3
             try clear c5
             try clear c5b0
             try clear c6
             try clear c7
             try clear c7b0
             try clear c8
             try clear c8b0
             try clear c9
             try clear c9b0
             try clear c10
             try clear c10b0
             try clear c11
             try clear c11b0
             try clear c13
             try clear c13b0
             try clear c14
             try clear c14b0
             try clear c14b1
             try clear hx179_0
             try clear hx180_0
             try clear p1
             try clear p179
             try clear p180
             try clear p2
             try clear q1
             try clear q179
             try clear q180
             obtain ⟨kq, x43_11, rfl, HA, HJ11, ⟨mc11, rfl⟩⟩ := hcut
             cases kq with
             | zero => exact absurd HA.out (by simp [spec_LeastFirst.j2])
             | succ kj11 =>
              have H := HA.out
              clear HA
              simp only [spec_LeastFirst.j2] at H
              by_cases c15 : x43_11 = true
              ·subst c15
               rw [if_pos rfl] at H
               obtain rfl := Option.some.inj H
               go_wp2
               go_ret
               exact ⟨es_, by repeat (first | exact Drawn0.refl _ | apply Drawn0.step)⟩
              ·replace c15 := Bool.eq_false_iff.mpr c15
               subst c15
               rw [if_neg (show ¬ (false = true) by decide)] at H
               have H' := Aside0.mk H
               clear H
               go_wp2
               go_loopg [10, 11] kj11 (fun kq v10 v11 w' => ∃ (x10_4 : Int) (x11_4 : Int), v10 = .int .i64 x10_4 ∧ v11 = .int .i64 x11_4 ∧ Aside0 (spec_LeastFirst.l1 kq a1 l2 (rd l0 a1) x26_2 (rd l0 x26_2) x10_4 x11_4 l0 (l0.length : Int) x26_2 = some r) ∧ Aside0 (kq ≤ kj11) ∧ Drawn0 w w')
               case atStart => exact ⟨((-1)), (10), es_, es_, H', ⟨Nat.le_refl _⟩, by repeat (first | exact Drawn0.refl _ | apply Drawn0.step)⟩
               case round =>
                clear H'
                try clear c1
                try clear p1
                try clear q1
                try clear hx1
                try clear c2
                try clear p2
                try clear c3
                try clear c5
                try clear c5b0
                try clear c6
                try clear c7
                try clear c7b0
                try clear c8
                try clear c8b0
                try clear c9
                try clear c9b0
                try clear c10
                try clear c10b0
                try clear c11
                try clear c11b0
                try clear c13
                try clear c13b0
                try clear c14
                try clear c14b0
                try clear c14b1
                try clear c15
                try clear hx179_0
                try clear hx180_0
                try clear p1
                try clear p179
                try clear p180
                try clear p2
                try clear q1
                try clear q179
                try clear q180
                obtain ⟨x10_4, x11_4, rfl, rfl, HA, HK4, ⟨m4, rfl⟩⟩ := hrel
                cases gk with
                | zero => exact absurd HA.out (by simp [spec_LeastFirst.l1])
                | succ k4 =>
                 have H := HA.out
                 clear HA
                 simp only [spec_LeastFirst.l1] at H
                 by_cases c16 : x11_4 ≥ 0
                 ·rw [if_pos c16] at H
                  have c16b0 : decide (0 ≤ x11_4) = true := decide_eq_true c16
                  clear c16
                  obtain ⟨ji17, hji17⟩ : ∃ j_ : Int, (IntKind.u64.wrap (x11_4)) = j_ := ⟨_, rfl⟩
                  replace H : (if 0 ≤ (ji17) then (if (Go.bits .and .i64 (shr .i64 (rd l0 x26_2) (ji17)) 1) = (Go.bits .and .i64 (shr .i64 (rd l0 a1) (ji17)) 1) then (spec_LeastFirst.l1 k4 a1 l2 (rd l0 a1) x26_2 (rd l0 x26_2) x10_4 (wrap64 (x11_4 - 1)) l0 (l0.length : Int) x26_2) else (if 0 ≤ x26_2 then (if x26_2 < (l2.length : Int) then (if (rd l2 x26_2) = (wrap64 (10 - x11_4)) then (spec_LeastFirst.l0 k4 a1 l2 (rd l0 a1) l0 (l0.length : Int) (wrap64 (x26_2 + 1))) else (some false)) else (none)) else (none))) else (none)) = some r := by first | (rw [hji17] at H; exact H) | (simp only [hji17] at H ⊢; exact H)
                  by_cases c18 : 0 ≤ (ji17)
                  ·rw [if_pos c18] at H
                   have c18b0 := eq_true c18
                   have c18b1 : decide (0 ≤ (ji17)) = true := decide_eq_true c18
                   clear c18
                   obtain ⟨ji19, hji19⟩ : ∃ j_ : Int, (shr .i64 (rd l0 x26_2) (ji17)) = j_ := ⟨_, rfl⟩
                   replace H : (if (Go.bits .and .i64 (ji19) 1) = (Go.bits .and .i64 (shr .i64 (rd l0 a1) (ji17)) 1) then (spec_LeastFirst.l1 k4 a1 l2 (rd l0 a1) x26_2 (rd l0 x26_2) x10_4 (wrap64 (x11_4 - 1)) l0 (l0.length : Int) x26_2) else (if 0 ≤ x26_2 then (if x26_2 < (l2.length : Int) then (if (rd l2 x26_2) = (wrap64 (10 - x11_4)) then (spec_LeastFirst.l0 k4 a1 l2 (rd l0 a1) l0 (l0.length : Int) (wrap64 (x26_2 + 1))) else (some false)) else (none)) else (none))) = some r := by first | (rw [hji19] at H; exact H) | (simp only [hji19] at H ⊢; exact H)
                   have hji19_ : ((rd l0 x26_2) / 2 ^ min (ji17).toNat 64) = ji19 := hji19
                   have hji19z : (ji17) ≤ 64 → ((rd l0 x26_2) / 2 ^ (ji17).toNat) = ji19 := shr_small hji19
                   have c20b0 := eq_true (of_decide_eq_true as_ : 0 ≤ (ji17))
                   obtain ⟨ji21, hji21⟩ : ∃ j_ : Int, (shr .i64 (rd l0 a1) (ji17)) = j_ := ⟨_, rfl⟩
                   replace H : (if (Go.bits .and .i64 (ji19) 1) = (Go.bits .and .i64 (ji21) 1) then (spec_LeastFirst.l1 k4 a1 l2 (rd l0 a1) x26_2 (rd l0 x26_2) x10_4 (wrap64 (x11_4 - 1)) l0 (l0.length : Int) x26_2) else (if 0 ≤ x26_2 then (if x26_2 < (l2.length : Int) then (if (rd l2 x26_2) = (wrap64 (10 - x11_4)) then (spec_LeastFirst.l0 k4 a1 l2 (rd l0 a1) l0 (l0.length : Int) (wrap64 (x26_2 + 1))) else (some false)) else (none)) else (none))) = some r := by first | (rw [hji21] at H; exact H) | (simp only [hji21] at H ⊢; exact H)
                   have hji21_ : ((rd l0 a1) / 2 ^ min (ji17).toNat 64) = ji21 := hji21
                   have hji21z : (ji17) ≤ 64 → ((rd l0 a1) / 2 ^ (ji17).toNat) = ji21 := shr_small hji21
                   by_cases c22 : (Go.bits .and .i64 (ji19) 1) = (Go.bits .and .i64 (ji21) 1)
                   ·rw [if_pos c22] at H
                    have c22b0 : ((Go.bits .and .i64 (ji19) 1) == (Go.bits .and .i64 (ji21) 1)) = true := beq_iff_eq.mpr c22
                    have c22b1 : ((Go.bits .and .i64 (ji19) 1) != (Go.bits .and .i64 (ji21) 1)) = false := bne_eq_false_iff_eq.mpr c22
                    clear c22
                    have H' := Aside0.mk H
                    clear H
                    go_wp2
                    go_roundg k4
                    case measure => have := HJ3.out; have := HK2.out; have := HJ11.out; have := HK4.out; omega
                    case rel => exact ⟨(x10_4), (wrap64 (x11_4 - 1)), es_, es_, H', ⟨by have := HJ3.out; have := HK2.out; have := HJ11.out; have := HK4.out; omega⟩, by repeat (first | exact Drawn0.refl _ | apply Drawn0.step)⟩
                   ·rw [if_neg c22] at H
                    have c22b0 : ((Go.bits .and .i64 (ji19) 1) == (Go.bits .and .i64 (ji21) 1)) = false := beq_eq_false_iff_ne.mpr c22
                    have c22b1 : ((Go.bits .and .i64 (ji19) 1) != (Go.bits .and .i64 (ji21) 1)) = true := bne_iff_ne.mpr c22
                    by_cases c23 : 0 ≤ x26_2
                    ·rw [if_pos c23] at H
                     have c23b0 : decide (0 ≤ x26_2) = true := decide_eq_true c23
                     clear c23
                     by_cases c24 : x26_2 < (l2.length : Int)
                     ·rw [if_pos c24] at H
                      have c24b0 : decide (x26_2 < (l2.length : Int)) = true := decide_eq_true c24
                      clear c24
                      by_cases c25 : (rd l2 x26_2) = (wrap64 (10 - x11_4))
                      ·rw [if_pos c25] at H
                       have c25b0 : ((rd l2 x26_2) == (wrap64 (10 - x11_4))) = true := beq_iff_eq.mpr c25
                       have c25b1 : ((rd l2 x26_2) != (wrap64 (10 - x11_4))) = false := bne_eq_false_iff_eq.mpr c25
                       clear c25
                       have H' := Aside0.mk H
                       clear H
                       have p181 : 0 ≤ (x26_2 : Int) := of_decide_eq_true as_
                       have q181 : x26_2 < (l2.length : Int) := of_decide_eq_true as_
                       obtain ⟨ad181, e181, hx181_0⟩ := Kd.at_int HR2.out x26_2 p181 q181
                       cases e181
                       replace p181 := eq_true p181
                       replace q181 := eq_true q181
                       go_wp2
                       go_roundg k4
                       case measure => have := HJ3.out; have := HK2.out; have := HJ11.out; have := HK4.out; omega
                       case rel => exact ⟨(wrap64 (x26_2 + 1)), es_, H', ⟨by have := HJ3.out; have := HK2.out; have := HJ11.out; have := HK4.out; omega⟩, by repeat (first | exact Drawn0.refl _ | apply Drawn0.step)⟩
                      ·rw [if_neg c25] at H
                       have c25b0 : ((rd l2 x26_2) == (wrap64 (10 - x11_4))) = false := beq_eq_false_iff_ne.mpr c25
                       have c25b1 : ((rd l2 x26_2) != (wrap64 (10 - x11_4))) = true := bne_iff_ne.mpr c25
                       obtain rfl := Option.some.inj H
                       have p181 : 0 ≤ (x26_2 : Int) := of_decide_eq_true as_
                       have q181 : x26_2 < (l2.length : Int) := of_decide_eq_true as_
                       obtain ⟨ad181, e181, hx181_0⟩ := Kd.at_int HR2.out x26_2 p181 q181
                       cases e181
                       replace p181 := eq_true p181
                       replace q181 := eq_true q181
                       go_wp2
                       go_ret
                       exact ⟨by first | rfl | (simp; done) | (simp only [← hji17, ← hji19, ← hji21] <;> (first | rfl | simp)) | (simp [*]; done), by repeat (first | exact Drawn0.refl _ | apply Drawn0.step)⟩
                     ·rw [if_neg c24] at H
                      exact absurd H (by simp)
                    ·rw [if_neg c23] at H
                     exact absurd H (by simp)
                  ·rw [if_neg c18] at H
                   exact absurd H (by simp)
                 ·rw [if_neg c16] at H
                  have c16b0 : decide (0 ≤ x11_4) = false := decide_eq_false c16
                  clear c16
                  by_cases c26 : 0 ≤ x26_2
                  ·rw [if_pos c26] at H
                   have c26b0 : decide (0 ≤ x26_2) = true := decide_eq_true c26
                   clear c26
                   by_cases c27 : x26_2 < (l2.length : Int)
                   ·rw [if_pos c27] at H
                    have c27b0 : decide (x26_2 < (l2.length : Int)) = true := decide_eq_true c27
                    clear c27
                    by_cases c28 : (rd l2 x26_2) = x10_4
                    ·rw [if_pos c28] at H
                     have c28b0 : ((rd l2 x26_2) == x10_4) = true := beq_iff_eq.mpr c28
                     have c28b1 : ((rd l2 x26_2) != x10_4) = false := bne_eq_false_iff_eq.mpr c28
                     clear c28
                     have H' := Aside0.mk H
                     clear H
                     have p182 : 0 ≤ (x26_2 : Int) := of_decide_eq_true as_
                     have q182 : x26_2 < (l2.length : Int) := of_decide_eq_true as_
                     obtain ⟨ad182, e182, hx182_0⟩ := Kd.at_int HR2.out x26_2 p182 q182
                     cases e182
                     replace p182 := eq_true p182
                     replace q182 := eq_true q182
                     go_wp2
                     go_roundg k4
                     case measure => have := HJ3.out; have := HK2.out; have := HJ11.out; have := HK4.out; omega
                     case rel => exact ⟨(wrap64 (x26_2 + 1)), es_, H', ⟨by have := HJ3.out; have := HK2.out; have := HJ11.out; have := HK4.out; omega⟩, by repeat (first | exact Drawn0.refl _ | apply Drawn0.step)⟩
                    ·rw [if_neg c28] at H
                     have c28b0 : ((rd l2 x26_2) == x10_4) = false := beq_eq_false_iff_ne.mpr c28
                     have c28b1 : ((rd l2 x26_2) != x10_4) = true := bne_iff_ne.mpr c28
                     obtain rfl := Option.some.inj H
                     have p182 : 0 ≤ (x26_2 : Int) := of_decide_eq_true as_
                     have q182 : x26_2 < (l2.length : Int) := of_decide_eq_true as_
                     obtain ⟨ad182, e182, hx182_0⟩ := Kd.at_int HR2.out x26_2 p182 q182
                     cases e182
                     replace p182 := eq_true p182
                     replace q182 := eq_true q182
                     go_wp2
                     go_ret
                     exact ⟨es_, by repeat (first | exact Drawn0.refl _ | apply Drawn0.step)⟩
                   ·rw [if_neg c27] at H
                    exact absurd H (by simp)
                  ·rw [if_neg c26] at H
                   exact absurd H (by simp)
           ·rw [if_neg c11] at H
            exact absurd H (by simp)
          ·rw [if_neg c10] at H
           exact absurd H (by simp)
         ·rw [if_neg c9] at H
          have c9b0 : decide (x26_2 < (l0.length : Int)) = false := decide_eq_false c9
          clear c9
          obtain rfl := Option.some.inj H
          go_wp2
          go_ret
          exact ⟨es_, by repeat (first | exact Drawn0.refl _ | apply Drawn0.step)⟩
      ·rw [if_neg c8] at H
       exact absurd H (by simp)
     ·rw [if_neg c7] at H
      exact absurd H (by simp)

end Go.Proofs.Ytbdonoeellmeoaa.Pr
