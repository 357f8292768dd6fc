-- Written by this session's own print (wip/tools/mkmp.py) out of the translation. Lean checks it.
import Derived.Test.YtcldlljnaijmhaaPr0
import Derived.Test.YtcldlljnaijmhaaPr6
import Derived.Test.YtcldlljnaijmhaaPrd1
namespace Go.Proofs.Ytcldlljnaijmhaa.Pr
open Go.RowKit Go.Proofs.YtcldlljnaijmhaaW.PrintWords Go.Proofs.YtcldlljnaijmhaaW.PrintLast Go.Proofs.YtcldlljnaijmhaaW.PrintMore
attribute [local go_sem] max2_int min2_int max_two min_two max_three min_three max_four min_four   -- for this text's walks alone
set_option linter.unusedVariables false
set_option linter.unusedSimpArgs false

set_option maxHeartbeats 8000000 in
set_option maxRecDepth 100000 in
theorem spec_FirstMeet.calls (k : Nat) (A0 : Option Addr) (c0 : Nat) (l0 : List (List Int)) (r : Int) (w : World) (hr0 : Kd.C (Kd.slice 3 (Kd.int .i64)) w A0 l0.length l0) (hc0 : l0.length ≤ c0) (h : spec_FirstMeet.f k l0 = some r) :
   Calls Try.prog 19 #[.slice A0 l0.length c0] w fun e w' => e = .returned (.int .i64 r) ∧ Drawn0 w w' := by
  have HR0 := Aside0.mk hr0
  have HC0 := Aside0.mk hc0
  clear hr0 hc0
  have H : (if (l0.length : Int) > 5 then (some (-1)) else (spec_FirstMeet.l0 k l0 l0 (l0.length : Int) 0)) = some r := h
  clear h
  by_cases c2 : (l0.length : Int) > 5
  ·rw [if_pos c2] at H
   have c2b0 : decide (5 < (l0.length : Int)) = true := decide_eq_true c2
   have c2b1 : decide (5 < l0.length) = true := decide_eq_true (by omega)
   clear c2
   obtain rfl := Option.some.inj H
   go_enter Try.func19, Try.ntmps19
   go_wp2
   repeat (go_quiet (fail); try go_wp2)
   go_ret
   exact ⟨es_, by repeat (first | exact Drawn0.refl _ | apply Drawn0.step)⟩
  ·rw [if_neg c2] at H
   have c2b0 : decide (5 < (l0.length : Int)) = false := decide_eq_false c2
   have c2b1 : decide (5 < l0.length) = false := decide_eq_false (by omega)
   clear c2
   have H' := Aside0.mk H
   clear H
   go_enter Try.func19, Try.ntmps19
   go_wp2
   repeat (go_quiet (fail); try go_wp2)
   go_loopg [15] k (fun kq v15 w' => ∃ (x15_1 : Int), v15 = .int .i64 x15_1 ∧ Aside0 (spec_FirstMeet.l0 kq l0 l0 (l0.length : Int) x15_1 = some r) ∧ Aside0 (kq ≤ k) ∧ Drawn0 w w')
   case atStart => exact ⟨(0), es_, H', ⟨Nat.le_refl _⟩, by repeat (first | exact Drawn0.refl _ | apply Drawn0.step)⟩
   case round =>
    clear H'
    try clear c1
    try clear c2
    try clear c2b0
    try clear c2b1
    try clear p2
    obtain ⟨x15_1, rfl, HA, HK1, ⟨m1, rfl⟩⟩ := hrel
    cases gk with
    | zero => exact absurd HA.out (by simp [spec_FirstMeet.l0])
    | succ k1 =>
     have H := HA.out
     clear HA
     simp only [spec_FirstMeet.l0] at H
     by_cases c3 : x15_1 < (l0.length : Int)
     ·rw [if_pos c3] at H
      have c3b0 : decide (x15_1 < (l0.length : Int)) = true := decide_eq_true c3
      clear c3
      by_cases c4 : 0 ≤ x15_1
      ·rw [if_pos c4] at H
       have c4b0 : decide (0 ≤ x15_1) = true := decide_eq_true c4
       clear c4
       by_cases c5 : x15_1 < (l0.length : Int)
       ·rw [if_pos c5] at H
        have c5b0 : decide (x15_1 < (l0.length : Int)) = true := decide_eq_true c5
        clear c5
        by_cases c6 : 0 < (l0.length : Int)
        ·rw [if_pos c6] at H
         have c6b0 : decide (0 < (l0.length : Int)) = true := decide_eq_true c6
         have c6b1 : decide (0 < l0.length) = true := decide_eq_true (by omega)
         clear c6
         by_cases c7 : ((rd_L1 l0 x15_1).length : Int) = ((rd_L1 l0 0).length : Int)
         ·rw [if_pos c7] at H
          have c7b0 : (((rd_L1 l0 x15_1).length : Int) == ((rd_L1 l0 0).length : Int)) = true := beq_iff_eq.mpr c7
          have c7b1 : (((rd_L1 l0 x15_1).length : Int) != ((rd_L1 l0 0).length : Int)) = false := bne_eq_false_iff_eq.mpr c7
          have c7b2 : ((rd_L1 l0 x15_1).length == (rd_L1 l0 0).length) = true := by first | simpa using c7 | (simp at c7 ⊢; omega)
          clear c7
          have H' := Aside0.mk H
          clear H
          have p170 : 0 ≤ (x15_1 : Int) := of_decide_eq_true as_
          have q170 : x15_1 < (l0.length : Int) := of_decide_eq_true as_
          obtain ⟨ad170, A170_0, c170_0, e170, hx170_0, hl170_0, hi170_0⟩ := at_L1 HR0.out x15_1 p170 q170
          cases e170
          have HR170_0 := Aside0.mk hi170_0
          have HC170_0 := Aside0.mk hl170_0
          clear hi170_0 hl170_0
          replace p170 := eq_true p170
          replace q170 := eq_true q170
          have p171 : 0 ≤ (0 : Int) := (by omega)
          have q171 : 0 < (l0.length : Int) := of_decide_eq_true as_
          obtain ⟨ad171, A171_0, c171_0, e171, hx171_0, hl171_0, hi171_0⟩ := at_L1 HR0.out 0 p171 q171
          obtain rfl : ad170 = ad171 := (by injection e171)
          have qi171 : (0 < l0.length) = True := eq_true (by omega)
          (try rw [show ((0 : Int)).toNat = 0 from rfl] at hx171_0)
          (try rw [Addr.add_zero'] at hx171_0)
          have HR171_0 := Aside0.mk hi171_0
          have HC171_0 := Aside0.mk hl171_0
          clear hi171_0 hl171_0
          replace p171 := eq_true p171
          replace q171 := eq_true q171
          go_wp2
          repeat (go_quiet (fail); try go_wp2)
          go_roundg k1
          case measure => have := HK1.out; omega
          case rel => exact ⟨(wrap64 (x15_1 + 1)), es_, H', ⟨by have := HK1.out; omega⟩, by repeat (first | exact Drawn0.refl _ | apply Drawn0.step)⟩
         ·rw [if_neg c7] at H
          have c7b0 : (((rd_L1 l0 x15_1).length : Int) == ((rd_L1 l0 0).length : Int)) = false := beq_eq_false_iff_ne.mpr c7
          have c7b1 : (((rd_L1 l0 x15_1).length : Int) != ((rd_L1 l0 0).length : Int)) = true := bne_iff_ne.mpr c7
          have c7b2 : ((rd_L1 l0 x15_1).length == (rd_L1 l0 0).length) = false := by first | simpa using c7 | (simp at c7 ⊢; omega)
          obtain rfl := Option.some.inj H
          have p170 : 0 ≤ (x15_1 : Int) := of_decide_eq_true as_
          have q170 : x15_1 < (l0.length : Int) := of_decide_eq_true as_
          obtain ⟨ad170, A170_0, c170_0, e170, hx170_0, hl170_0, hi170_0⟩ := at_L1 HR0.out x15_1 p170 q170
          cases e170
          have HR170_0 := Aside0.mk hi170_0
          have HC170_0 := Aside0.mk hl170_0
          clear hi170_0 hl170_0
          replace p170 := eq_true p170
          replace q170 := eq_true q170
          have p171 : 0 ≤ (0 : Int) := (by omega)
          have q171 : 0 < (l0.length : Int) := of_decide_eq_true as_
          obtain ⟨ad171, A171_0, c171_0, e171, hx171_0, hl171_0, hi171_0⟩ := at_L1 HR0.out 0 p171 q171
          obtain rfl : ad170 = ad171 := (by injection e171)
          have qi171 : (0 < l0.length) = True := eq_true (by omega)
          (try rw [show ((0 : Int)).toNat = 0 from rfl] at hx171_0)
          (try rw [Addr.add_zero'] at hx171_0)
          have HR171_0 := Aside0.mk hi171_0
          have HC171_0 := Aside0.mk hl171_0
          clear hi171_0 hl171_0
          replace p171 := eq_true p171
          replace q171 := eq_true q171
          go_wp2
          repeat (go_quiet (fail); try go_wp2)
          go_ret
          exact ⟨es_, by repeat (first | exact Drawn0.refl _ | apply Drawn0.step)⟩
        ·rw [if_neg c6] at H
         exact absurd H (by simp)
       ·rw [if_neg c5] at H
        exact absurd H (by simp)
      ·rw [if_neg c4] at H
       exact absurd H (by simp)
     ·rw [if_neg c3] at H
      have c3b0 : decide (x15_1 < (l0.length : Int)) = false := decide_eq_false c3
      clear c3
      by_cases c8 : (l0.length : Int) = 0
      ·rw [if_pos c8] at H
       have c8b0 : ((l0.length : Int) == 0) = true := beq_iff_eq.mpr c8
       have c8b1 : ((l0.length : Int) != 0) = false := bne_eq_false_iff_eq.mpr c8
       clear c8
       obtain rfl := Option.some.inj H
       go_wp2
       repeat (go_quiet (fail); try go_wp2)
       go_ret
       exact ⟨es_, by repeat (first | exact Drawn0.refl _ | apply Drawn0.step)⟩
      ·rw [if_neg c8] at H
       have c8b0 : ((l0.length : Int) == 0) = false := beq_eq_false_iff_ne.mpr c8
       have c8b1 : ((l0.length : Int) != 0) = true := bne_iff_ne.mpr c8
       have c8b2 : ¬ (l0 = []) := fun h_ => c8 (by rw [h_]; rfl)
       by_cases c9 : 0 < (l0.length : Int)
       ·rw [if_pos c9] at H
        have c9b0 : decide (0 < (l0.length : Int)) = true := decide_eq_true c9
        have c9b1 : decide (0 < l0.length) = true := decide_eq_true (by omega)
        clear c9
        have H' := Aside0.mk H
        clear H
        have p172 : 0 ≤ (0 : Int) := (by omega)
        have q172 : 0 < (l0.length : Int) := of_decide_eq_true as_
        obtain ⟨ad172, A172_0, c172_0, e172, hx172_0, hl172_0, hi172_0⟩ := at_L1 HR0.out 0 p172 q172
        cases e172
        have qi172 : (0 < l0.length) = True := eq_true (by omega)
        (try rw [show ((0 : Int)).toNat = 0 from rfl] at hx172_0)
        (try rw [Addr.add_zero'] at hx172_0)
        have HR172_0 := Aside0.mk hi172_0
        have HC172_0 := Aside0.mk hl172_0
        clear hi172_0 hl172_0
        replace p172 := eq_true p172
        replace q172 := eq_true q172
        go_wp2
        repeat (go_quiet (fail); try go_wp2)
        go_loopg [34] k1 (fun kq v34 w' => ∃ (x34_2 : Int), v34 = .int .i64 x34_2 ∧ Aside0 (spec_FirstMeet.l1 kq l0 ((rd_L1 l0 0).length : Int) x34_2 = some r) ∧ Aside0 (kq ≤ k1) ∧ Drawn0 w w')
        case atStart => exact ⟨(0), es_, H', ⟨Nat.le_refl _⟩, by repeat (first | exact Drawn0.refl _ | apply Drawn0.step)⟩
        case round =>
         clear H'
         try clear c1
         try clear p1
         try clear q1
         try clear hx1
         try clear qi1
         try clear c2
         try clear c2b0
         try clear c2b1
         try clear p2
         try clear c3
         try clear c3b0
         try clear c4
         try clear c4b0
         try clear c5
         try clear c5b0
         try clear c6
         try clear c6b0
         try clear c6b1
         try clear p6
         try clear c7
         try clear c7b0
         try clear c7b1
         try clear c7b2
         try clear c8
         try clear c8b0
         try clear c8b1
         try clear c8b2
         try clear c9
         try clear c9b0
         try clear c9b1
         try clear hx170_0
         try clear hx171_0
         try clear hx172_0
         try clear p170
         try clear p171
         try clear p172
         try clear p2
         try clear q170
         try clear q171
         try clear q172
         obtain ⟨x34_2, rfl, HA, HK2, ⟨m2, rfl⟩⟩ := hrel
         cases gk with
         | zero => exact absurd HA.out (by simp [spec_FirstMeet.l1])
         | succ k2 =>
          have H := HA.out
          clear HA
          simp only [spec_FirstMeet.l1] at H
          by_cases c10 : x34_2 < ((rd_L1 l0 0).length : Int)
          ·rw [if_pos c10] at H
           have c10b0 : decide (x34_2 < ((rd_L1 l0 0).length : Int)) = true := decide_eq_true c10
           clear c10
           have H' := Aside0.mk H
           clear H
           go_wp2
           repeat (go_quiet (fail); try go_wp2)
           go_loopg [39] k2 (fun kq v39 w' => ∃ (x39_3 : Int), v39 = .int .i64 x39_3 ∧ Aside0 (spec_FirstMeet.l2 kq l0 x34_2 ((rd_L1 l0 0).length : Int) x34_2 l0 (l0.length : Int) x39_3 = some r) ∧ Aside0 (kq ≤ k2) ∧ Drawn0 w w')
           case atStart => exact ⟨(0), es_, H', ⟨Nat.le_refl _⟩, by repeat (first | exact Drawn0.refl _ | apply Drawn0.step)⟩
           case round =>
            clear H'
            try clear c1
            try clear p1
            try clear q1
            try clear hx1
            try clear qi1
            try clear c2
            try clear c2b0
            try clear c2b1
            try clear p2
            try clear c3
            try clear c3b0
            try clear c4
            try clear c4b0
            try clear c5
            try clear c5b0
            try clear c6
            try clear c6b0
            try clear c6b1
            try clear p6
            try clear c7
            try clear c7b0
            try clear c7b1
            try clear c7b2
            try clear c8
            try clear c8b0
            try clear c8b1
            try clear c8b2
            try clear c9
            try clear c9b0
            try clear c9b1
            try clear c10
            try clear c10b0
            try clear hx170_0
            try clear hx171_0
            try clear hx172_0
            try clear p1
            try clear p170
            try clear p171
            try clear p172
            try clear p2
            try clear p6
            try clear q1
            try clear q170
            try clear q171
            try clear q172
            obtain ⟨x39_3, rfl, HA, HK3, ⟨m3, rfl⟩⟩ := hrel
            cases gk with
            | zero => exact absurd HA.out (by simp [spec_FirstMeet.l2])
            | succ k3 =>
             have H := HA.out
             clear HA
             simp only [spec_FirstMeet.l2] at H
             by_cases c11 : x39_3 < (l0.length : Int)
             ·rw [if_pos c11] at H
              have c11b0 : decide (x39_3 < (l0.length : Int)) = true := decide_eq_true c11
              clear c11
              by_cases c12 : 0 ≤ x39_3
              ·rw [if_pos c12] at H
               have c12b0 : decide (0 ≤ x39_3) = true := decide_eq_true c12
               clear c12
               by_cases c13 : x39_3 < (l0.length : Int)
               ·rw [if_pos c13] at H
                have c13b0 : decide (x39_3 < (l0.length : Int)) = true := decide_eq_true c13
                clear c13
                have H' := Aside0.mk H
                clear H
                have p173 : 0 ≤ (x39_3 : Int) := of_decide_eq_true as_
                have q173 : x39_3 < (l0.length : Int) := of_decide_eq_true as_
                obtain ⟨ad173, A173_0, c173_0, e173, hx173_0, hl173_0, hi173_0⟩ := at_L1 HR0.out x39_3 p173 q173
                obtain rfl : ad172 = ad173 := (by injection e173)
                have HR173_0 := Aside0.mk hi173_0
                have HC173_0 := Aside0.mk hl173_0
                clear hi173_0 hl173_0
                replace p173 := eq_true p173
                replace q173 := eq_true q173
                go_wp2
                repeat (go_quiet (fail); try go_wp2)
                go_loopg [8] k3 (fun kq v8 w' => ∃ (x8_4 : Int), v8 = .int .i64 x8_4 ∧ Aside0 (spec_FirstMeet.l3 kq l0 x34_2 x39_3 (rd_L1 l0 x39_3) x8_4 ((rd_L1 l0 0).length : Int) x34_2 l0 (l0.length : Int) x39_3 = some r) ∧ Aside0 (kq ≤ k3) ∧ Drawn0 w w')
                case atStart => exact ⟨(0), es_, H', ⟨Nat.le_refl _⟩, by repeat (first | exact Drawn0.refl _ | apply Drawn0.step)⟩
                case round =>
                 clear H'
                 try clear c1
                 try clear p1
                 try clear q1
                 try clear hx1
                 try clear qi1
                 try clear c2
                 try clear c2b0
                 try clear c2b1
                 try clear p2
                 try clear c3
                 try clear c3b0
                 try clear c4
                 try clear c4b0
                 try clear c5
                 try clear c5b0
                 try clear c6
                 try clear c6b0
                 try clear c6b1
                 try clear p6
                 try clear c7
                 try clear c7b0
                 try clear c7b1
                 try clear c7b2
                 try clear c8
                 try clear c8b0
                 try clear c8b1
                 try clear c8b2
                 try clear c9
                 try clear c9b0
                 try clear c9b1
                 try clear c10
                 try clear c10b0
                 try clear c11
                 try clear c11b0
                 try clear c12
                 try clear c12b0
                 try clear c13
                 try clear c13b0
                 try clear hx170_0
                 try clear hx171_0
                 try clear hx172_0
                 try clear hx173_0
                 try clear p1
                 try clear p170
                 try clear p171
                 try clear p172
                 try clear p173
                 try clear p2
                 try clear p6
                 try clear q1
                 try clear q170
                 try clear q171
                 try clear q172
                 try clear q173
                 obtain ⟨x8_4, rfl, HA, HK4, ⟨m4, rfl⟩⟩ := hrel
                 cases gk with
                 | zero => exact absurd HA.out (by simp [spec_FirstMeet.l3])
                 | succ k4 =>
                  have H := HA.out
                  clear HA
                  simp only [spec_FirstMeet.l3] at H
                  by_cases c14 : x8_4 < x39_3
                  ·rw [if_pos c14] at H
                   have c14b0 : decide (x8_4 < x39_3) = true := decide_eq_true c14
                   clear c14
                   by_cases c15 : 0 ≤ x34_2
                   ·rw [if_pos c15] at H
                    have c15b0 : decide (0 ≤ x34_2) = true := decide_eq_true c15
                    clear c15
                    by_cases c16 : x34_2 < ((rd_L1 l0 x39_3).length : Int)
                    ·rw [if_pos c16] at H
                     have c16b0 : decide (x34_2 < ((rd_L1 l0 x39_3).length : Int)) = true := decide_eq_true c16
                     clear c16
                     by_cases c17 : x34_2 > 0
                     ·rw [if_pos c17] at H
                      have c17b0 : decide (0 < x34_2) = true := decide_eq_true c17
                      clear c17
                      obtain ⟨ji18, hji18⟩ : ∃ j_ : Int, (wrap64 (x34_2 - 1)) = j_ := ⟨_, rfl⟩
                      replace H : (if 0 ≤ (ji18) then (if (ji18) < ((rd_L1 l0 x39_3).length : Int) then (if 0 ≤ x8_4 then (if x8_4 < (l0.length : Int) then ((spec_l20Hits.f (rd_L1 l0 x8_4) x34_2 (rd (rd_L1 l0 x39_3) (ji18)) (rd (rd_L1 l0 x39_3) x34_2)).bind fun t178 => (if t178 = true then (some x34_2) else (spec_FirstMeet.l3 k4 l0 x34_2 x39_3 (rd_L1 l0 x39_3) (wrap64 (x8_4 + 1)) ((rd_L1 l0 0).length : Int) x34_2 l0 (l0.length : Int) x39_3))) else (none)) else (none)) else (none)) else (none)) = some r := by first | (rw [hji18] at H; exact H) | (simp only [hji18] at H ⊢; exact H)
                      have hji18w : (IntKind.i64.wrap (x34_2 - 1)) = ji18 := (i64_w _).trans hji18
                      by_cases c19 : 0 ≤ (ji18)
                      ·rw [if_pos c19] at H
                       have c19b0 : decide (0 ≤ (ji18)) = true := decide_eq_true c19
                       clear c19
                       by_cases c20 : (ji18) < ((rd_L1 l0 x39_3).length : Int)
                       ·rw [if_pos c20] at H
                        have c20b0 : decide ((ji18) < ((rd_L1 l0 x39_3).length : Int)) = true := decide_eq_true c20
                        clear c20
                        by_cases c21 : 0 ≤ x8_4
                        ·rw [if_pos c21] at H
                         have c21b0 : decide (0 ≤ x8_4) = true := decide_eq_true c21
                         clear c21
                         by_cases c22 : x8_4 < (l0.length : Int)
                         ·rw [if_pos c22] at H
                          have c22b0 : decide (x8_4 < (l0.length : Int)) = true := decide_eq_true c22
                          clear c22
                          replace H := Option.bind_eq_some_iff.mp H
                          obtain ⟨t178, A230, H⟩ := H
                          replace H : (if t178 = true then (some x34_2) else (spec_FirstMeet.l3 k4 l0 x34_2 x39_3 (rd_L1 l0 x39_3) (wrap64 (x8_4 + 1)) ((rd_L1 l0 0).length : Int) x34_2 l0 (l0.length : Int) x39_3)) = some r := H
                          have A23 := Aside0.mk A230
                          clear A230
                          by_cases c24 : t178 = true
                          ·subst c24
                           rw [if_pos rfl] at H
                           obtain rfl := Option.some.inj H
                           have p174 : 0 ≤ (x34_2 : Int) := of_decide_eq_true as_
                           have q174 : x34_2 < ((rd_L1 l0 x39_3).length : Int) := of_decide_eq_true as_
                           obtain ⟨ad174, e174, hx174_0⟩ := Kd.at_int HR173_0.out x34_2 p174 q174
                           cases e174
                           replace p174 := eq_true p174
                           replace q174 := eq_true q174
                           have p175 : 0 ≤ ((ji18) : Int) := of_decide_eq_true as_
                           have q175 : (ji18) < ((rd_L1 l0 x39_3).length : Int) := of_decide_eq_true as_
                           obtain ⟨ad175, e175, hx175_0⟩ := Kd.at_int HR173_0.out (ji18) p175 q175
                           obtain rfl : ad174 = ad175 := (by injection e175)
                           replace p175 := eq_true p175
                           replace q175 := eq_true q175
                           have p176 : 0 ≤ (x8_4 : Int) := of_decide_eq_true as_
                           have q176 : x8_4 < (l0.length : Int) := of_decide_eq_true as_
                           obtain ⟨ad176, A176_0, c176_0, e176, hx176_0, hl176_0, hi176_0⟩ := at_L1 HR0.out x8_4 p176 q176
                           obtain rfl : ad172 = ad176 := (by injection e176)
                           have HR176_0 := Aside0.mk hi176_0
                           have HC176_0 := Aside0.mk hl176_0
                           clear hi176_0 hl176_0
                           replace p176 := eq_true p176
                           replace q176 := eq_true q176
                           have p177 : 0 ≤ (x34_2 : Int) := of_decide_eq_true as_
                           have q177 : x34_2 < ((rd_L1 l0 x39_3).length : Int) := of_decide_eq_true as_
                           obtain ⟨ad177, e177, hx177_0⟩ := Kd.at_int HR173_0.out x34_2 p177 q177
                           obtain rfl : ad174 = ad177 := (by injection e177)
                           replace p177 := eq_true p177
                           replace q177 := eq_true q177
                           go_wp2_with (first | (go_at_call 51; (with_reducible refine (spec_l20Hits.calls _ _ (rd_L1 l0 x8_4) x34_2 (rd (rd_L1 l0 x39_3) (ji18)) (rd (rd_L1 l0 x39_3) x34_2) true _ ?side1 ?side2 A23.out).mono ?_); (case side1 => repeat (first | exact HR176_0.out | (with_reducible refine Kd.C_alloc ?_ _) | (with_reducible refine Kd.C_drewN ?_ _) | (with_reducible refine Kd.C_drew ?_))); (case side2 => exact HC176_0.out); rintro e w' ⟨rfl, ⟨nd, rfl⟩⟩; (try first | exact ⟨rfl, _, World.drewN_drewN _ _ _⟩ | exact ⟨rfl, _, Eq.trans (World.drewN_drewN _ _ _) (congrArg (World.drewN _) (Nat.add_assoc _ _ _))⟩)))
                           repeat (go_quiet (first | (go_at_call 51; (with_reducible refine (spec_l20Hits.calls _ _ (rd_L1 l0 x8_4) x34_2 (rd (rd_L1 l0 x39_3) (ji18)) (rd (rd_L1 l0 x39_3) x34_2) true _ ?side1 ?side2 A23.out).mono ?_); (case side1 => repeat (first | exact HR176_0.out | (with_reducible refine Kd.C_alloc ?_ _) | (with_reducible refine Kd.C_drewN ?_ _) | (with_reducible refine Kd.C_drew ?_))); (case side2 => exact HC176_0.out); rintro e w' ⟨rfl, ⟨nd, rfl⟩⟩; (try first | exact ⟨rfl, _, World.drewN_drewN _ _ _⟩ | exact ⟨rfl, _, Eq.trans (World.drewN_drewN _ _ _) (congrArg (World.drewN _) (Nat.add_assoc _ _ _))⟩))); try go_wp2_with (first | (go_at_call 51; (with_reducible refine (spec_l20Hits.calls _ _ (rd_L1 l0 x8_4) x34_2 (rd (rd_L1 l0 x39_3) (ji18)) (rd (rd_L1 l0 x39_3) x34_2) true _ ?side1 ?side2 A23.out).mono ?_); (case side1 => repeat (first | exact HR176_0.out | (with_reducible refine Kd.C_alloc ?_ _) | (with_reducible refine Kd.C_drewN ?_ _) | (with_reducible refine Kd.C_drew ?_))); (case side2 => exact HC176_0.out); rintro e w' ⟨rfl, ⟨nd, rfl⟩⟩; (try first | exact ⟨rfl, _, World.drewN_drewN _ _ _⟩ | exact ⟨rfl, _, Eq.trans (World.drewN_drewN _ _ _) (congrArg (World.drewN _) (Nat.add_assoc _ _ _))⟩))))
                           go_ret
                           exact ⟨by first | rfl | (simp; done) | (simp only [← hji18] <;> (first | rfl | simp)) | (simp [*]; done), by repeat (first | exact Drawn0.refl _ | apply Drawn0.step)⟩
                          ·replace c24 := Bool.eq_false_iff.mpr c24
                           subst c24
                           rw [if_neg (show ¬ (false = true) by decide)] at H
                           have H' := Aside0.mk H
                           clear H
                           have p174 : 0 ≤ (x34_2 : Int) := of_decide_eq_true as_
                           have q174 : x34_2 < ((rd_L1 l0 x39_3).length : Int) := of_decide_eq_true as_
                           obtain ⟨ad174, e174, hx174_0⟩ := Kd.at_int HR173_0.out x34_2 p174 q174
                           cases e174
                           replace p174 := eq_true p174
                           replace q174 := eq_true q174
                           have p175 : 0 ≤ ((ji18) : Int) := of_decide_eq_true as_
                           have q175 : (ji18) < ((rd_L1 l0 x39_3).length : Int) := of_decide_eq_true as_
                           obtain ⟨ad175, e175, hx175_0⟩ := Kd.at_int HR173_0.out (ji18) p175 q175
                           obtain rfl : ad174 = ad175 := (by injection e175)
                           replace p175 := eq_true p175
                           replace q175 := eq_true q175
                           have p176 : 0 ≤ (x8_4 : Int) := of_decide_eq_true as_
                           have q176 : x8_4 < (l0.length : Int) := of_decide_eq_true as_
                           obtain ⟨ad176, A176_0, c176_0, e176, hx176_0, hl176_0, hi176_0⟩ := at_L1 HR0.out x8_4 p176 q176
                           obtain rfl : ad172 = ad176 := (by injection e176)
                           have HR176_0 := Aside0.mk hi176_0
                           have HC176_0 := Aside0.mk hl176_0
                           clear hi176_0 hl176_0
                           replace p176 := eq_true p176
                           replace q176 := eq_true q176
                           have p177 : 0 ≤ (x34_2 : Int) := of_decide_eq_true as_
                           have q177 : x34_2 < ((rd_L1 l0 x39_3).length : Int) := of_decide_eq_true as_
                           obtain ⟨ad177, e177, hx177_0⟩ := Kd.at_int HR173_0.out x34_2 p177 q177
                           obtain rfl : ad174 = ad177 := (by injection e177)
                           replace p177 := eq_true p177
                           replace q177 := eq_true q177
                           go_wp2_with (first | (go_at_call 51; (with_reducible refine (spec_l20Hits.calls _ _ (rd_L1 l0 x8_4) x34_2 (rd (rd_L1 l0 x39_3) (ji18)) (rd (rd_L1 l0 x39_3) x34_2) false _ ?side1 ?side2 A23.out).mono ?_); (case side1 => repeat (first | exact HR176_0.out | (with_reducible refine Kd.C_alloc ?_ _) | (with_reducible refine Kd.C_drewN ?_ _) | (with_reducible refine Kd.C_drew ?_))); (case side2 => exact HC176_0.out); rintro e w' ⟨rfl, ⟨nd, rfl⟩⟩; (try first | exact ⟨rfl, _, World.drewN_drewN _ _ _⟩ | exact ⟨rfl, _, Eq.trans (World.drewN_drewN _ _ _) (congrArg (World.drewN _) (Nat.add_assoc _ _ _))⟩)))
                           repeat (go_quiet (first | (go_at_call 51; (with_reducible refine (spec_l20Hits.calls _ _ (rd_L1 l0 x8_4) x34_2 (rd (rd_L1 l0 x39_3) (ji18)) (rd (rd_L1 l0 x39_3) x34_2) false _ ?side1 ?side2 A23.out).mono ?_); (case side1 => repeat (first | exact HR176_0.out | (with_reducible refine Kd.C_alloc ?_ _) | (with_reducible refine Kd.C_drewN ?_ _) | (with_reducible refine Kd.C_drew ?_))); (case side2 => exact HC176_0.out); rintro e w' ⟨rfl, ⟨nd, rfl⟩⟩; (try first | exact ⟨rfl, _, World.drewN_drewN _ _ _⟩ | exact ⟨rfl, _, Eq.trans (World.drewN_drewN _ _ _) (congrArg (World.drewN _) (Nat.add_assoc _ _ _))⟩))); try go_wp2_with (first | (go_at_call 51; (with_reducible refine (spec_l20Hits.calls _ _ (rd_L1 l0 x8_4) x34_2 (rd (rd_L1 l0 x39_3) (ji18)) (rd (rd_L1 l0 x39_3) x34_2) false _ ?side1 ?side2 A23.out).mono ?_); (case side1 => repeat (first | exact HR176_0.out | (with_reducible refine Kd.C_alloc ?_ _) | (with_reducible refine Kd.C_drewN ?_ _) | (with_reducible refine Kd.C_drew ?_))); (case side2 => exact HC176_0.out); rintro e w' ⟨rfl, ⟨nd, rfl⟩⟩; (try first | exact ⟨rfl, _, World.drewN_drewN _ _ _⟩ | exact ⟨rfl, _, Eq.trans (World.drewN_drewN _ _ _) (congrArg (World.drewN _) (Nat.add_assoc _ _ _))⟩))))
                           go_roundg k4
                           case measure => have := HK1.out; have := HK2.out; have := HK3.out; have := HK4.out; omega
                           case rel => exact ⟨(wrap64 (x8_4 + 1)), es_, H', ⟨by have := HK1.out; have := HK2.out; have := HK3.out; have := HK4.out; omega⟩, by repeat (first | exact Drawn0.refl _ | apply Drawn0.step)⟩
                         ·rw [if_neg c22] at H
                          exact absurd H (by simp)
                        ·rw [if_neg c21] at H
                         exact absurd H (by simp)
                       ·rw [if_neg c20] at H
                        exact absurd H (by simp)
                      ·rw [if_neg c19] at H
                       exact absurd H (by simp)
                     ·rw [if_neg c17] at H
                      have c17b0 : decide (0 < x34_2) = false := decide_eq_false c17
                      clear c17
                      by_cases c25 : 0 ≤ x8_4
                      ·rw [if_pos c25] at H
                       have c25b0 : decide (0 ≤ x8_4) = true := decide_eq_true c25
                       clear c25
                       by_cases c26 : x8_4 < (l0.length : Int)
                       ·rw [if_pos c26] at H
                        have c26b0 : decide (x8_4 < (l0.length : Int)) = true := decide_eq_true c26
                        clear c26
                        replace H := Option.bind_eq_some_iff.mp H
                        obtain ⟨t181, A270, H⟩ := H
                        replace H : (if t181 = true then (some x34_2) else (spec_FirstMeet.l3 k4 l0 x34_2 x39_3 (rd_L1 l0 x39_3) (wrap64 (x8_4 + 1)) ((rd_L1 l0 0).length : Int) x34_2 l0 (l0.length : Int) x39_3)) = some r := H
                        have A27 := Aside0.mk A270
                        clear A270
                        by_cases c28 : t181 = true
                        ·subst c28
                         rw [if_pos rfl] at H
                         obtain rfl := Option.some.inj H
                         have p174 : 0 ≤ (x34_2 : Int) := of_decide_eq_true as_
                         have q174 : x34_2 < ((rd_L1 l0 x39_3).length : Int) := of_decide_eq_true as_
                         obtain ⟨ad174, e174, hx174_0⟩ := Kd.at_int HR173_0.out x34_2 p174 q174
                         cases e174
                         replace p174 := eq_true p174
                         replace q174 := eq_true q174
                         have p179 : 0 ≤ (x8_4 : Int) := of_decide_eq_true as_
                         have q179 : x8_4 < (l0.length : Int) := of_decide_eq_true as_
                         obtain ⟨ad179, A179_0, c179_0, e179, hx179_0, hl179_0, hi179_0⟩ := at_L1 HR0.out x8_4 p179 q179
                         obtain rfl : ad172 = ad179 := (by injection e179)
                         have HR179_0 := Aside0.mk hi179_0
                         have HC179_0 := Aside0.mk hl179_0
                         clear hi179_0 hl179_0
                         replace p179 := eq_true p179
                         replace q179 := eq_true q179
                         have p180 : 0 ≤ (x34_2 : Int) := of_decide_eq_true as_
                         have q180 : x34_2 < ((rd_L1 l0 x39_3).length : Int) := of_decide_eq_true as_
                         obtain ⟨ad180, e180, hx180_0⟩ := Kd.at_int HR173_0.out x34_2 p180 q180
                         obtain rfl : ad174 = ad180 := (by injection e180)
                         replace p180 := eq_true p180
                         replace q180 := eq_true q180
                         go_wp2_with (first | (go_at_call 51; (with_reducible refine (spec_l20Hits.calls _ _ (rd_L1 l0 x8_4) x34_2 (rd (rd_L1 l0 x39_3) x34_2) (rd (rd_L1 l0 x39_3) x34_2) true _ ?side1 ?side2 A27.out).mono ?_); (case side1 => repeat (first | exact HR179_0.out | (with_reducible refine Kd.C_alloc ?_ _) | (with_reducible refine Kd.C_drewN ?_ _) | (with_reducible refine Kd.C_drew ?_))); (case side2 => exact HC179_0.out); rintro e w' ⟨rfl, ⟨nd, rfl⟩⟩; (try first | exact ⟨rfl, _, World.drewN_drewN _ _ _⟩ | exact ⟨rfl, _, Eq.trans (World.drewN_drewN _ _ _) (congrArg (World.drewN _) (Nat.add_assoc _ _ _))⟩)))
                         repeat (go_quiet (first | (go_at_call 51; (with_reducible refine (spec_l20Hits.calls _ _ (rd_L1 l0 x8_4) x34_2 (rd (rd_L1 l0 x39_3) x34_2) (rd (rd_L1 l0 x39_3) x34_2) true _ ?side1 ?side2 A27.out).mono ?_); (case side1 => repeat (first | exact HR179_0.out | (with_reducible refine Kd.C_alloc ?_ _) | (with_reducible refine Kd.C_drewN ?_ _) | (with_reducible refine Kd.C_drew ?_))); (case side2 => exact HC179_0.out); rintro e w' ⟨rfl, ⟨nd, rfl⟩⟩; (try first | exact ⟨rfl, _, World.drewN_drewN _ _ _⟩ | exact ⟨rfl, _, Eq.trans (World.drewN_drewN _ _ _) (congrArg (World.drewN _) (Nat.add_assoc _ _ _))⟩))); try go_wp2_with (first | (go_at_call 51; (with_reducible refine (spec_l20Hits.calls _ _ (rd_L1 l0 x8_4) x34_2 (rd (rd_L1 l0 x39_3) x34_2) (rd (rd_L1 l0 x39_3) x34_2) true _ ?side1 ?side2 A27.out).mono ?_); (case side1 => repeat (first | exact HR179_0.out | (with_reducible refine Kd.C_alloc ?_ _) | (with_reducible refine Kd.C_drewN ?_ _) | (with_reducible refine Kd.C_drew ?_))); (case side2 => exact HC179_0.out); rintro e w' ⟨rfl, ⟨nd, rfl⟩⟩; (try first | exact ⟨rfl, _, World.drewN_drewN _ _ _⟩ | exact ⟨rfl, _, Eq.trans (World.drewN_drewN _ _ _) (congrArg (World.drewN _) (Nat.add_assoc _ _ _))⟩))))
                         go_ret
                         exact ⟨es_, by repeat (first | exact Drawn0.refl _ | apply Drawn0.step)⟩
                        ·replace c28 := Bool.eq_false_iff.mpr c28
                         subst c28
                         rw [if_neg (show ¬ (false = true) by decide)] at H
                         have H' := Aside0.mk H
                         clear H
                         have p174 : 0 ≤ (x34_2 : Int) := of_decide_eq_true as_
                         have q174 : x34_2 < ((rd_L1 l0 x39_3).length : Int) := of_decide_eq_true as_
                         obtain ⟨ad174, e174, hx174_0⟩ := Kd.at_int HR173_0.out x34_2 p174 q174
                         cases e174
                         replace p174 := eq_true p174
                         replace q174 := eq_true q174
                         have p179 : 0 ≤ (x8_4 : Int) := of_decide_eq_true as_
                         have q179 : x8_4 < (l0.length : Int) := of_decide_eq_true as_
                         obtain ⟨ad179, A179_0, c179_0, e179, hx179_0, hl179_0, hi179_0⟩ := at_L1 HR0.out x8_4 p179 q179
                         obtain rfl : ad172 = ad179 := (by injection e179)
                         have HR179_0 := Aside0.mk hi179_0
                         have HC179_0 := Aside0.mk hl179_0
                         clear hi179_0 hl179_0
                         replace p179 := eq_true p179
                         replace q179 := eq_true q179
                         have p180 : 0 ≤ (x34_2 : Int) := of_decide_eq_true as_
                         have q180 : x34_2 < ((rd_L1 l0 x39_3).length : Int) := of_decide_eq_true as_
                         obtain ⟨ad180, e180, hx180_0⟩ := Kd.at_int HR173_0.out x34_2 p180 q180
                         obtain rfl : ad174 = ad180 := (by injection e180)
                         replace p180 := eq_true p180
                         replace q180 := eq_true q180
                         go_wp2_with (first | (go_at_call 51; (with_reducible refine (spec_l20Hits.calls _ _ (rd_L1 l0 x8_4) x34_2 (rd (rd_L1 l0 x39_3) x34_2) (rd (rd_L1 l0 x39_3) x34_2) false _ ?side1 ?side2 A27.out).mono ?_); (case side1 => repeat (first | exact HR179_0.out | (with_reducible refine Kd.C_alloc ?_ _) | (with_reducible refine Kd.C_drewN ?_ _) | (with_reducible refine Kd.C_drew ?_))); (case side2 => exact HC179_0.out); rintro e w' ⟨rfl, ⟨nd, rfl⟩⟩; (try first | exact ⟨rfl, _, World.drewN_drewN _ _ _⟩ | exact ⟨rfl, _, Eq.trans (World.drewN_drewN _ _ _) (congrArg (World.drewN _) (Nat.add_assoc _ _ _))⟩)))
                         repeat (go_quiet (first | (go_at_call 51; (with_reducible refine (spec_l20Hits.calls _ _ (rd_L1 l0 x8_4) x34_2 (rd (rd_L1 l0 x39_3) x34_2) (rd (rd_L1 l0 x39_3) x34_2) false _ ?side1 ?side2 A27.out).mono ?_); (case side1 => repeat (first | exact HR179_0.out | (with_reducible refine Kd.C_alloc ?_ _) | (with_reducible refine Kd.C_drewN ?_ _) | (with_reducible refine Kd.C_drew ?_))); (case side2 => exact HC179_0.out); rintro e w' ⟨rfl, ⟨nd, rfl⟩⟩; (try first | exact ⟨rfl, _, World.drewN_drewN _ _ _⟩ | exact ⟨rfl, _, Eq.trans (World.drewN_drewN _ _ _) (congrArg (World.drewN _) (Nat.add_assoc _ _ _))⟩))); try go_wp2_with (first | (go_at_call 51; (with_reducible refine (spec_l20Hits.calls _ _ (rd_L1 l0 x8_4) x34_2 (rd (rd_L1 l0 x39_3) x34_2) (rd (rd_L1 l0 x39_3) x34_2) false _ ?side1 ?side2 A27.out).mono ?_); (case side1 => repeat (first | exact HR179_0.out | (with_reducible refine Kd.C_alloc ?_ _) | (with_reducible refine Kd.C_drewN ?_ _) | (with_reducible refine Kd.C_drew ?_))); (case side2 => exact HC179_0.out); rintro e w' ⟨rfl, ⟨nd, rfl⟩⟩; (try first | exact ⟨rfl, _, World.drewN_drewN _ _ _⟩ | exact ⟨rfl, _, Eq.trans (World.drewN_drewN _ _ _) (congrArg (World.drewN _) (Nat.add_assoc _ _ _))⟩))))
                         go_roundg k4
                         case measure => have := HK1.out; have := HK2.out; have := HK3.out; have := HK4.out; omega
                         case rel => exact ⟨(wrap64 (x8_4 + 1)), es_, H', ⟨by have := HK1.out; have := HK2.out; have := HK3.out; have := HK4.out; omega⟩, by repeat (first | exact Drawn0.refl _ | apply Drawn0.step)⟩
                       ·rw [if_neg c26] at H
                        exact absurd H (by simp)
                      ·rw [if_neg c25] at H
                       exact absurd H (by simp)
                    ·rw [if_neg c16] at H
                     exact absurd H (by simp)
                   ·rw [if_neg c15] at H
                    exact absurd H (by simp)
                  ·rw [if_neg c14] at H
                   have c14b0 : decide (x8_4 < x39_3) = false := decide_eq_false c14
                   clear c14
                   have H' := Aside0.mk H
                   clear H
                   go_wp2
                   repeat (go_quiet (fail); try go_wp2)
                   go_roundg k4
                   case measure => have := HK1.out; have := HK2.out; have := HK3.out; have := HK4.out; omega
                   case rel => exact ⟨(wrap64 (x39_3 + 1)), es_, H', ⟨by have := HK1.out; have := HK2.out; have := HK3.out; have := HK4.out; omega⟩, by repeat (first | exact Drawn0.refl _ | apply Drawn0.step)⟩
               ·rw [if_neg c13] at H
                exact absurd H (by simp)
              ·rw [if_neg c12] at H
               exact absurd H (by simp)
             ·rw [if_neg c11] at H
              have c11b0 : decide (x39_3 < (l0.length : Int)) = false := decide_eq_false c11
              clear c11
              have H' := Aside0.mk H
              clear H
              go_wp2
              repeat (go_quiet (fail); try go_wp2)
              go_roundg k3
              case measure => have := HK1.out; have := HK2.out; have := HK3.out; omega
              case rel => exact ⟨(wrap64 (x34_2 + 1)), es_, H', ⟨by have := HK1.out; have := HK2.out; have := HK3.out; omega⟩, by repeat (first | exact Drawn0.refl _ | apply Drawn0.step)⟩
          ·rw [if_neg c10] at H
           have c10b0 : decide (x34_2 < ((rd_L1 l0 0).length : Int)) = false := decide_eq_false c10
           clear c10
           obtain rfl := Option.some.inj H
           go_wp2
           repeat (go_quiet (fail); try go_wp2)
           go_ret
           exact ⟨es_, by repeat (first | exact Drawn0.refl _ | apply Drawn0.step)⟩
       ·rw [if_neg c9] at H
        exact absurd H (by simp)

end Go.Proofs.Ytcldlljnaijmhaa.Pr
