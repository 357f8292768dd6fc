-- Written by this session's own print (wip/tools/mkmp.py) out of the translation. Lean checks it.
import Derived.Test.YtcldlljnaijmhaaPr0
import Derived.Test.YtcldlljnaijmhaaPrd1
namespace Go.Proofs.Ytcldlljnaijmhaa.Pr
open Go.RowKit Go.Proofs.YtcldlljnaijmhaaW.PrintWords Go.Proofs.YtcldlljnaijmhaaW.PrintLast Go.Proofs.YtcldlljnaijmhaaW.PrintMore
attribute [local go_sem] max2_int min2_int max_two min_two max_three min_three max_four min_four   -- for this text's walks alone
set_option linter.unusedVariables false
set_option linter.unusedSimpArgs false

set_option maxHeartbeats 8000000 in
set_option maxRecDepth 100000 in
theorem impl_FirstMeet.calls (k : Nat) (A0 : Option Addr) (c0 : Nat) (l0 : List (List Int)) (r : Int) (w : World) (hr0 : Kd.C (Kd.slice 3 (Kd.int .i64)) w A0 l0.length l0) (hc0 : l0.length ≤ c0) (h : impl_FirstMeet.f k l0 = some r) :
   Calls Try.prog 21 #[.slice A0 l0.length c0] w fun e w' => e = .returned (.int .i64 r) ∧ Drawn0 w w' := by
  have HR0 := Aside0.mk hr0
  have HC0 := Aside0.mk hc0
  clear hr0 hc0
  have H : (if (l0.length : Int) > 5 then (some (-1)) else (impl_FirstMeet.l0 k l0 l0 (l0.length : Int) 0)) = some r := h
  clear h
  by_cases c2 : (l0.length : Int) > 5
  ·rw [if_pos c2] at H
   have c2b0 : decide (5 < (l0.length : Int)) = true := decide_eq_true c2
   have c2b1 : decide (5 < l0.length) = true := decide_eq_true (by omega)
   clear c2
   obtain rfl := Option.some.inj H
   go_enter Try.func21, Try.ntmps21
   go_wp2
   repeat (go_quiet (fail); try go_wp2)
   go_ret
   exact ⟨es_, by repeat (first | exact Drawn0.refl _ | apply Drawn0.step)⟩
  ·rw [if_neg c2] at H
   have c2b0 : decide (5 < (l0.length : Int)) = false := decide_eq_false c2
   have c2b1 : decide (5 < l0.length) = false := decide_eq_false (by omega)
   clear c2
   have H' := Aside0.mk H
   clear H
   go_enter Try.func21, Try.ntmps21
   go_wp2
   repeat (go_quiet (fail); try go_wp2)
   go_loopg [15] k (fun kq v15 w' => ∃ (x15_1 : Int), v15 = .int .i64 x15_1 ∧ Aside0 (impl_FirstMeet.l0 kq l0 l0 (l0.length : Int) x15_1 = some r) ∧ Aside0 (kq ≤ k) ∧ Drawn0 w w')
   case atStart => exact ⟨(0), es_, H', ⟨Nat.le_refl _⟩, by repeat (first | exact Drawn0.refl _ | apply Drawn0.step)⟩
   case round =>
    clear H'
    try clear c2
    try clear c2b0
    try clear c2b1
    try clear p2
    obtain ⟨x15_1, rfl, HA, HK1, ⟨m1, rfl⟩⟩ := hrel
    cases gk with
    | zero => exact absurd HA.out (by simp [impl_FirstMeet.l0])
    | succ k1 =>
     have H := HA.out
     clear HA
     simp only [impl_FirstMeet.l0] at H
     by_cases c3 : x15_1 < (l0.length : Int)
     ·rw [if_pos c3] at H
      have c3b0 : decide (x15_1 < (l0.length : Int)) = true := decide_eq_true c3
      clear c3
      by_cases c4 : 0 ≤ x15_1
      ·rw [if_pos c4] at H
       have c4b0 : decide (0 ≤ x15_1) = true := decide_eq_true c4
       clear c4
       by_cases c5 : x15_1 < (l0.length : Int)
       ·rw [if_pos c5] at H
        have c5b0 : decide (x15_1 < (l0.length : Int)) = true := decide_eq_true c5
        clear c5
        by_cases c6 : 0 < (l0.length : Int)
        ·rw [if_pos c6] at H
         have c6b0 : decide (0 < (l0.length : Int)) = true := decide_eq_true c6
         have c6b1 : decide (0 < l0.length) = true := decide_eq_true (by omega)
         clear c6
         by_cases c7 : ((rd_L1 l0 x15_1).length : Int) = ((rd_L1 l0 0).length : Int)
         ·rw [if_pos c7] at H
          have c7b0 : (((rd_L1 l0 x15_1).length : Int) == ((rd_L1 l0 0).length : Int)) = true := beq_iff_eq.mpr c7
          have c7b1 : (((rd_L1 l0 x15_1).length : Int) != ((rd_L1 l0 0).length : Int)) = false := bne_eq_false_iff_eq.mpr c7
          have c7b2 : ((rd_L1 l0 x15_1).length == (rd_L1 l0 0).length) = true := by first | simpa using c7 | (simp at c7 ⊢; omega)
          clear c7
          have H' := Aside0.mk H
          clear H
          have p190 : 0 ≤ (x15_1 : Int) := of_decide_eq_true as_
          have q190 : x15_1 < (l0.length : Int) := of_decide_eq_true as_
          obtain ⟨ad190, A190_0, c190_0, e190, hx190_0, hl190_0, hi190_0⟩ := at_L1 HR0.out x15_1 p190 q190
          cases e190
          have HR190_0 := Aside0.mk hi190_0
          have HC190_0 := Aside0.mk hl190_0
          clear hi190_0 hl190_0
          replace p190 := eq_true p190
          replace q190 := eq_true q190
          have p191 : 0 ≤ (0 : Int) := (by omega)
          have q191 : 0 < (l0.length : Int) := of_decide_eq_true as_
          obtain ⟨ad191, A191_0, c191_0, e191, hx191_0, hl191_0, hi191_0⟩ := at_L1 HR0.out 0 p191 q191
          obtain rfl : ad190 = ad191 := (by injection e191)
          have qi191 : (0 < l0.length) = True := eq_true (by omega)
          (try rw [show ((0 : Int)).toNat = 0 from rfl] at hx191_0)
          (try rw [Addr.add_zero'] at hx191_0)
          have HR191_0 := Aside0.mk hi191_0
          have HC191_0 := Aside0.mk hl191_0
          clear hi191_0 hl191_0
          replace p191 := eq_true p191
          replace q191 := eq_true q191
          go_wp2
          repeat (go_quiet (fail); try go_wp2)
          go_roundg k1
          case measure => have := HK1.out; omega
          case rel => exact ⟨(wrap64 (x15_1 + 1)), es_, H', ⟨by have := HK1.out; omega⟩, by repeat (first | exact Drawn0.refl _ | apply Drawn0.step)⟩
         ·rw [if_neg c7] at H
          have c7b0 : (((rd_L1 l0 x15_1).length : Int) == ((rd_L1 l0 0).length : Int)) = false := beq_eq_false_iff_ne.mpr c7
          have c7b1 : (((rd_L1 l0 x15_1).length : Int) != ((rd_L1 l0 0).length : Int)) = true := bne_iff_ne.mpr c7
          have c7b2 : ((rd_L1 l0 x15_1).length == (rd_L1 l0 0).length) = false := by first | simpa using c7 | (simp at c7 ⊢; omega)
          obtain rfl := Option.some.inj H
          have p190 : 0 ≤ (x15_1 : Int) := of_decide_eq_true as_
          have q190 : x15_1 < (l0.length : Int) := of_decide_eq_true as_
          obtain ⟨ad190, A190_0, c190_0, e190, hx190_0, hl190_0, hi190_0⟩ := at_L1 HR0.out x15_1 p190 q190
          cases e190
          have HR190_0 := Aside0.mk hi190_0
          have HC190_0 := Aside0.mk hl190_0
          clear hi190_0 hl190_0
          replace p190 := eq_true p190
          replace q190 := eq_true q190
          have p191 : 0 ≤ (0 : Int) := (by omega)
          have q191 : 0 < (l0.length : Int) := of_decide_eq_true as_
          obtain ⟨ad191, A191_0, c191_0, e191, hx191_0, hl191_0, hi191_0⟩ := at_L1 HR0.out 0 p191 q191
          obtain rfl : ad190 = ad191 := (by injection e191)
          have qi191 : (0 < l0.length) = True := eq_true (by omega)
          (try rw [show ((0 : Int)).toNat = 0 from rfl] at hx191_0)
          (try rw [Addr.add_zero'] at hx191_0)
          have HR191_0 := Aside0.mk hi191_0
          have HC191_0 := Aside0.mk hl191_0
          clear hi191_0 hl191_0
          replace p191 := eq_true p191
          replace q191 := eq_true q191
          go_wp2
          repeat (go_quiet (fail); try go_wp2)
          go_ret
          exact ⟨es_, by repeat (first | exact Drawn0.refl _ | apply Drawn0.step)⟩
        ·rw [if_neg c6] at H
         exact absurd H (by simp)
       ·rw [if_neg c5] at H
        exact absurd H (by simp)
      ·rw [if_neg c4] at H
       exact absurd H (by simp)
     ·rw [if_neg c3] at H
      have c3b0 : decide (x15_1 < (l0.length : Int)) = false := decide_eq_false c3
      clear c3
      by_cases c8 : (l0.length : Int) = 0
      ·rw [if_pos c8] at H
       have c8b0 : ((l0.length : Int) == 0) = true := beq_iff_eq.mpr c8
       have c8b1 : ((l0.length : Int) != 0) = false := bne_eq_false_iff_eq.mpr c8
       clear c8
       obtain rfl := Option.some.inj H
       go_wp2
       repeat (go_quiet (fail); try go_wp2)
       go_ret
       exact ⟨es_, by repeat (first | exact Drawn0.refl _ | apply Drawn0.step)⟩
      ·rw [if_neg c8] at H
       have c8b0 : ((l0.length : Int) == 0) = false := beq_eq_false_iff_ne.mpr c8
       have c8b1 : ((l0.length : Int) != 0) = true := bne_iff_ne.mpr c8
       have c8b2 : ¬ (l0 = []) := fun h_ => c8 (by rw [h_]; rfl)
       by_cases c9 : 0 < (l0.length : Int)
       ·rw [if_pos c9] at H
        have c9b0 : decide (0 < (l0.length : Int)) = true := decide_eq_true c9
        have c9b1 : decide (0 < l0.length) = true := decide_eq_true (by omega)
        clear c9
        have H' := Aside0.mk H
        clear H
        have p192 : 0 ≤ (0 : Int) := (by omega)
        have q192 : 0 < (l0.length : Int) := of_decide_eq_true as_
        obtain ⟨ad192, A192_0, c192_0, e192, hx192_0, hl192_0, hi192_0⟩ := at_L1 HR0.out 0 p192 q192
        cases e192
        have qi192 : (0 < l0.length) = True := eq_true (by omega)
        (try rw [show ((0 : Int)).toNat = 0 from rfl] at hx192_0)
        (try rw [Addr.add_zero'] at hx192_0)
        have HR192_0 := Aside0.mk hi192_0
        have HC192_0 := Aside0.mk hl192_0
        clear hi192_0 hl192_0
        replace p192 := eq_true p192
        replace q192 := eq_true q192
        go_wp2
        repeat (go_quiet (fail); try go_wp2)
        go_loopg [34] k1 (fun kq v34 w' => ∃ (x34_2 : Int), v34 = .int .i64 x34_2 ∧ Aside0 (impl_FirstMeet.l1 kq l0 ((rd_L1 l0 0).length : Int) x34_2 = some r) ∧ Aside0 (kq ≤ k1) ∧ Drawn0 w w')
        case atStart => exact ⟨(0), es_, H', ⟨Nat.le_refl _⟩, by repeat (first | exact Drawn0.refl _ | apply Drawn0.step)⟩
        case round =>
         clear H'
         try clear c1
         try clear p1
         try clear q1
         try clear hx1
         try clear qi1
         try clear c2
         try clear c2b0
         try clear c2b1
         try clear p2
         try clear c3
         try clear c3b0
         try clear c4
         try clear c4b0
         try clear c5
         try clear c5b0
         try clear c6
         try clear c6b0
         try clear c6b1
         try clear p6
         try clear c7
         try clear c7b0
         try clear c7b1
         try clear c7b2
         try clear c8
         try clear c8b0
         try clear c8b1
         try clear c8b2
         try clear c9
         try clear c9b0
         try clear c9b1
         try clear hx190_0
         try clear hx191_0
         try clear hx192_0
         try clear p190
         try clear p191
         try clear p192
         try clear p2
         try clear q190
         try clear q191
         try clear q192
         obtain ⟨x34_2, rfl, HA, HK2, ⟨m2, rfl⟩⟩ := hrel
         cases gk with
         | zero => exact absurd HA.out (by simp [impl_FirstMeet.l1])
         | succ k2 =>
          have H := HA.out
          clear HA
          simp only [impl_FirstMeet.l1] at H
          by_cases c10 : x34_2 < ((rd_L1 l0 0).length : Int)
          ·rw [if_pos c10] at H
           have c10b0 : decide (x34_2 < ((rd_L1 l0 0).length : Int)) = true := decide_eq_true c10
           clear c10
           have H' := Aside0.mk H
           clear H
           go_wp2
           repeat (go_quiet (fail); try go_wp2)
           go_loopg [39] k2 (fun kq v39 w' => ∃ (x39_3 : Int), v39 = .int .i64 x39_3 ∧ Aside0 (impl_FirstMeet.l2 kq l0 x34_2 ((rd_L1 l0 0).length : Int) x34_2 l0 (l0.length : Int) x39_3 = some r) ∧ Aside0 (kq ≤ k2) ∧ Drawn0 w w')
           case atStart => exact ⟨(0), es_, H', ⟨Nat.le_refl _⟩, by repeat (first | exact Drawn0.refl _ | apply Drawn0.step)⟩
           case round =>
            clear H'
            try clear c1
            try clear p1
            try clear q1
            try clear hx1
            try clear qi1
            try clear c2
            try clear c2b0
            try clear c2b1
            try clear p2
            try clear c3
            try clear c3b0
            try clear c4
            try clear c4b0
            try clear c5
            try clear c5b0
            try clear c6
            try clear c6b0
            try clear c6b1
            try clear p6
            try clear c7
            try clear c7b0
            try clear c7b1
            try clear c7b2
            try clear c8
            try clear c8b0
            try clear c8b1
            try clear c8b2
            try clear c9
            try clear c9b0
            try clear c9b1
            try clear c10
            try clear c10b0
            try clear hx190_0
            try clear hx191_0
            try clear hx192_0
            try clear p1
            try clear p190
            try clear p191
            try clear p192
            try clear p2
            try clear p6
            try clear q1
            try clear q190
            try clear q191
            try clear q192
            obtain ⟨x39_3, rfl, HA, HK3, ⟨m3, rfl⟩⟩ := hrel
            cases gk with
            | zero => exact absurd HA.out (by simp [impl_FirstMeet.l2])
            | succ k3 =>
             have H := HA.out
             clear HA
             simp only [impl_FirstMeet.l2] at H
             by_cases c11 : x39_3 < (l0.length : Int)
             ·rw [if_pos c11] at H
              have c11b0 : decide (x39_3 < (l0.length : Int)) = true := decide_eq_true c11
              clear c11
              by_cases c12 : 0 ≤ x39_3
              ·rw [if_pos c12] at H
               have c12b0 : decide (0 ≤ x39_3) = true := decide_eq_true c12
               clear c12
               by_cases c13 : x39_3 < (l0.length : Int)
               ·rw [if_pos c13] at H
                have c13b0 : decide (x39_3 < (l0.length : Int)) = true := decide_eq_true c13
                clear c13
                have c14b0 := eq_true (of_decide_eq_true as_ : 0 ≤ x39_3)
                by_cases c15 : x39_3 ≤ (l0.length : Int)
                ·rw [if_pos c15] at H
                 have c15b0 := eq_true c15
                 have c15b1 : decide (x39_3 ≤ (l0.length : Int)) = true := decide_eq_true c15
                 clear c15
                 obtain ⟨y194, hy194⟩ : ∃ y_ : List (List Int), y_ = (l0.take (x39_3 : Int).toNat) := ⟨_, rfl⟩
                 replace H : (impl_FirstMeet.l3 k3 l0 x34_2 (rd_L1 l0 x39_3) ((rd_L1 l0 0).length : Int) x34_2 l0 (l0.length : Int) x39_3 y194 (y194.length : Int) 0) = some r := by first | (rw [hy194]; with_reducible exact H) | (have H2_ := (Option.bind_some _ _).symm.trans H; rw [hy194]; with_reducible exact H2_) | (have H2_ := (Option.bind_some _ _).symm.trans H; with_reducible exact H2_) | with_reducible exact H | (rw [hy194]; exact H) | exact H
                 have Ny194 := Aside0.mk hy194
                 clear hy194
                 have H' := Aside0.mk H
                 clear H
                 have p193 : 0 ≤ (x39_3 : Int) := of_decide_eq_true as_
                 have q193 : x39_3 < (l0.length : Int) := of_decide_eq_true as_
                 obtain ⟨ad193, A193_0, c193_0, e193, hx193_0, hl193_0, hi193_0⟩ := at_L1 HR0.out x39_3 p193 q193
                 obtain rfl : ad192 = ad193 := (by injection e193)
                 have HR193_0 := Aside0.mk hi193_0
                 have HC193_0 := Aside0.mk hl193_0
                 clear hi193_0 hl193_0
                 replace p193 := eq_true p193
                 replace q193 := eq_true q193
                 have q16 : (x39_3 : Int) ≤ ((l0.length : Int) : Int) := of_decide_eq_true as_
                 obtain ⟨i016, hi016, _, hsz16, _⟩ := info_parts info22
                 have hroom16 : l0.length ≤ c0 := HC0.out
                 have hC16 : Kd.C (Kd.slice 3 (Kd.int .i64)) _ (some ad192) l0.length l0 := HR0.out
                 have hcut16 := cut_to (P := Try.prog) 27 22 .i64 Try.underlying27 hi016 (some ad192) l0.length c0 x39_3 (of_decide_eq_true as_) q16 hroom16
                 have hr16 := Kd.C_take (m := (x39_3 : Int).toNat) hC16 (by omega)
                 have hy16 : y194.length = (x39_3 : Int).toNat := (by rw [Ny194.out, List.length_take]; omega)
                 rw [← Ny194.out] at hr16
                 rw [← hy16] at hcut16
                 have HR197 := Aside0.mk hr16
                 have HC197 := Aside0.mk (show y194.length ≤ c0 from by omega)
                 clear hr16 hC16 hroom16 hi016 hsz16
                 have KY16 := Aside0.mk hy16
                 clear hy16
                 replace q16 := eq_true q16
                 go_wp2
                 repeat (go_quiet (fail); try go_wp2)
                 go_loopg [48] k3 (fun kq v48 w' => ∃ (x48_4 : Int), v48 = .int .i64 x48_4 ∧ Aside0 (impl_FirstMeet.l3 kq l0 x34_2 (rd_L1 l0 x39_3) ((rd_L1 l0 0).length : Int) x34_2 l0 (l0.length : Int) x39_3 y194 (y194.length : Int) x48_4 = some r) ∧ Aside0 (kq ≤ k3) ∧ Drawn0 w w')
                 case atStart => exact ⟨(0), es_, H', ⟨Nat.le_refl _⟩, by repeat (first | exact Drawn0.refl _ | apply Drawn0.step)⟩
                 case round =>
                  clear H'
                  try clear c1
                  try clear p1
                  try clear q1
                  try clear hx1
                  try clear qi1
                  try clear c2
                  try clear c2b0
                  try clear c2b1
                  try clear p2
                  try clear c3
                  try clear c3b0
                  try clear c4
                  try clear c4b0
                  try clear c5
                  try clear c5b0
                  try clear c6
                  try clear c6b0
                  try clear c6b1
                  try clear p6
                  try clear c7
                  try clear c7b0
                  try clear c7b1
                  try clear c7b2
                  try clear c8
                  try clear c8b0
                  try clear c8b1
                  try clear c8b2
                  try clear c9
                  try clear c9b0
                  try clear c9b1
                  try clear c10
                  try clear c10b0
                  try clear c11
                  try clear c11b0
                  try clear c12
                  try clear c12b0
                  try clear c13
                  try clear c13b0
                  try clear c14
                  try clear c14b0
                  try clear c15
                  try clear c15b0
                  try clear c15b1
                  try clear q16
                  try clear hx190_0
                  try clear hx191_0
                  try clear hx192_0
                  try clear hx193_0
                  try clear p1
                  try clear p190
                  try clear p191
                  try clear p192
                  try clear p193
                  try clear p2
                  try clear p6
                  try clear q1
                  try clear q16
                  try clear q190
                  try clear q191
                  try clear q192
                  try clear q193
                  obtain ⟨x48_4, rfl, HA, HK4, ⟨m4, rfl⟩⟩ := hrel
                  cases gk with
                  | zero => exact absurd HA.out (by simp [impl_FirstMeet.l3])
                  | succ k4 =>
                   have H := HA.out
                   clear HA
                   simp only [impl_FirstMeet.l3] at H
                   by_cases c17 : x48_4 < (y194.length : Int)
                   ·rw [if_pos c17] at H
                    have c17b0 : decide (x48_4 < (y194.length : Int)) = true := decide_eq_true c17
                    clear c17
                    by_cases c18 : 0 ≤ x48_4
                    ·rw [if_pos c18] at H
                     have c18b0 : decide (0 ≤ x48_4) = true := decide_eq_true c18
                     clear c18
                     by_cases c19 : x48_4 < (y194.length : Int)
                     ·rw [if_pos c19] at H
                      have c19b0 : decide (x48_4 < (y194.length : Int)) = true := decide_eq_true c19
                      clear c19
                      by_cases c20 : 0 ≤ x34_2
                      ·rw [if_pos c20] at H
                       have c20b0 : decide (0 ≤ x34_2) = true := decide_eq_true c20
                       clear c20
                       by_cases c21 : x34_2 < ((rd_L1 l0 x39_3).length : Int)
                       ·rw [if_pos c21] at H
                        have c21b0 : decide (x34_2 < ((rd_L1 l0 x39_3).length : Int)) = true := decide_eq_true c21
                        clear c21
                        by_cases c22 : x34_2 < ((rd_L1 y194 x48_4).length : Int)
                        ·rw [if_pos c22] at H
                         have c22b0 : decide (x34_2 < ((rd_L1 y194 x48_4).length : Int)) = true := decide_eq_true c22
                         clear c22
                         by_cases c23 : (rd (rd_L1 l0 x39_3) x34_2) = (rd (rd_L1 y194 x48_4) x34_2)
                         ·rw [if_pos c23] at H
                          have c23b0 : ((rd (rd_L1 l0 x39_3) x34_2) == (rd (rd_L1 y194 x48_4) x34_2)) = true := beq_iff_eq.mpr c23
                          have c23b1 : ((rd (rd_L1 l0 x39_3) x34_2) != (rd (rd_L1 y194 x48_4) x34_2)) = false := bne_eq_false_iff_eq.mpr c23
                          clear c23
                          obtain rfl := Option.some.inj H
                          have p198 : 0 ≤ (x48_4 : Int) := of_decide_eq_true as_
                          have q198 : x48_4 < (y194.length : Int) := of_decide_eq_true as_
                          obtain ⟨ad198, A198_0, c198_0, e198, hx198_0, hl198_0, hi198_0⟩ := at_L1 HR197.out x48_4 p198 q198
                          obtain rfl : ad192 = ad198 := (by injection e198)
                          have HR198_0 := Aside0.mk hi198_0
                          have HC198_0 := Aside0.mk hl198_0
                          clear hi198_0 hl198_0
                          replace p198 := eq_true p198
                          replace q198 := eq_true q198
                          have p199 : 0 ≤ (x34_2 : Int) := of_decide_eq_true as_
                          have q199 : x34_2 < ((rd_L1 l0 x39_3).length : Int) := of_decide_eq_true as_
                          obtain ⟨ad199, e199, hx199_0⟩ := Kd.at_int HR193_0.out x34_2 p199 q199
                          cases e199
                          replace p199 := eq_true p199
                          replace q199 := eq_true q199
                          have p200 : 0 ≤ (x34_2 : Int) := of_decide_eq_true as_
                          have q200 : x34_2 < ((rd_L1 y194 x48_4).length : Int) := of_decide_eq_true as_
                          obtain ⟨ad200, e200, hx200_0⟩ := Kd.at_int HR198_0.out x34_2 p200 q200
                          cases e200
                          replace p200 := eq_true p200
                          replace q200 := eq_true q200
                          go_wp2
                          repeat (go_quiet (fail); try go_wp2)
                          go_ret
                          exact ⟨es_, by repeat (first | exact Drawn0.refl _ | apply Drawn0.step)⟩
                         ·rw [if_neg c23] at H
                          have c23b0 : ((rd (rd_L1 l0 x39_3) x34_2) == (rd (rd_L1 y194 x48_4) x34_2)) = false := beq_eq_false_iff_ne.mpr c23
                          have c23b1 : ((rd (rd_L1 l0 x39_3) x34_2) != (rd (rd_L1 y194 x48_4) x34_2)) = true := bne_iff_ne.mpr c23
                          by_cases c24 : x34_2 > 0
                          ·rw [if_pos c24] at H
                           have c24b0 : decide (0 < x34_2) = true := decide_eq_true c24
                           clear c24
                           obtain ⟨ji25, hji25⟩ : ∃ j_ : Int, (wrap64 (x34_2 - 1)) = j_ := ⟨_, rfl⟩
                           replace H : (if 0 ≤ (ji25) then (if (ji25) < ((rd_L1 y194 x48_4).length : Int) then (if (rd (rd_L1 l0 x39_3) x34_2) = (rd (rd_L1 y194 x48_4) (ji25)) then (if (ji25) < ((rd_L1 l0 x39_3).length : Int) then (if (rd (rd_L1 y194 x48_4) x34_2) = (rd (rd_L1 l0 x39_3) (ji25)) then (some x34_2) else (impl_FirstMeet.l3 k4 l0 x34_2 (rd_L1 l0 x39_3) ((rd_L1 l0 0).length : Int) x34_2 l0 (l0.length : Int) x39_3 y194 (y194.length : Int) (wrap64 (x48_4 + 1)))) else (none)) else (impl_FirstMeet.l3 k4 l0 x34_2 (rd_L1 l0 x39_3) ((rd_L1 l0 0).length : Int) x34_2 l0 (l0.length : Int) x39_3 y194 (y194.length : Int) (wrap64 (x48_4 + 1)))) else (none)) else (none)) = some r := by first | (rw [hji25] at H; exact H) | (simp only [hji25] at H ⊢; exact H)
                           have hji25w : (IntKind.i64.wrap (x34_2 - 1)) = ji25 := (i64_w _).trans hji25
                           by_cases c26 : 0 ≤ (ji25)
                           ·rw [if_pos c26] at H
                            have c26b0 : decide (0 ≤ (ji25)) = true := decide_eq_true c26
                            clear c26
                            by_cases c27 : (ji25) < ((rd_L1 y194 x48_4).length : Int)
                            ·rw [if_pos c27] at H
                             have c27b0 : decide ((ji25) < ((rd_L1 y194 x48_4).length : Int)) = true := decide_eq_true c27
                             clear c27
                             by_cases c28 : (rd (rd_L1 l0 x39_3) x34_2) = (rd (rd_L1 y194 x48_4) (ji25))
                             ·rw [if_pos c28] at H
                              have c28b0 : ((rd (rd_L1 l0 x39_3) x34_2) == (rd (rd_L1 y194 x48_4) (ji25))) = true := beq_iff_eq.mpr c28
                              have c28b1 : ((rd (rd_L1 l0 x39_3) x34_2) != (rd (rd_L1 y194 x48_4) (ji25))) = false := bne_eq_false_iff_eq.mpr c28
                              clear c28
                              by_cases c29 : (ji25) < ((rd_L1 l0 x39_3).length : Int)
                              ·rw [if_pos c29] at H
                               have c29b0 : decide ((ji25) < ((rd_L1 l0 x39_3).length : Int)) = true := decide_eq_true c29
                               clear c29
                               by_cases c30 : (rd (rd_L1 y194 x48_4) x34_2) = (rd (rd_L1 l0 x39_3) (ji25))
                               ·rw [if_pos c30] at H
                                have c30b0 : ((rd (rd_L1 y194 x48_4) x34_2) == (rd (rd_L1 l0 x39_3) (ji25))) = true := beq_iff_eq.mpr c30
                                have c30b1 : ((rd (rd_L1 y194 x48_4) x34_2) != (rd (rd_L1 l0 x39_3) (ji25))) = false := bne_eq_false_iff_eq.mpr c30
                                clear c30
                                obtain rfl := Option.some.inj H
                                have p198 : 0 ≤ (x48_4 : Int) := of_decide_eq_true as_
                                have q198 : x48_4 < (y194.length : Int) := of_decide_eq_true as_
                                obtain ⟨ad198, A198_0, c198_0, e198, hx198_0, hl198_0, hi198_0⟩ := at_L1 HR197.out x48_4 p198 q198
                                obtain rfl : ad192 = ad198 := (by injection e198)
                                have HR198_0 := Aside0.mk hi198_0
                                have HC198_0 := Aside0.mk hl198_0
                                clear hi198_0 hl198_0
                                replace p198 := eq_true p198
                                replace q198 := eq_true q198
                                have p199 : 0 ≤ (x34_2 : Int) := of_decide_eq_true as_
                                have q199 : x34_2 < ((rd_L1 l0 x39_3).length : Int) := of_decide_eq_true as_
                                obtain ⟨ad199, e199, hx199_0⟩ := Kd.at_int HR193_0.out x34_2 p199 q199
                                cases e199
                                replace p199 := eq_true p199
                                replace q199 := eq_true q199
                                have p200 : 0 ≤ (x34_2 : Int) := of_decide_eq_true as_
                                have q200 : x34_2 < ((rd_L1 y194 x48_4).length : Int) := of_decide_eq_true as_
                                obtain ⟨ad200, e200, hx200_0⟩ := Kd.at_int HR198_0.out x34_2 p200 q200
                                cases e200
                                replace p200 := eq_true p200
                                replace q200 := eq_true q200
                                have p201 : 0 ≤ (x34_2 : Int) := of_decide_eq_true as_
                                have q201 : x34_2 < ((rd_L1 l0 x39_3).length : Int) := of_decide_eq_true as_
                                obtain ⟨ad201, e201, hx201_0⟩ := Kd.at_int HR193_0.out x34_2 p201 q201
                                obtain rfl : ad199 = ad201 := (by injection e201)
                                replace p201 := eq_true p201
                                replace q201 := eq_true q201
                                have p202 : 0 ≤ ((ji25) : Int) := of_decide_eq_true as_
                                have q202 : (ji25) < ((rd_L1 y194 x48_4).length : Int) := of_decide_eq_true as_
                                obtain ⟨ad202, e202, hx202_0⟩ := Kd.at_int HR198_0.out (ji25) p202 q202
                                obtain rfl : ad200 = ad202 := (by injection e202)
                                replace p202 := eq_true p202
                                replace q202 := eq_true q202
                                have p203 : 0 ≤ (x34_2 : Int) := of_decide_eq_true as_
                                have q203 : x34_2 < ((rd_L1 y194 x48_4).length : Int) := of_decide_eq_true as_
                                obtain ⟨ad203, e203, hx203_0⟩ := Kd.at_int HR198_0.out x34_2 p203 q203
                                obtain rfl : ad200 = ad203 := (by injection e203)
                                replace p203 := eq_true p203
                                replace q203 := eq_true q203
                                have p204 : 0 ≤ ((ji25) : Int) := of_decide_eq_true as_
                                have q204 : (ji25) < ((rd_L1 l0 x39_3).length : Int) := of_decide_eq_true as_
                                obtain ⟨ad204, e204, hx204_0⟩ := Kd.at_int HR193_0.out (ji25) p204 q204
                                obtain rfl : ad199 = ad204 := (by injection e204)
                                replace p204 := eq_true p204
                                replace q204 := eq_true q204
                                go_wp2
                                repeat (go_quiet (fail); try go_wp2)
                                go_ret
                                exact ⟨by first | rfl | (simp; done) | (simp only [← hji25] <;> (first | rfl | simp)) | (simp [*]; done), by repeat (first | exact Drawn0.refl _ | apply Drawn0.step)⟩
                               ·rw [if_neg c30] at H
                                have c30b0 : ((rd (rd_L1 y194 x48_4) x34_2) == (rd (rd_L1 l0 x39_3) (ji25))) = false := beq_eq_false_iff_ne.mpr c30
                                have c30b1 : ((rd (rd_L1 y194 x48_4) x34_2) != (rd (rd_L1 l0 x39_3) (ji25))) = true := bne_iff_ne.mpr c30
                                have H' := Aside0.mk H
                                clear H
                                have p198 : 0 ≤ (x48_4 : Int) := of_decide_eq_true as_
                                have q198 : x48_4 < (y194.length : Int) := of_decide_eq_true as_
                                obtain ⟨ad198, A198_0, c198_0, e198, hx198_0, hl198_0, hi198_0⟩ := at_L1 HR197.out x48_4 p198 q198
                                obtain rfl : ad192 = ad198 := (by injection e198)
                                have HR198_0 := Aside0.mk hi198_0
                                have HC198_0 := Aside0.mk hl198_0
                                clear hi198_0 hl198_0
                                replace p198 := eq_true p198
                                replace q198 := eq_true q198
                                have p199 : 0 ≤ (x34_2 : Int) := of_decide_eq_true as_
                                have q199 : x34_2 < ((rd_L1 l0 x39_3).length : Int) := of_decide_eq_true as_
                                obtain ⟨ad199, e199, hx199_0⟩ := Kd.at_int HR193_0.out x34_2 p199 q199
                                cases e199
                                replace p199 := eq_true p199
                                replace q199 := eq_true q199
                                have p200 : 0 ≤ (x34_2 : Int) := of_decide_eq_true as_
                                have q200 : x34_2 < ((rd_L1 y194 x48_4).length : Int) := of_decide_eq_true as_
                                obtain ⟨ad200, e200, hx200_0⟩ := Kd.at_int HR198_0.out x34_2 p200 q200
                                cases e200
                                replace p200 := eq_true p200
                                replace q200 := eq_true q200
                                have p201 : 0 ≤ (x34_2 : Int) := of_decide_eq_true as_
                                have q201 : x34_2 < ((rd_L1 l0 x39_3).length : Int) := of_decide_eq_true as_
                                obtain ⟨ad201, e201, hx201_0⟩ := Kd.at_int HR193_0.out x34_2 p201 q201
                                obtain rfl : ad199 = ad201 := (by injection e201)
                                replace p201 := eq_true p201
                                replace q201 := eq_true q201
                                have p202 : 0 ≤ ((ji25) : Int) := of_decide_eq_true as_
                                have q202 : (ji25) < ((rd_L1 y194 x48_4).length : Int) := of_decide_eq_true as_
                                obtain ⟨ad202, e202, hx202_0⟩ := Kd.at_int HR198_0.out (ji25) p202 q202
                                obtain rfl : ad200 = ad202 := (by injection e202)
                                replace p202 := eq_true p202
                                replace q202 := eq_true q202
                                have p203 : 0 ≤ (x34_2 : Int) := of_decide_eq_true as_
                                have q203 : x34_2 < ((rd_L1 y194 x48_4).length : Int) := of_decide_eq_true as_
                                obtain ⟨ad203, e203, hx203_0⟩ := Kd.at_int HR198_0.out x34_2 p203 q203
                                obtain rfl : ad200 = ad203 := (by injection e203)
                                replace p203 := eq_true p203
                                replace q203 := eq_true q203
                                have p204 : 0 ≤ ((ji25) : Int) := of_decide_eq_true as_
                                have q204 : (ji25) < ((rd_L1 l0 x39_3).length : Int) := of_decide_eq_true as_
                                obtain ⟨ad204, e204, hx204_0⟩ := Kd.at_int HR193_0.out (ji25) p204 q204
                                obtain rfl : ad199 = ad204 := (by injection e204)
                                replace p204 := eq_true p204
                                replace q204 := eq_true q204
                                go_wp2
                                repeat (go_quiet (fail); try go_wp2)
                                go_roundg k4
                                case measure => have := HK1.out; have := HK2.out; have := HK3.out; have := HK4.out; omega
                                case rel => exact ⟨(wrap64 (x48_4 + 1)), es_, H', ⟨by have := HK1.out; have := HK2.out; have := HK3.out; have := HK4.out; omega⟩, by repeat (first | exact Drawn0.refl _ | apply Drawn0.step)⟩
                              ·rw [if_neg c29] at H
                               exact absurd H (by simp)
                             ·rw [if_neg c28] at H
                              have c28b0 : ((rd (rd_L1 l0 x39_3) x34_2) == (rd (rd_L1 y194 x48_4) (ji25))) = false := beq_eq_false_iff_ne.mpr c28
                              have c28b1 : ((rd (rd_L1 l0 x39_3) x34_2) != (rd (rd_L1 y194 x48_4) (ji25))) = true := bne_iff_ne.mpr c28
                              have H' := Aside0.mk H
                              clear H
                              have p198 : 0 ≤ (x48_4 : Int) := of_decide_eq_true as_
                              have q198 : x48_4 < (y194.length : Int) := of_decide_eq_true as_
                              obtain ⟨ad198, A198_0, c198_0, e198, hx198_0, hl198_0, hi198_0⟩ := at_L1 HR197.out x48_4 p198 q198
                              obtain rfl : ad192 = ad198 := (by injection e198)
                              have HR198_0 := Aside0.mk hi198_0
                              have HC198_0 := Aside0.mk hl198_0
                              clear hi198_0 hl198_0
                              replace p198 := eq_true p198
                              replace q198 := eq_true q198
                              have p199 : 0 ≤ (x34_2 : Int) := of_decide_eq_true as_
                              have q199 : x34_2 < ((rd_L1 l0 x39_3).length : Int) := of_decide_eq_true as_
                              obtain ⟨ad199, e199, hx199_0⟩ := Kd.at_int HR193_0.out x34_2 p199 q199
                              cases e199
                              replace p199 := eq_true p199
                              replace q199 := eq_true q199
                              have p200 : 0 ≤ (x34_2 : Int) := of_decide_eq_true as_
                              have q200 : x34_2 < ((rd_L1 y194 x48_4).length : Int) := of_decide_eq_true as_
                              obtain ⟨ad200, e200, hx200_0⟩ := Kd.at_int HR198_0.out x34_2 p200 q200
                              cases e200
                              replace p200 := eq_true p200
                              replace q200 := eq_true q200
                              have p201 : 0 ≤ (x34_2 : Int) := of_decide_eq_true as_
                              have q201 : x34_2 < ((rd_L1 l0 x39_3).length : Int) := of_decide_eq_true as_
                              obtain ⟨ad201, e201, hx201_0⟩ := Kd.at_int HR193_0.out x34_2 p201 q201
                              obtain rfl : ad199 = ad201 := (by injection e201)
                              replace p201 := eq_true p201
                              replace q201 := eq_true q201
                              have p202 : 0 ≤ ((ji25) : Int) := of_decide_eq_true as_
                              have q202 : (ji25) < ((rd_L1 y194 x48_4).length : Int) := of_decide_eq_true as_
                              obtain ⟨ad202, e202, hx202_0⟩ := Kd.at_int HR198_0.out (ji25) p202 q202
                              obtain rfl : ad200 = ad202 := (by injection e202)
                              replace p202 := eq_true p202
                              replace q202 := eq_true q202
                              go_wp2
                              repeat (go_quiet (fail); try go_wp2)
                              go_roundg k4
                              case measure => have := HK1.out; have := HK2.out; have := HK3.out; have := HK4.out; omega
                              case rel => exact ⟨(wrap64 (x48_4 + 1)), es_, H', ⟨by have := HK1.out; have := HK2.out; have := HK3.out; have := HK4.out; omega⟩, by repeat (first | exact Drawn0.refl _ | apply Drawn0.step)⟩
                            ·rw [if_neg c27] at H
                             exact absurd H (by simp)
                           ·rw [if_neg c26] at H
                            exact absurd H (by simp)
                          ·rw [if_neg c24] at H
                           have c24b0 : decide (0 < x34_2) = false := decide_eq_false c24
                           clear c24
                           have H' := Aside0.mk H
                           clear H
                           have p198 : 0 ≤ (x48_4 : Int) := of_decide_eq_true as_
                           have q198 : x48_4 < (y194.length : Int) := of_decide_eq_true as_
                           obtain ⟨ad198, A198_0, c198_0, e198, hx198_0, hl198_0, hi198_0⟩ := at_L1 HR197.out x48_4 p198 q198
                           obtain rfl : ad192 = ad198 := (by injection e198)
                           have HR198_0 := Aside0.mk hi198_0
                           have HC198_0 := Aside0.mk hl198_0
                           clear hi198_0 hl198_0
                           replace p198 := eq_true p198
                           replace q198 := eq_true q198
                           have p199 : 0 ≤ (x34_2 : Int) := of_decide_eq_true as_
                           have q199 : x34_2 < ((rd_L1 l0 x39_3).length : Int) := of_decide_eq_true as_
                           obtain ⟨ad199, e199, hx199_0⟩ := Kd.at_int HR193_0.out x34_2 p199 q199
                           cases e199
                           replace p199 := eq_true p199
                           replace q199 := eq_true q199
                           have p200 : 0 ≤ (x34_2 : Int) := of_decide_eq_true as_
                           have q200 : x34_2 < ((rd_L1 y194 x48_4).length : Int) := of_decide_eq_true as_
                           obtain ⟨ad200, e200, hx200_0⟩ := Kd.at_int HR198_0.out x34_2 p200 q200
                           cases e200
                           replace p200 := eq_true p200
                           replace q200 := eq_true q200
                           go_wp2
                           repeat (go_quiet (fail); try go_wp2)
                           go_roundg k4
                           case measure => have := HK1.out; have := HK2.out; have := HK3.out; have := HK4.out; omega
                           case rel => exact ⟨(wrap64 (x48_4 + 1)), es_, H', ⟨by have := HK1.out; have := HK2.out; have := HK3.out; have := HK4.out; omega⟩, by repeat (first | exact Drawn0.refl _ | apply Drawn0.step)⟩
                        ·rw [if_neg c22] at H
                         exact absurd H (by simp)
                       ·rw [if_neg c21] at H
                        exact absurd H (by simp)
                      ·rw [if_neg c20] at H
                       exact absurd H (by simp)
                     ·rw [if_neg c19] at H
                      exact absurd H (by simp)
                    ·rw [if_neg c18] at H
                     exact absurd H (by simp)
                   ·rw [if_neg c17] at H
                    have c17b0 : decide (x48_4 < (y194.length : Int)) = false := decide_eq_false c17
                    clear c17
                    have H' := Aside0.mk H
                    clear H
                    go_wp2
                    repeat (go_quiet (fail); try go_wp2)
                    go_roundg k4
                    case measure => have := HK1.out; have := HK2.out; have := HK3.out; have := HK4.out; omega
                    case rel => exact ⟨(wrap64 (x39_3 + 1)), es_, H', ⟨by have := HK1.out; have := HK2.out; have := HK3.out; have := HK4.out; omega⟩, by repeat (first | exact Drawn0.refl _ | apply Drawn0.step)⟩
                ·rw [if_neg c15] at H
                 exact absurd H (by simp)
               ·rw [if_neg c13] at H
                exact absurd H (by simp)
              ·rw [if_neg c12] at H
               exact absurd H (by simp)
             ·rw [if_neg c11] at H
              have c11b0 : decide (x39_3 < (l0.length : Int)) = false := decide_eq_false c11
              clear c11
              have H' := Aside0.mk H
              clear H
              go_wp2
              repeat (go_quiet (fail); try go_wp2)
              go_roundg k3
              case measure => have := HK1.out; have := HK2.out; have := HK3.out; omega
              case rel => exact ⟨(wrap64 (x34_2 + 1)), es_, H', ⟨by have := HK1.out; have := HK2.out; have := HK3.out; omega⟩, by repeat (first | exact Drawn0.refl _ | apply Drawn0.step)⟩
          ·rw [if_neg c10] at H
           have c10b0 : decide (x34_2 < ((rd_L1 l0 0).length : Int)) = false := decide_eq_false c10
           clear c10
           obtain rfl := Option.some.inj H
           go_wp2
           repeat (go_quiet (fail); try go_wp2)
           go_ret
           exact ⟨es_, by repeat (first | exact Drawn0.refl _ | apply Drawn0.step)⟩
       ·rw [if_neg c9] at H
        exact absurd H (by simp)

end Go.Proofs.Ytcldlljnaijmhaa.Pr
