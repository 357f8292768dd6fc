-- Written by this session's own print (wip/tools/mkmp.py) out of the translation. Lean checks it.
import Derived.Test.YtcldlljnaijmhaaPr0
import Derived.Test.YtcldlljnaijmhaaPrd1
namespace Go.Proofs.Ytcldlljnaijmhaa.Pr
open Go.RowKit Go.Proofs.YtcldlljnaijmhaaW.PrintWords Go.Proofs.YtcldlljnaijmhaaW.PrintLast Go.Proofs.YtcldlljnaijmhaaW.PrintMore
attribute [local go_sem] max2_int min2_int max_two min_two max_three min_three max_four min_four   -- for this text's walks alone
set_option linter.unusedVariables false
set_option linter.unusedSimpArgs false

set_option maxHeartbeats 8000000 in
set_option maxRecDepth 100000 in
theorem spec_WaitRing.calls (k : Nat) (A0 : Option Addr) (c0 : Nat) (l0 : List Int) (r : List Int) (w : World) (hr0 : Kd.C (Kd.int .i64) w A0 l0.length l0) (hc0 : l0.length ≤ c0) (h : spec_WaitRing.f k l0 = some r) :
   Calls Try.prog 12 #[.slice A0 l0.length c0] w fun e w' => ∃ v0_ : Value, e = .returned (v0_) ∧ Kd.R (Kd.int .i64) 3 w' w.heap.size (fun _ => True) v0_ r ∧ Below w.heap.size w w' := by
  have HR0 := Aside0.mk hr0
  have HC0 := Aside0.mk hc0
  clear hr0 hc0
  have HB := Aside0.mk (Below.refl w.heap.size w)
  have H : (if (l0.length : Int) > 5 then (some ([] : List Int)) else (spec_WaitRing.l0 k l0 l0 (l0.length : Int) 0)) = some r := h
  clear h
  by_cases c2 : (l0.length : Int) > 5
  ·rw [if_pos c2] at H
   have c2b0 : decide (5 < (l0.length : Int)) = true := decide_eq_true c2
   have c2b1 : decide (5 < l0.length) = true := decide_eq_true (by omega)
   clear c2
   obtain rfl := Option.some.inj H
   go_enter Try.func12, Try.ntmps12
   go_wp2
   go_ret
   exact ⟨_, er_, by first | exact Kd.R_nil _ _ _ _ _ | exact Kd.N_nil _ _ _ _ _ | exact Kd.V_nil _ _ _ _ _ | exact Kd.Q_nil _ _ _ _ _ | exact Kd.S_nil _ _ _ _ _, hb_⟩
  ·rw [if_neg c2] at H
   have c2b0 : decide (5 < (l0.length : Int)) = false := decide_eq_false c2
   have c2b1 : decide (5 < l0.length) = false := decide_eq_false (by omega)
   clear c2
   have H' := Aside0.mk H
   clear H
   go_enter Try.func12, Try.ntmps12
   go_wp2
   go_loopg [14] k (fun kq v14 w' => ∃ (x14_1 : Int), v14 = .int .i64 x14_1 ∧ Aside0 (spec_WaitRing.l0 kq l0 l0 (l0.length : Int) x14_1 = some r) ∧ Aside0 (kq ≤ k) ∧ Aside0 (Below w.heap.size w w'))
   case atStart => exact ⟨(0), es_, H', ⟨Nat.le_refl _⟩, ⟨hb_⟩⟩
   case round =>
    clear H'
    try clear c1
    try clear c2
    try clear c2b0
    try clear c2b1
    try clear p2
    obtain ⟨x14_1, rfl, HA, HK1, HB⟩ := hrel
    cases gk with
    | zero => exact absurd HA.out (by simp [spec_WaitRing.l0])
    | succ k1 =>
     have H := HA.out
     clear HA
     simp only [spec_WaitRing.l0] at H
     by_cases c3 : x14_1 < (l0.length : Int)
     ·rw [if_pos c3] at H
      have c3b0 : decide (x14_1 < (l0.length : Int)) = true := decide_eq_true c3
      clear c3
      by_cases c4 : 0 ≤ x14_1
      ·rw [if_pos c4] at H
       have c4b0 : decide (0 ≤ x14_1) = true := decide_eq_true c4
       clear c4
       by_cases c5 : x14_1 < (l0.length : Int)
       ·rw [if_pos c5] at H
        have c5b0 : decide (x14_1 < (l0.length : Int)) = true := decide_eq_true c5
        clear c5
        by_cases c6 : (rd l0 x14_1) < (-1)
        ·rw [if_pos c6] at H
         have c6b0 : decide ((rd l0 x14_1) < (-1)) = true := decide_eq_true c6
         clear c6
         obtain rfl := Option.some.inj H
         have p101 : 0 ≤ (x14_1 : Int) := of_decide_eq_true as_
         have q101 : x14_1 < (l0.length : Int) := of_decide_eq_true as_
         obtain ⟨ad101, e101, hx101_0⟩ := Kd.at_int HR0.out x14_1 p101 q101
         cases e101
         replace hx101_0 := hc_ HB hx101_0
         replace p101 := eq_true p101
         replace q101 := eq_true q101
         go_wp2
         go_ret
         exact ⟨_, er_, by first | exact Kd.R_nil _ _ _ _ _ | exact Kd.N_nil _ _ _ _ _ | exact Kd.V_nil _ _ _ _ _ | exact Kd.Q_nil _ _ _ _ _ | exact Kd.S_nil _ _ _ _ _, hb_⟩
        ·rw [if_neg c6] at H
         have c6b0 : decide ((rd l0 x14_1) < (-1)) = false := decide_eq_false c6
         clear c6
         by_cases c7 : (rd l0 x14_1) ≥ (l0.length : Int)
         ·rw [if_pos c7] at H
          have c7b0 : decide ((l0.length : Int) ≤ (rd l0 x14_1)) = true := decide_eq_true c7
          clear c7
          obtain rfl := Option.some.inj H
          have p101 : 0 ≤ (x14_1 : Int) := of_decide_eq_true as_
          have q101 : x14_1 < (l0.length : Int) := of_decide_eq_true as_
          obtain ⟨ad101, e101, hx101_0⟩ := Kd.at_int HR0.out x14_1 p101 q101
          cases e101
          replace hx101_0 := hc_ HB hx101_0
          replace p101 := eq_true p101
          replace q101 := eq_true q101
          go_wp2
          go_ret
          exact ⟨_, er_, by first | exact Kd.R_nil _ _ _ _ _ | exact Kd.N_nil _ _ _ _ _ | exact Kd.V_nil _ _ _ _ _ | exact Kd.Q_nil _ _ _ _ _ | exact Kd.S_nil _ _ _ _ _, hb_⟩
         ·rw [if_neg c7] at H
          have c7b0 : decide ((l0.length : Int) ≤ (rd l0 x14_1)) = false := decide_eq_false c7
          clear c7
          have H' := Aside0.mk H
          clear H
          have p101 : 0 ≤ (x14_1 : Int) := of_decide_eq_true as_
          have q101 : x14_1 < (l0.length : Int) := of_decide_eq_true as_
          obtain ⟨ad101, e101, hx101_0⟩ := Kd.at_int HR0.out x14_1 p101 q101
          cases e101
          replace hx101_0 := hc_ HB hx101_0
          replace p101 := eq_true p101
          replace q101 := eq_true q101
          go_wp2
          go_roundg k1
          case measure => have := HK1.out; omega
          case rel => exact ⟨(wrap64 (x14_1 + 1)), es_, H', ⟨by have := HK1.out; omega⟩, ⟨hb_⟩⟩
       ·rw [if_neg c5] at H
        exact absurd H (by simp)
      ·rw [if_neg c4] at H
       exact absurd H (by simp)
     ·rw [if_neg c3] at H
      have c3b0 : decide (x14_1 < (l0.length : Int)) = false := decide_eq_false c3
      clear c3
      have H' := Aside0.mk H
      clear H
      go_wp2
      go_loopg [5, 29] k1 (fun kq v5 v29 w' => ∃ (x5_2 : List Int) (x29_2 : Int), v29 = .int .i64 x29_2 ∧ Aside0 (spec_WaitRing.l1 kq l0 x5_2 (l0.length : Int) x29_2 = some r) ∧ Aside0 (kq ≤ k1) ∧ Aside0 (Kd.R (Kd.int .i64) 3 w' w.heap.size (fun _ => True) v5 x5_2) ∧ Aside0 (Below w.heap.size w w'))
      case atStart => exact ⟨(([] : List Int)), (0), es_, H', ⟨Nat.le_refl _⟩, ⟨by first | exact Kd.R_nil _ _ _ _ _ | exact Kd.N_nil _ _ _ _ _ | exact Kd.V_nil _ _ _ _ _ | exact Kd.Q_nil _ _ _ _ _ | exact Kd.S_nil _ _ _ _ _⟩, ⟨hb_⟩⟩
      case round =>
       clear H'
       try clear c1
       try clear p1
       try clear q1
       try clear hx1
       try clear c2
       try clear c2b0
       try clear c2b1
       try clear p2
       try clear c3
       try clear c3b0
       try clear c4
       try clear c4b0
       try clear c5
       try clear c5b0
       try clear c6
       try clear c6b0
       try clear p6
       try clear c7
       try clear c7b0
       try clear hx101_0
       try clear p101
       try clear p2
       try clear q101
       obtain ⟨x5_2, x29_2, rfl, HA, HK2, HO_5, HB⟩ := hrel
       cases gk with
       | zero => exact absurd HA.out (by simp [spec_WaitRing.l1])
       | succ k2 =>
        have H := HA.out
        clear HA
        simp only [spec_WaitRing.l1] at H
        by_cases c8 : x29_2 < (l0.length : Int)
        ·rw [if_pos c8] at H
         have c8b0 : decide (x29_2 < (l0.length : Int)) = true := decide_eq_true c8
         clear c8
         by_cases c9 : 0 ≤ x29_2
         ·rw [if_pos c9] at H
          have c9b0 : decide (0 ≤ x29_2) = true := decide_eq_true c9
          clear c9
          by_cases c10 : x29_2 < (l0.length : Int)
          ·rw [if_pos c10] at H
           have c10b0 : decide (x29_2 < (l0.length : Int)) = true := decide_eq_true c10
           clear c10
           have H' := Aside0.mk H
           clear H
           have p102 : 0 ≤ (x29_2 : Int) := of_decide_eq_true as_
           have q102 : x29_2 < (l0.length : Int) := of_decide_eq_true as_
           obtain ⟨ad102, e102, hx102_0⟩ := Kd.at_int HR0.out x29_2 p102 q102
           cases e102
           replace hx102_0 := hc_ HB hx102_0
           replace p102 := eq_true p102
           replace q102 := eq_true q102
           go_wp2
           go_loopg [7, 8] k2 (fun kq v7 v8 w' => ∃ (x7_3 : Int) (x8_3 : Int), v7 = .int .i64 x7_3 ∧ v8 = .int .i64 x8_3 ∧ Aside0 (spec_WaitRing.l2 kq l0 x5_2 x29_2 x7_3 x8_3 (l0.length : Int) x29_2 = some r) ∧ Aside0 (kq ≤ k2) ∧ Aside0 (Kd.R (Kd.int .i64) 3 w' w.heap.size (fun _ => True) u5 x5_2) ∧ Aside0 (Below w.heap.size w w'))
           case atStart => exact ⟨(rd l0 x29_2), (0), es_, es_, H', ⟨Nat.le_refl _⟩, ⟨ra_ HO_5.out⟩, ⟨hb_⟩⟩
           case round =>
            clear H'
            try clear c1
            try clear p1
            try clear q1
            try clear hx1
            try clear c2
            try clear c2b0
            try clear c2b1
            try clear p2
            try clear c3
            try clear c3b0
            try clear c4
            try clear c4b0
            try clear c5
            try clear c5b0
            try clear c6
            try clear c6b0
            try clear p6
            try clear c7
            try clear c7b0
            try clear c8
            try clear c8b0
            try clear c9
            try clear c9b0
            try clear c10
            try clear c10b0
            try clear p10
            try clear q10
            try clear hx10
            try clear hx101_0
            try clear hx102_0
            try clear p1
            try clear p101
            try clear p102
            try clear p2
            try clear p6
            try clear q1
            try clear q101
            try clear q102
            obtain ⟨x7_3, x8_3, rfl, rfl, HA, HK3, HO_5, HB⟩ := hrel
            cases gk with
            | zero => exact absurd HA.out (by simp [spec_WaitRing.l2])
            | succ k3 =>
             have H := HA.out
             clear HA
             simp only [spec_WaitRing.l2] at H
             by_cases c11 : x8_3 < (l0.length : Int)
             ·rw [if_pos c11] at H
              have c11b0 : decide (x8_3 < (l0.length : Int)) = true := decide_eq_true c11
              clear c11
              by_cases c12 : x7_3 ≥ 0
              ·rw [if_pos c12] at H
               have c12b0 : decide (0 ≤ x7_3) = true := decide_eq_true c12
               clear c12
               by_cases c13 : x7_3 = x29_2
               ·rw [if_pos c13] at H
                have c13b0 : (x7_3 == x29_2) = true := beq_iff_eq.mpr c13
                have c13b1 : (x7_3 != x29_2) = false := bne_eq_false_iff_eq.mpr c13
                clear c13
                by_cases c14 : x5_2.length < 17592186044416
                ·rw [if_pos c14] at H
                 have LMc14 := Aside0.mk c14
                 clear c14
                 obtain ⟨y103, hy103⟩ : ∃ y_ : List Int, y_ = (x5_2 ++ [x29_2]) := ⟨_, rfl⟩
                 replace H : (spec_WaitRing.l1 k3 l0 y103 (l0.length : Int) (wrap64 (x29_2 + 1))) = some r := by first | (rw [hy103]; with_reducible exact H) | (have H2_ := (Option.bind_some _ _).symm.trans H; rw [hy103]; with_reducible exact H2_) | (have H2_ := (Option.bind_some _ _).symm.trans H; with_reducible exact H2_) | with_reducible exact H | (rw [hy103]; exact H) | exact H
                 have Ny103 := Aside0.mk hy103
                 clear hy103
                 have H' := Aside0.mk H
                 clear H
                 go_wp2_with (first | ((with_reducible refine gate_builtin (b := .append) (xs := #[.tmp 58, .tmp 60]) rfl ?_); (try (refine gate_guard (by rfl) ?_; dsimp only)); at_builtin; refine Kd.R_append (Kd.int .i64) (w0 := w) w.heap.size rfl (.tmp 58) (.tmp 60) 22 3 (.int .i64 0) 8 rfl Try.underlying22 info3 rfl (by decide) (by omega) u5 x5_2 x29_2 [.int .i64 x29_2] (fun _ => True) (fun _ => False) rfl rfl ?aP (fun _ hk => hk.elim) ?aF ?aO ?aB ?aS ?aL ?_; (case aP => exact rfl); (case aB => exact hb_); (case aF => exact (fun _ _ => trivial)); (case aO => exact (ra_ HO_5.out)); (case aS => exact (below_size hb_)); (case aL => have := LMc14.out; omega); intro v104 w15 ho hb hg hat; rw [← Ny103.out] at ho; have n0_ := Aside0.mk (hb); have n1_ := Aside0.mk (ho); clear HB; clear HO_5; have HB := n0_; have HO105 := n1_; clear n0_ n1_; clear ho hb hg hat))
                 go_roundg k3
                 case measure => have := HK1.out; have := HK2.out; have := HK3.out; omega
                 case rel => exact ⟨(y103), (wrap64 (x29_2 + 1)), es_, H', ⟨by have := HK1.out; have := HK2.out; have := HK3.out; omega⟩, ⟨ra_ HO105.out⟩, ⟨hb_⟩⟩
                ·rw [if_neg c14] at H
                 exact absurd H (by simp)
               ·rw [if_neg c13] at H
                have c13b0 : (x7_3 == x29_2) = false := beq_eq_false_iff_ne.mpr c13
                have c13b1 : (x7_3 != x29_2) = true := bne_iff_ne.mpr c13
                by_cases c16 : 0 ≤ x7_3
                ·rw [if_pos c16] at H
                 have c16b0 : decide (0 ≤ x7_3) = true := decide_eq_true c16
                 clear c16
                 by_cases c17 : x7_3 < (l0.length : Int)
                 ·rw [if_pos c17] at H
                  have c17b0 : decide (x7_3 < (l0.length : Int)) = true := decide_eq_true c17
                  clear c17
                  have H' := Aside0.mk H
                  clear H
                  have p106 : 0 ≤ (x7_3 : Int) := of_decide_eq_true as_
                  have q106 : x7_3 < (l0.length : Int) := of_decide_eq_true as_
                  obtain ⟨ad106, e106, hx106_0⟩ := Kd.at_int HR0.out x7_3 p106 q106
                  obtain rfl : ad102 = ad106 := (by injection e106)
                  replace hx106_0 := hc_ HB hx106_0
                  replace p106 := eq_true p106
                  replace q106 := eq_true q106
                  go_wp2
                  go_roundg k3
                  case measure => have := HK1.out; have := HK2.out; have := HK3.out; omega
                  case rel => exact ⟨(rd l0 x7_3), (wrap64 (x8_3 + 1)), es_, es_, H', ⟨by have := HK1.out; have := HK2.out; have := HK3.out; omega⟩, ⟨ra_ HO_5.out⟩, ⟨hb_⟩⟩
                 ·rw [if_neg c17] at H
                  exact absurd H (by simp)
                ·rw [if_neg c16] at H
                 exact absurd H (by simp)
              ·rw [if_neg c12] at H
               have c12b0 : decide (0 ≤ x7_3) = false := decide_eq_false c12
               clear c12
               by_cases c18 : x7_3 = x29_2
               ·rw [if_pos c18] at H
                have c18b0 : (x7_3 == x29_2) = true := beq_iff_eq.mpr c18
                have c18b1 : (x7_3 != x29_2) = false := bne_eq_false_iff_eq.mpr c18
                clear c18
                by_cases c19 : x5_2.length < 17592186044416
                ·rw [if_pos c19] at H
                 have LMc19 := Aside0.mk c19
                 clear c19
                 obtain ⟨y107, hy107⟩ : ∃ y_ : List Int, y_ = (x5_2 ++ [x29_2]) := ⟨_, rfl⟩
                 replace H : (spec_WaitRing.l1 k3 l0 y107 (l0.length : Int) (wrap64 (x29_2 + 1))) = some r := by first | (rw [hy107]; with_reducible exact H) | (have H2_ := (Option.bind_some _ _).symm.trans H; rw [hy107]; with_reducible exact H2_) | (have H2_ := (Option.bind_some _ _).symm.trans H; with_reducible exact H2_) | with_reducible exact H | (rw [hy107]; exact H) | exact H
                 have Ny107 := Aside0.mk hy107
                 clear hy107
                 have H' := Aside0.mk H
                 clear H
                 go_wp2_with (first | ((with_reducible refine gate_builtin (b := .append) (xs := #[.tmp 58, .tmp 60]) rfl ?_); (try (refine gate_guard (by rfl) ?_; dsimp only)); at_builtin; refine Kd.R_append (Kd.int .i64) (w0 := w) w.heap.size rfl (.tmp 58) (.tmp 60) 22 3 (.int .i64 0) 8 rfl Try.underlying22 info3 rfl (by decide) (by omega) u5 x5_2 x29_2 [.int .i64 x29_2] (fun _ => True) (fun _ => False) rfl rfl ?aP (fun _ hk => hk.elim) ?aF ?aO ?aB ?aS ?aL ?_; (case aP => exact rfl); (case aB => exact hb_); (case aF => exact (fun _ _ => trivial)); (case aO => exact (ra_ HO_5.out)); (case aS => exact (below_size hb_)); (case aL => have := LMc19.out; omega); intro v108 w20 ho hb hg hat; rw [← Ny107.out] at ho; have n0_ := Aside0.mk (hb); have n1_ := Aside0.mk (ho); clear HB; clear HO_5; have HB := n0_; have HO109 := n1_; clear n0_ n1_; clear ho hb hg hat))
                 go_roundg k3
                 case measure => have := HK1.out; have := HK2.out; have := HK3.out; omega
                 case rel => exact ⟨(y107), (wrap64 (x29_2 + 1)), es_, H', ⟨by have := HK1.out; have := HK2.out; have := HK3.out; omega⟩, ⟨ra_ HO109.out⟩, ⟨hb_⟩⟩
                ·rw [if_neg c19] at H
                 exact absurd H (by simp)
               ·rw [if_neg c18] at H
                have c18b0 : (x7_3 == x29_2) = false := beq_eq_false_iff_ne.mpr c18
                have c18b1 : (x7_3 != x29_2) = true := bne_iff_ne.mpr c18
                have H' := Aside0.mk H
                clear H
                go_wp2
                go_roundg k3
                case measure => have := HK1.out; have := HK2.out; have := HK3.out; omega
                case rel => exact ⟨(x5_2), (wrap64 (x29_2 + 1)), es_, H', ⟨by have := HK1.out; have := HK2.out; have := HK3.out; omega⟩, ⟨ra_ HO_5.out⟩, ⟨hb_⟩⟩
             ·rw [if_neg c11] at H
              have c11b0 : decide (x8_3 < (l0.length : Int)) = false := decide_eq_false c11
              clear c11
              by_cases c21 : x7_3 = x29_2
              ·rw [if_pos c21] at H
               have c21b0 : (x7_3 == x29_2) = true := beq_iff_eq.mpr c21
               have c21b1 : (x7_3 != x29_2) = false := bne_eq_false_iff_eq.mpr c21
               clear c21
               by_cases c22 : x5_2.length < 17592186044416
               ·rw [if_pos c22] at H
                have LMc22 := Aside0.mk c22
                clear c22
                obtain ⟨y110, hy110⟩ : ∃ y_ : List Int, y_ = (x5_2 ++ [x29_2]) := ⟨_, rfl⟩
                replace H : (spec_WaitRing.l1 k3 l0 y110 (l0.length : Int) (wrap64 (x29_2 + 1))) = some r := by first | (rw [hy110]; with_reducible exact H) | (have H2_ := (Option.bind_some _ _).symm.trans H; rw [hy110]; with_reducible exact H2_) | (have H2_ := (Option.bind_some _ _).symm.trans H; with_reducible exact H2_) | with_reducible exact H | (rw [hy110]; exact H) | exact H
                have Ny110 := Aside0.mk hy110
                clear hy110
                have H' := Aside0.mk H
                clear H
                go_wp2_with (first | ((with_reducible refine gate_builtin (b := .append) (xs := #[.tmp 58, .tmp 60]) rfl ?_); (try (refine gate_guard (by rfl) ?_; dsimp only)); at_builtin; refine Kd.R_append (Kd.int .i64) (w0 := w) w.heap.size rfl (.tmp 58) (.tmp 60) 22 3 (.int .i64 0) 8 rfl Try.underlying22 info3 rfl (by decide) (by omega) u5 x5_2 x29_2 [.int .i64 x29_2] (fun _ => True) (fun _ => False) rfl rfl ?aP (fun _ hk => hk.elim) ?aF ?aO ?aB ?aS ?aL ?_; (case aP => exact rfl); (case aB => exact hb_); (case aF => exact (fun _ _ => trivial)); (case aO => exact (ra_ HO_5.out)); (case aS => exact (below_size hb_)); (case aL => have := LMc22.out; omega); intro v111 w23 ho hb hg hat; rw [← Ny110.out] at ho; have n0_ := Aside0.mk (hb); have n1_ := Aside0.mk (ho); clear HB; clear HO_5; have HB := n0_; have HO112 := n1_; clear n0_ n1_; clear ho hb hg hat))
                go_roundg k3
                case measure => have := HK1.out; have := HK2.out; have := HK3.out; omega
                case rel => exact ⟨(y110), (wrap64 (x29_2 + 1)), es_, H', ⟨by have := HK1.out; have := HK2.out; have := HK3.out; omega⟩, ⟨ra_ HO112.out⟩, ⟨hb_⟩⟩
               ·rw [if_neg c22] at H
                exact absurd H (by simp)
              ·rw [if_neg c21] at H
               have c21b0 : (x7_3 == x29_2) = false := beq_eq_false_iff_ne.mpr c21
               have c21b1 : (x7_3 != x29_2) = true := bne_iff_ne.mpr c21
               have H' := Aside0.mk H
               clear H
               go_wp2
               go_roundg k3
               case measure => have := HK1.out; have := HK2.out; have := HK3.out; omega
               case rel => exact ⟨(x5_2), (wrap64 (x29_2 + 1)), es_, H', ⟨by have := HK1.out; have := HK2.out; have := HK3.out; omega⟩, ⟨ra_ HO_5.out⟩, ⟨hb_⟩⟩
          ·rw [if_neg c10] at H
           exact absurd H (by simp)
         ·rw [if_neg c9] at H
          exact absurd H (by simp)
        ·rw [if_neg c8] at H
         have c8b0 : decide (x29_2 < (l0.length : Int)) = false := decide_eq_false c8
         clear c8
         obtain rfl := Option.some.inj H
         go_wp2
         go_ret
         exact ⟨_, er_, by (with_reducible repeat (first | apply Kd.R_alloc | apply Kd.R_drewN | apply Kd.R_drew)); exact HO_5.out, hb_⟩

end Go.Proofs.Ytcldlljnaijmhaa.Pr
