-- Written by this session's own print (wip/tools/mkmp.py) out of the translation. Lean checks it.
import Derived.Test.YtcldlljnaijmhaaPr0
import Derived.Test.YtcldlljnaijmhaaPrd1
namespace Go.Proofs.Ytcldlljnaijmhaa.Pr
open Go.RowKit Go.Proofs.YtcldlljnaijmhaaW.PrintWords Go.Proofs.YtcldlljnaijmhaaW.PrintLast Go.Proofs.YtcldlljnaijmhaaW.PrintMore
attribute [local go_sem] max2_int min2_int max_two min_two max_three min_three max_four min_four   -- for this text's walks alone
set_option linter.unusedVariables false
set_option linter.unusedSimpArgs false

set_option maxHeartbeats 8000000 in
set_option maxRecDepth 100000 in
theorem impl_WaitRing.calls (k : Nat) (A0 : Option Addr) (c0 : Nat) (l0 : List Int) (r : List Int) (w : World) (hr0 : Kd.C (Kd.int .i64) w A0 l0.length l0) (hc0 : l0.length ≤ c0) (h : impl_WaitRing.f k l0 = some r) :
   Calls Try.prog 14 #[.slice A0 l0.length c0] w fun e w' => ∃ v0_ : Value, e = .returned (v0_) ∧ Kd.R (Kd.int .i64) 3 w' w.heap.size (fun _ => True) v0_ r ∧ Below w.heap.size w w' := by
  have HR0 := Aside0.mk hr0
  have HC0 := Aside0.mk hc0
  clear hr0 hc0
  have HB := Aside0.mk (Below.refl w.heap.size w)
  have H : (if (l0.length : Int) > 5 then (some ([] : List Int)) else (impl_WaitRing.l0 k l0 (l0.length : Int) l0 (l0.length : Int) 0)) = some r := h
  clear h
  by_cases c2 : (l0.length : Int) > 5
  ·rw [if_pos c2] at H
   have c2b0 : decide (5 < (l0.length : Int)) = true := decide_eq_true c2
   have c2b1 : decide (5 < l0.length) = true := decide_eq_true (by omega)
   clear c2
   obtain rfl := Option.some.inj H
   go_enter Try.func14, Try.ntmps14
   go_wp2
   go_ret
   exact ⟨_, er_, by first | exact Kd.R_nil _ _ _ _ _ | exact Kd.N_nil _ _ _ _ _ | exact Kd.V_nil _ _ _ _ _ | exact Kd.Q_nil _ _ _ _ _ | exact Kd.S_nil _ _ _ _ _, hb_⟩
  ·rw [if_neg c2] at H
   have c2b0 : decide (5 < (l0.length : Int)) = false := decide_eq_false c2
   have c2b1 : decide (5 < l0.length) = false := decide_eq_false (by omega)
   clear c2
   have H' := Aside0.mk H
   clear H
   go_enter Try.func14, Try.ntmps14
   go_wp2
   go_loopg [16] k (fun kq v16 w' => ∃ (x16_1 : Int), v16 = .int .i64 x16_1 ∧ Aside0 (impl_WaitRing.l0 kq l0 (l0.length : Int) l0 (l0.length : Int) x16_1 = some r) ∧ Aside0 (kq ≤ k) ∧ Aside0 (Below w.heap.size w w'))
   case atStart => exact ⟨(0), es_, H', ⟨Nat.le_refl _⟩, ⟨hb_⟩⟩
   case round =>
    clear H'
    try clear c1
    try clear c2
    try clear c2b0
    try clear c2b1
    try clear p2
    obtain ⟨x16_1, rfl, HA, HK1, HB⟩ := hrel
    cases gk with
    | zero => exact absurd HA.out (by simp [impl_WaitRing.l0])
    | succ k1 =>
     have H := HA.out
     clear HA
     simp only [impl_WaitRing.l0] at H
     by_cases c3 : x16_1 < (l0.length : Int)
     ·rw [if_pos c3] at H
      have c3b0 : decide (x16_1 < (l0.length : Int)) = true := decide_eq_true c3
      clear c3
      by_cases c4 : 0 ≤ x16_1
      ·rw [if_pos c4] at H
       have c4b0 : decide (0 ≤ x16_1) = true := decide_eq_true c4
       clear c4
       by_cases c5 : x16_1 < (l0.length : Int)
       ·rw [if_pos c5] at H
        have c5b0 : decide (x16_1 < (l0.length : Int)) = true := decide_eq_true c5
        clear c5
        by_cases c6 : (rd l0 x16_1) < (-1)
        ·rw [if_pos c6] at H
         have c6b0 : decide ((rd l0 x16_1) < (-1)) = true := decide_eq_true c6
         clear c6
         obtain rfl := Option.some.inj H
         have p118 : 0 ≤ (x16_1 : Int) := of_decide_eq_true as_
         have q118 : x16_1 < (l0.length : Int) := of_decide_eq_true as_
         obtain ⟨ad118, e118, hx118_0⟩ := Kd.at_int HR0.out x16_1 p118 q118
         cases e118
         replace hx118_0 := hc_ HB hx118_0
         replace p118 := eq_true p118
         replace q118 := eq_true q118
         go_wp2
         go_ret
         exact ⟨_, er_, by first | exact Kd.R_nil _ _ _ _ _ | exact Kd.N_nil _ _ _ _ _ | exact Kd.V_nil _ _ _ _ _ | exact Kd.Q_nil _ _ _ _ _ | exact Kd.S_nil _ _ _ _ _, hb_⟩
        ·rw [if_neg c6] at H
         have c6b0 : decide ((rd l0 x16_1) < (-1)) = false := decide_eq_false c6
         clear c6
         by_cases c7 : (rd l0 x16_1) ≥ (l0.length : Int)
         ·rw [if_pos c7] at H
          have c7b0 : decide ((l0.length : Int) ≤ (rd l0 x16_1)) = true := decide_eq_true c7
          clear c7
          obtain rfl := Option.some.inj H
          have p118 : 0 ≤ (x16_1 : Int) := of_decide_eq_true as_
          have q118 : x16_1 < (l0.length : Int) := of_decide_eq_true as_
          obtain ⟨ad118, e118, hx118_0⟩ := Kd.at_int HR0.out x16_1 p118 q118
          cases e118
          replace hx118_0 := hc_ HB hx118_0
          replace p118 := eq_true p118
          replace q118 := eq_true q118
          go_wp2
          go_ret
          exact ⟨_, er_, by first | exact Kd.R_nil _ _ _ _ _ | exact Kd.N_nil _ _ _ _ _ | exact Kd.V_nil _ _ _ _ _ | exact Kd.Q_nil _ _ _ _ _ | exact Kd.S_nil _ _ _ _ _, hb_⟩
         ·rw [if_neg c7] at H
          have c7b0 : decide ((l0.length : Int) ≤ (rd l0 x16_1)) = false := decide_eq_false c7
          clear c7
          have H' := Aside0.mk H
          clear H
          have p118 : 0 ≤ (x16_1 : Int) := of_decide_eq_true as_
          have q118 : x16_1 < (l0.length : Int) := of_decide_eq_true as_
          obtain ⟨ad118, e118, hx118_0⟩ := Kd.at_int HR0.out x16_1 p118 q118
          cases e118
          replace hx118_0 := hc_ HB hx118_0
          replace p118 := eq_true p118
          replace q118 := eq_true q118
          go_wp2
          go_roundg k1
          case measure => have := HK1.out; omega
          case rel => exact ⟨(wrap64 (x16_1 + 1)), es_, H', ⟨by have := HK1.out; omega⟩, ⟨hb_⟩⟩
       ·rw [if_neg c5] at H
        exact absurd H (by simp)
      ·rw [if_neg c4] at H
       exact absurd H (by simp)
     ·rw [if_neg c3] at H
      have c3b0 : decide (x16_1 < (l0.length : Int)) = false := decide_eq_false c3
      clear c3
      have H' := Aside0.mk H
      clear H
      go_wp2
      go_loopg [6, 30] k1 (fun kq v6 v30 w' => ∃ (x6_2 : List Int) (x30_2 : Int), v30 = .int .i64 x30_2 ∧ Aside0 (impl_WaitRing.l1 kq l0 (l0.length : Int) x6_2 (l0.length : Int) x30_2 = some r) ∧ Aside0 (kq ≤ k1) ∧ Aside0 (Kd.R (Kd.int .i64) 3 w' w.heap.size (fun _ => True) v6 x6_2) ∧ Aside0 (Below w.heap.size w w'))
      case atStart => exact ⟨(([] : List Int)), (0), es_, H', ⟨Nat.le_refl _⟩, ⟨by first | exact Kd.R_nil _ _ _ _ _ | exact Kd.N_nil _ _ _ _ _ | exact Kd.V_nil _ _ _ _ _ | exact Kd.Q_nil _ _ _ _ _ | exact Kd.S_nil _ _ _ _ _⟩, ⟨hb_⟩⟩
      case round =>
       clear H'
       try clear c1
       try clear p1
       try clear q1
       try clear hx1
       try clear c2
       try clear c2b0
       try clear c2b1
       try clear p2
       try clear c3
       try clear c3b0
       try clear c4
       try clear c4b0
       try clear c5
       try clear c5b0
       try clear c6
       try clear c6b0
       try clear p6
       try clear c7
       try clear c7b0
       try clear hx118_0
       try clear p118
       try clear p2
       try clear q118
       obtain ⟨x6_2, x30_2, rfl, HA, HK2, HO_6, HB⟩ := hrel
       cases gk with
       | zero => exact absurd HA.out (by simp [impl_WaitRing.l1])
       | succ k2 =>
        have H := HA.out
        clear HA
        simp only [impl_WaitRing.l1] at H
        by_cases c8 : x30_2 < (l0.length : Int)
        ·rw [if_pos c8] at H
         have c8b0 : decide (x30_2 < (l0.length : Int)) = true := decide_eq_true c8
         clear c8
         by_cases c9 : 0 ≤ x30_2
         ·rw [if_pos c9] at H
          have c9b0 : decide (0 ≤ x30_2) = true := decide_eq_true c9
          clear c9
          by_cases c10 : x30_2 < (l0.length : Int)
          ·rw [if_pos c10] at H
           have c10b0 : decide (x30_2 < (l0.length : Int)) = true := decide_eq_true c10
           clear c10
           have H' := Aside0.mk H
           clear H
           have p119 : 0 ≤ (x30_2 : Int) := of_decide_eq_true as_
           have q119 : x30_2 < (l0.length : Int) := of_decide_eq_true as_
           obtain ⟨ad119, e119, hx119_0⟩ := Kd.at_int HR0.out x30_2 p119 q119
           cases e119
           replace hx119_0 := hc_ HB hx119_0
           replace p119 := eq_true p119
           replace q119 := eq_true q119
           go_wp2
           go_loopg [8, 9] k2 (fun kq v8 v9 w' => ∃ (x8_3 : Int) (x9_3 : Int), v8 = .int .i64 x8_3 ∧ v9 = .int .i64 x9_3 ∧ Aside0 (impl_WaitRing.l2 kq l0 (l0.length : Int) x6_2 x30_2 x8_3 x9_3 (l0.length : Int) x30_2 = some r) ∧ Aside0 (kq ≤ k2) ∧ Aside0 (Kd.R (Kd.int .i64) 3 w' w.heap.size (fun _ => True) u6 x6_2) ∧ Aside0 (Below w.heap.size w w'))
           case atStart => exact ⟨(rd l0 x30_2), (0), es_, es_, H', ⟨Nat.le_refl _⟩, ⟨ra_ HO_6.out⟩, ⟨hb_⟩⟩
           case round =>
            clear H'
            try clear c1
            try clear p1
            try clear q1
            try clear hx1
            try clear c2
            try clear c2b0
            try clear c2b1
            try clear p2
            try clear c3
            try clear c3b0
            try clear c4
            try clear c4b0
            try clear c5
            try clear c5b0
            try clear c6
            try clear c6b0
            try clear p6
            try clear c7
            try clear c7b0
            try clear c8
            try clear c8b0
            try clear c9
            try clear c9b0
            try clear c10
            try clear c10b0
            try clear hx118_0
            try clear hx119_0
            try clear p1
            try clear p118
            try clear p119
            try clear p2
            try clear p6
            try clear q1
            try clear q118
            try clear q119
            obtain ⟨x8_3, x9_3, rfl, rfl, HA, HK3, HO_6, HB⟩ := hrel
            cases gk with
            | zero => exact absurd HA.out (by simp [impl_WaitRing.l2])
            | succ k3 =>
             have H := HA.out
             clear HA
             simp only [impl_WaitRing.l2] at H
             by_cases c11 : x9_3 < (l0.length : Int)
             ·rw [if_pos c11] at H
              have c11b0 : decide (x9_3 < (l0.length : Int)) = true := decide_eq_true c11
              clear c11
              by_cases c12 : x8_3 ≥ 0
              ·rw [if_pos c12] at H
               have c12b0 : decide (0 ≤ x8_3) = true := decide_eq_true c12
               clear c12
               by_cases c13 : x8_3 = x30_2
               ·rw [if_pos c13] at H
                have c13b0 : (x8_3 == x30_2) = true := beq_iff_eq.mpr c13
                have c13b1 : (x8_3 != x30_2) = false := bne_eq_false_iff_eq.mpr c13
                clear c13
                by_cases c14 : x6_2.length < 17592186044416
                ·rw [if_pos c14] at H
                 have LMc14 := Aside0.mk c14
                 clear c14
                 obtain ⟨y120, hy120⟩ : ∃ y_ : List Int, y_ = (x6_2 ++ [x30_2]) := ⟨_, rfl⟩
                 replace H : (impl_WaitRing.l1 k3 l0 (l0.length : Int) y120 (l0.length : Int) (wrap64 (x30_2 + 1))) = some r := by first | (rw [hy120]; with_reducible exact H) | (have H2_ := (Option.bind_some _ _).symm.trans H; rw [hy120]; with_reducible exact H2_) | (have H2_ := (Option.bind_some _ _).symm.trans H; with_reducible exact H2_) | with_reducible exact H | (rw [hy120]; exact H) | exact H
                 have Ny120 := Aside0.mk hy120
                 clear hy120
                 have H' := Aside0.mk H
                 clear H
                 go_wp2_with (first | ((with_reducible refine gate_builtin (b := .append) (xs := #[.tmp 58, .tmp 60]) rfl ?_); at_builtin; refine Kd.R_append (Kd.int .i64) (w0 := w) w.heap.size rfl (.tmp 58) (.tmp 60) 22 3 (.int .i64 0) 8 rfl Try.underlying22 info3 rfl (by decide) (by omega) u6 x6_2 x30_2 [.int .i64 x30_2] (fun _ => True) (fun _ => False) rfl rfl ?aP (fun _ hk => hk.elim) ?aF ?aO ?aB ?aS ?aL ?_; (case aP => exact rfl); (case aB => exact hb_); (case aF => exact (fun _ _ => trivial)); (case aO => exact (ra_ HO_6.out)); (case aS => exact (below_size hb_)); (case aL => have := LMc14.out; omega); intro v121 w15 ho hb hg hat; rw [← Ny120.out] at ho; have n0_ := Aside0.mk (hb); have n1_ := Aside0.mk (ho); clear HB; clear HO_6; have HB := n0_; have HO122 := n1_; clear n0_ n1_; clear ho hb hg hat))
                 go_roundg k3
                 case measure => have := HK1.out; have := HK2.out; have := HK3.out; omega
                 case rel => exact ⟨(y120), (wrap64 (x30_2 + 1)), es_, H', ⟨by have := HK1.out; have := HK2.out; have := HK3.out; omega⟩, ⟨ra_ HO122.out⟩, ⟨hb_⟩⟩
                ·rw [if_neg c14] at H
                 exact absurd H (by simp)
               ·rw [if_neg c13] at H
                have c13b0 : (x8_3 == x30_2) = false := beq_eq_false_iff_ne.mpr c13
                have c13b1 : (x8_3 != x30_2) = true := bne_iff_ne.mpr c13
                by_cases c16 : 0 ≤ x8_3
                ·rw [if_pos c16] at H
                 have c16b0 : decide (0 ≤ x8_3) = true := decide_eq_true c16
                 clear c16
                 by_cases c17 : x8_3 < (l0.length : Int)
                 ·rw [if_pos c17] at H
                  have c17b0 : decide (x8_3 < (l0.length : Int)) = true := decide_eq_true c17
                  clear c17
                  have H' := Aside0.mk H
                  clear H
                  have p123 : 0 ≤ (x8_3 : Int) := of_decide_eq_true as_
                  have q123 : x8_3 < (l0.length : Int) := of_decide_eq_true as_
                  obtain ⟨ad123, e123, hx123_0⟩ := Kd.at_int HR0.out x8_3 p123 q123
                  obtain rfl : ad119 = ad123 := (by injection e123)
                  replace hx123_0 := hc_ HB hx123_0
                  replace p123 := eq_true p123
                  replace q123 := eq_true q123
                  go_wp2
                  go_roundg k3
                  case measure => have := HK1.out; have := HK2.out; have := HK3.out; omega
                  case rel => exact ⟨(rd l0 x8_3), (wrap64 (x9_3 + 1)), es_, es_, H', ⟨by have := HK1.out; have := HK2.out; have := HK3.out; omega⟩, ⟨ra_ HO_6.out⟩, ⟨hb_⟩⟩
                 ·rw [if_neg c17] at H
                  exact absurd H (by simp)
                ·rw [if_neg c16] at H
                 exact absurd H (by simp)
              ·rw [if_neg c12] at H
               have c12b0 : decide (0 ≤ x8_3) = false := decide_eq_false c12
               clear c12
               by_cases c18 : x8_3 = x30_2
               ·rw [if_pos c18] at H
                have c18b0 : (x8_3 == x30_2) = true := beq_iff_eq.mpr c18
                have c18b1 : (x8_3 != x30_2) = false := bne_eq_false_iff_eq.mpr c18
                clear c18
                by_cases c19 : x6_2.length < 17592186044416
                ·rw [if_pos c19] at H
                 have LMc19 := Aside0.mk c19
                 clear c19
                 obtain ⟨y124, hy124⟩ : ∃ y_ : List Int, y_ = (x6_2 ++ [x30_2]) := ⟨_, rfl⟩
                 replace H : (impl_WaitRing.l1 k3 l0 (l0.length : Int) y124 (l0.length : Int) (wrap64 (x30_2 + 1))) = some r := by first | (rw [hy124]; with_reducible exact H) | (have H2_ := (Option.bind_some _ _).symm.trans H; rw [hy124]; with_reducible exact H2_) | (have H2_ := (Option.bind_some _ _).symm.trans H; with_reducible exact H2_) | with_reducible exact H | (rw [hy124]; exact H) | exact H
                 have Ny124 := Aside0.mk hy124
                 clear hy124
                 have H' := Aside0.mk H
                 clear H
                 go_wp2_with (first | ((with_reducible refine gate_builtin (b := .append) (xs := #[.tmp 58, .tmp 60]) rfl ?_); at_builtin; refine Kd.R_append (Kd.int .i64) (w0 := w) w.heap.size rfl (.tmp 58) (.tmp 60) 22 3 (.int .i64 0) 8 rfl Try.underlying22 info3 rfl (by decide) (by omega) u6 x6_2 x30_2 [.int .i64 x30_2] (fun _ => True) (fun _ => False) rfl rfl ?aP (fun _ hk => hk.elim) ?aF ?aO ?aB ?aS ?aL ?_; (case aP => exact rfl); (case aB => exact hb_); (case aF => exact (fun _ _ => trivial)); (case aO => exact (ra_ HO_6.out)); (case aS => exact (below_size hb_)); (case aL => have := LMc19.out; omega); intro v125 w20 ho hb hg hat; rw [← Ny124.out] at ho; have n0_ := Aside0.mk (hb); have n1_ := Aside0.mk (ho); clear HB; clear HO_6; have HB := n0_; have HO126 := n1_; clear n0_ n1_; clear ho hb hg hat))
                 go_roundg k3
                 case measure => have := HK1.out; have := HK2.out; have := HK3.out; omega
                 case rel => exact ⟨(y124), (wrap64 (x30_2 + 1)), es_, H', ⟨by have := HK1.out; have := HK2.out; have := HK3.out; omega⟩, ⟨ra_ HO126.out⟩, ⟨hb_⟩⟩
                ·rw [if_neg c19] at H
                 exact absurd H (by simp)
               ·rw [if_neg c18] at H
                have c18b0 : (x8_3 == x30_2) = false := beq_eq_false_iff_ne.mpr c18
                have c18b1 : (x8_3 != x30_2) = true := bne_iff_ne.mpr c18
                have H' := Aside0.mk H
                clear H
                go_wp2
                go_roundg k3
                case measure => have := HK1.out; have := HK2.out; have := HK3.out; omega
                case rel => exact ⟨(x6_2), (wrap64 (x30_2 + 1)), es_, H', ⟨by have := HK1.out; have := HK2.out; have := HK3.out; omega⟩, ⟨ra_ HO_6.out⟩, ⟨hb_⟩⟩
             ·rw [if_neg c11] at H
              have c11b0 : decide (x9_3 < (l0.length : Int)) = false := decide_eq_false c11
              clear c11
              by_cases c21 : x8_3 = x30_2
              ·rw [if_pos c21] at H
               have c21b0 : (x8_3 == x30_2) = true := beq_iff_eq.mpr c21
               have c21b1 : (x8_3 != x30_2) = false := bne_eq_false_iff_eq.mpr c21
               clear c21
               by_cases c22 : x6_2.length < 17592186044416
               ·rw [if_pos c22] at H
                have LMc22 := Aside0.mk c22
                clear c22
                obtain ⟨y127, hy127⟩ : ∃ y_ : List Int, y_ = (x6_2 ++ [x30_2]) := ⟨_, rfl⟩
                replace H : (impl_WaitRing.l1 k3 l0 (l0.length : Int) y127 (l0.length : Int) (wrap64 (x30_2 + 1))) = some r := by first | (rw [hy127]; with_reducible exact H) | (have H2_ := (Option.bind_some _ _).symm.trans H; rw [hy127]; with_reducible exact H2_) | (have H2_ := (Option.bind_some _ _).symm.trans H; with_reducible exact H2_) | with_reducible exact H | (rw [hy127]; exact H) | exact H
                have Ny127 := Aside0.mk hy127
                clear hy127
                have H' := Aside0.mk H
                clear H
                go_wp2_with (first | ((with_reducible refine gate_builtin (b := .append) (xs := #[.tmp 58, .tmp 60]) rfl ?_); at_builtin; refine Kd.R_append (Kd.int .i64) (w0 := w) w.heap.size rfl (.tmp 58) (.tmp 60) 22 3 (.int .i64 0) 8 rfl Try.underlying22 info3 rfl (by decide) (by omega) u6 x6_2 x30_2 [.int .i64 x30_2] (fun _ => True) (fun _ => False) rfl rfl ?aP (fun _ hk => hk.elim) ?aF ?aO ?aB ?aS ?aL ?_; (case aP => exact rfl); (case aB => exact hb_); (case aF => exact (fun _ _ => trivial)); (case aO => exact (ra_ HO_6.out)); (case aS => exact (below_size hb_)); (case aL => have := LMc22.out; omega); intro v128 w23 ho hb hg hat; rw [← Ny127.out] at ho; have n0_ := Aside0.mk (hb); have n1_ := Aside0.mk (ho); clear HB; clear HO_6; have HB := n0_; have HO129 := n1_; clear n0_ n1_; clear ho hb hg hat))
                go_roundg k3
                case measure => have := HK1.out; have := HK2.out; have := HK3.out; omega
                case rel => exact ⟨(y127), (wrap64 (x30_2 + 1)), es_, H', ⟨by have := HK1.out; have := HK2.out; have := HK3.out; omega⟩, ⟨ra_ HO129.out⟩, ⟨hb_⟩⟩
               ·rw [if_neg c22] at H
                exact absurd H (by simp)
              ·rw [if_neg c21] at H
               have c21b0 : (x8_3 == x30_2) = false := beq_eq_false_iff_ne.mpr c21
               have c21b1 : (x8_3 != x30_2) = true := bne_iff_ne.mpr c21
               have H' := Aside0.mk H
               clear H
               go_wp2
               go_roundg k3
               case measure => have := HK1.out; have := HK2.out; have := HK3.out; omega
               case rel => exact ⟨(x6_2), (wrap64 (x30_2 + 1)), es_, H', ⟨by have := HK1.out; have := HK2.out; have := HK3.out; omega⟩, ⟨ra_ HO_6.out⟩, ⟨hb_⟩⟩
          ·rw [if_neg c10] at H
           exact absurd H (by simp)
         ·rw [if_neg c9] at H
          exact absurd H (by simp)
        ·rw [if_neg c8] at H
         have c8b0 : decide (x30_2 < (l0.length : Int)) = false := decide_eq_false c8
         clear c8
         obtain rfl := Option.some.inj H
         go_wp2
         go_ret
         exact ⟨_, er_, by (with_reducible repeat (first | apply Kd.R_alloc | apply Kd.R_drewN | apply Kd.R_drew)); exact HO_6.out, hb_⟩

end Go.Proofs.Ytcldlljnaijmhaa.Pr
