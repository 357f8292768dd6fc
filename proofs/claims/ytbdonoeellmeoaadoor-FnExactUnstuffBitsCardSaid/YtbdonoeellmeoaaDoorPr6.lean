-- Written by this session's own print (wip/tools/mkmp.py) out of the translation. Lean checks it.
import Derived.Test.YtbdonoeellmeoaaDoorPr0
import Derived.Test.YtbdonoeellmeoaaDoorPr5
import Derived.Test.YtbdonoeellmeoaaDoorGbd
import Derived.Test.YtbdonoeellmeoaaDoorPrd3
import Derived.Test.YtbdonoeellmeoaaDoorGb
import Derived.Test.YtbdonoeellmeoaaDoorStf
namespace Go.Proofs.YtbdonoeellmeoaaDoor.Pr
open Go.RowKit Go.Proofs.YtbdonoeellmeoaaDoorW.PrintWords Go.Proofs.YtbdonoeellmeoaaDoorW.PrintLast Go.Proofs.YtbdonoeellmeoaaDoorW.PrintMore
attribute [local go_sem] max2_int min2_int max_two min_two max_three min_three max_four min_four   -- for this text's walks alone
set_option linter.unusedVariables false
set_option linter.unusedSimpArgs false

set_option maxHeartbeats 8000000 in
set_option maxRecDepth 100000 in
theorem impl_UnstuffBits.calls (k : Nat) (a0 : ByteArray) (r1 : ByteArray) (r2 : Bool) (w : World) (h : impl_UnstuffBits.f k a0 = some (r1, r2)) :
   Calls Tryd.prog 11 #[.string a0] w fun e w' => e = .returned (.tuple #[.string r1, .bool r2]) ∧ Below w.heap.size w w' := by
  have HB := Aside0.mk (Below.refl w.heap.size w)
  have H : ((impl_goodBits.f a0).bind fun t145 => (if t145 = true then (impl_UnstuffBits.l0 k a0 ([] : List Int) 0 0 0) else (some ((⟨#[]⟩ : ByteArray), false)))) = some (r1, r2) := h
  clear h
  replace H := Option.bind_eq_some_iff.mp H
  obtain ⟨t145, A20, H⟩ := H
  replace H : (if t145 = true then (impl_UnstuffBits.l0 k a0 ([] : List Int) 0 0 0) else (some ((⟨#[]⟩ : ByteArray), false))) = some (r1, r2) := H
  have A2 := Aside0.mk A20
  clear A20
  by_cases c3 : t145 = true
  ·subst c3
   rw [if_pos rfl] at H
   have H' := Aside0.mk H
   clear H
   go_enter Tryd.func11, Tryd.ntmps11
   go_wp2_with (first | ((with_reducible refine gate_callee (f := 14) rfl ?_); refine goesL_ (some 10) rfl rfl Tryd.func14 (by kernel_rfl) rfl #[.string a0] rfl ls_ ?_; (with_reducible refine (impl_goodBits.calls a0 true _ A2.out).mono ?_); rintro e w4 ⟨rfl, hb⟩; refine ⟨_, rfl, ?_⟩; have n0_ := Aside0.mk (below_step hb_ hb); clear HB; have HB := n0_; clear n0_; (try clear hb); (try clear hb2); (try clear hk); (try clear hi)))
   go_loopg [4, 5, 6, 7] k (fun kq v4 v5 v6 v7 w' => ∃ (x4_1 : List Int) (x5_1 : Int) (x6_1 : Int) (x7_1 : Int), v5 = .int .i64 x5_1 ∧ v6 = .int .u8 x6_1 ∧ v7 = .int .i64 x7_1 ∧ Aside0 (impl_UnstuffBits.l0 kq a0 x4_1 x5_1 x6_1 x7_1 = some (r1, r2)) ∧ Aside0 (kq ≤ k) ∧ Aside0 (Kd.R (Kd.int .u8) 5 w' w.heap.size (fun _ => True) v4 x4_1) ∧ Aside0 (Below w.heap.size w w'))
   case atStart => exact ⟨(([] : List Int)), (0), (0), (0), es_, es_, es_, H', ⟨Nat.le_refl _⟩, ⟨by first | exact Kd.R_nil _ _ _ _ _ | exact Kd.N_nil _ _ _ _ _ | exact Kd.V_nil _ _ _ _ _ | exact Kd.Q_nil _ _ _ _ _ | exact Kd.S_nil _ _ _ _ _⟩, ⟨hb_⟩⟩
   case round =>
    clear H'
    try clear c1
    try clear p2
    try clear c3
    obtain ⟨x4_1, x5_1, x6_1, x7_1, rfl, rfl, rfl, HA, HK1, HO_4, HB⟩ := hrel
    cases gk with
    | zero => exact absurd HA.out (by simp [impl_UnstuffBits.l0])
    | succ k1 =>
     have H := HA.out
     clear HA
     simp only [impl_UnstuffBits.l0] at H
     by_cases c5 : x7_1 < (a0.size : Int)
     ·rw [if_pos c5] at H
      have c5b0 : decide (x7_1 < (a0.size : Int)) = true := decide_eq_true c5
      clear c5
      by_cases c6 : 0 ≤ x7_1
      ·rw [if_pos c6] at H
       have c6b0 : decide (0 ≤ x7_1) = true := decide_eq_true c6
       clear c6
       by_cases c8 : x5_1 = 5
       ·rw [if_pos c8] at H
        have c8b0 : (x5_1 == 5) = true := beq_iff_eq.mpr c8
        have c8b1 : (x5_1 != 5) = false := bne_eq_false_iff_eq.mpr c8
        clear c8
        have H' := Aside0.mk H
        clear H
        have p7 : 0 ≤ (x7_1 : Int) := of_decide_eq_true as_
        have q7 : x7_1 < (a0.size : Int) := of_decide_eq_true as_
        have hx7 := bt_at a0 x7_1
        replace p7 := eq_true p7
        replace q7 := eq_true q7
        go_wp2
        go_roundg k1
        case measure => have := HK1.out; omega
        case rel => exact ⟨(x4_1), (1), (bt a0 x7_1), (wrap64 (x7_1 + 1)), es_, es_, es_, H', ⟨by have := HK1.out; omega⟩, ⟨ra_ HO_4.out⟩, ⟨hb_⟩⟩
       ·rw [if_neg c8] at H
        have c8b0 : (x5_1 == 5) = false := beq_eq_false_iff_ne.mpr c8
        have c8b1 : (x5_1 != 5) = true := bne_iff_ne.mpr c8
        by_cases c9 : x5_1 > 0
        ·rw [if_pos c9] at H
         have c9b0 : decide (0 < x5_1) = true := decide_eq_true c9
         clear c9
         by_cases c10 : (bt a0 x7_1) = x6_1
         ·rw [if_pos c10] at H
          have c10b0 : ((bt a0 x7_1) == x6_1) = true := beq_iff_eq.mpr c10
          have c10b1 : ((bt a0 x7_1) != x6_1) = false := bne_eq_false_iff_eq.mpr c10
          clear c10
          by_cases c11 : x4_1.length < 140737488355328
          ·rw [if_pos c11] at H
           have LMc11 := Aside0.mk c11
           clear c11
           obtain ⟨y147, hy147⟩ : ∃ y_ : List Int, y_ = (x4_1 ++ [bt a0 x7_1]) := ⟨_, rfl⟩
           replace H : (impl_UnstuffBits.l0 k1 a0 y147 (wrap64 (x5_1 + 1)) x6_1 (wrap64 (x7_1 + 1))) = some (r1, r2) := by first | (rw [hy147]; with_reducible exact H) | (have H2_ := (Option.bind_some _ _).symm.trans H; rw [hy147]; with_reducible exact H2_) | (have H2_ := (Option.bind_some _ _).symm.trans H; with_reducible exact H2_) | with_reducible exact H | (rw [hy147]; exact H) | exact H
           have Ny147 := Aside0.mk hy147
           clear hy147
           have H' := Aside0.mk H
           clear H
           have p7 : 0 ≤ (x7_1 : Int) := of_decide_eq_true as_
           have q7 : x7_1 < (a0.size : Int) := of_decide_eq_true as_
           have hx7 := bt_at a0 x7_1
           replace p7 := eq_true p7
           replace q7 := eq_true q7
           go_wp2_with (first | ((with_reducible refine gate_builtin (b := .append) (xs := #[.tmp 34, .tmp 36]) rfl ?_); at_builtin; refine Kd.R_append (Kd.int .u8) (w0 := w) w.heap.size rfl (.tmp 34) (.tmp 36) 29 5 (.int .u8 0) 1 rfl Tryd.underlying29 info5 rfl (by decide) (by omega) u4 x4_1 (bt a0 x7_1) [.int .u8 (bt a0 x7_1)] (fun _ => True) (fun _ => False) rfl rfl ?aP (fun _ hk => hk.elim) ?aF ?aO ?aB ?aS ?aL ?_; (case aP => exact rfl); (case aB => exact hb_); (case aF => exact (fun _ _ => trivial)); (case aO => exact (ra_ HO_4.out)); (case aS => exact (below_size hb_)); (case aL => have := LMc11.out; omega); intro v148 w12 ho hb hg hat; rw [← Ny147.out] at ho; have n0_ := Aside0.mk (hb); have n1_ := Aside0.mk (ho); clear HB; clear HO_4; have HB := n0_; have HO149 := n1_; clear n0_ n1_; clear ho hb hg hat))
           go_roundg k1
           case measure => have := HK1.out; omega
           case rel => exact ⟨(y147), (wrap64 (x5_1 + 1)), (x6_1), (wrap64 (x7_1 + 1)), es_, es_, es_, H', ⟨by have := HK1.out; omega⟩, ⟨ra_ HO149.out⟩, ⟨hb_⟩⟩
          ·rw [if_neg c11] at H
           exact absurd H (by simp)
         ·rw [if_neg c10] at H
          have c10b0 : ((bt a0 x7_1) == x6_1) = false := beq_eq_false_iff_ne.mpr c10
          have c10b1 : ((bt a0 x7_1) != x6_1) = true := bne_iff_ne.mpr c10
          by_cases c13 : x4_1.length < 140737488355328
          ·rw [if_pos c13] at H
           have LMc13 := Aside0.mk c13
           clear c13
           obtain ⟨y150, hy150⟩ : ∃ y_ : List Int, y_ = (x4_1 ++ [bt a0 x7_1]) := ⟨_, rfl⟩
           replace H : (impl_UnstuffBits.l0 k1 a0 y150 1 (bt a0 x7_1) (wrap64 (x7_1 + 1))) = some (r1, r2) := by first | (rw [hy150]; with_reducible exact H) | (have H2_ := (Option.bind_some _ _).symm.trans H; rw [hy150]; with_reducible exact H2_) | (have H2_ := (Option.bind_some _ _).symm.trans H; with_reducible exact H2_) | with_reducible exact H | (rw [hy150]; exact H) | exact H
           have Ny150 := Aside0.mk hy150
           clear hy150
           have H' := Aside0.mk H
           clear H
           have p7 : 0 ≤ (x7_1 : Int) := of_decide_eq_true as_
           have q7 : x7_1 < (a0.size : Int) := of_decide_eq_true as_
           have hx7 := bt_at a0 x7_1
           replace p7 := eq_true p7
           replace q7 := eq_true q7
           go_wp2_with (first | ((with_reducible refine gate_builtin (b := .append) (xs := #[.tmp 34, .tmp 36]) rfl ?_); at_builtin; refine Kd.R_append (Kd.int .u8) (w0 := w) w.heap.size rfl (.tmp 34) (.tmp 36) 29 5 (.int .u8 0) 1 rfl Tryd.underlying29 info5 rfl (by decide) (by omega) u4 x4_1 (bt a0 x7_1) [.int .u8 (bt a0 x7_1)] (fun _ => True) (fun _ => False) rfl rfl ?aP (fun _ hk => hk.elim) ?aF ?aO ?aB ?aS ?aL ?_; (case aP => exact rfl); (case aB => exact hb_); (case aF => exact (fun _ _ => trivial)); (case aO => exact (ra_ HO_4.out)); (case aS => exact (below_size hb_)); (case aL => have := LMc13.out; omega); intro v151 w14 ho hb hg hat; rw [← Ny150.out] at ho; have n0_ := Aside0.mk (hb); have n1_ := Aside0.mk (ho); clear HB; clear HO_4; have HB := n0_; have HO152 := n1_; clear n0_ n1_; clear ho hb hg hat))
           go_roundg k1
           case measure => have := HK1.out; omega
           case rel => exact ⟨(y150), (1), (bt a0 x7_1), (wrap64 (x7_1 + 1)), es_, es_, es_, H', ⟨by have := HK1.out; omega⟩, ⟨ra_ HO152.out⟩, ⟨hb_⟩⟩
          ·rw [if_neg c13] at H
           exact absurd H (by simp)
        ·rw [if_neg c9] at H
         have c9b0 : decide (0 < x5_1) = false := decide_eq_false c9
         clear c9
         by_cases c15 : x4_1.length < 140737488355328
         ·rw [if_pos c15] at H
          have LMc15 := Aside0.mk c15
          clear c15
          obtain ⟨y153, hy153⟩ : ∃ y_ : List Int, y_ = (x4_1 ++ [bt a0 x7_1]) := ⟨_, rfl⟩
          replace H : (impl_UnstuffBits.l0 k1 a0 y153 1 (bt a0 x7_1) (wrap64 (x7_1 + 1))) = some (r1, r2) := by first | (rw [hy153]; with_reducible exact H) | (have H2_ := (Option.bind_some _ _).symm.trans H; rw [hy153]; with_reducible exact H2_) | (have H2_ := (Option.bind_some _ _).symm.trans H; with_reducible exact H2_) | with_reducible exact H | (rw [hy153]; exact H) | exact H
          have Ny153 := Aside0.mk hy153
          clear hy153
          have H' := Aside0.mk H
          clear H
          have p7 : 0 ≤ (x7_1 : Int) := of_decide_eq_true as_
          have q7 : x7_1 < (a0.size : Int) := of_decide_eq_true as_
          have hx7 := bt_at a0 x7_1
          replace p7 := eq_true p7
          replace q7 := eq_true q7
          go_wp2_with (first | ((with_reducible refine gate_builtin (b := .append) (xs := #[.tmp 34, .tmp 36]) rfl ?_); at_builtin; refine Kd.R_append (Kd.int .u8) (w0 := w) w.heap.size rfl (.tmp 34) (.tmp 36) 29 5 (.int .u8 0) 1 rfl Tryd.underlying29 info5 rfl (by decide) (by omega) u4 x4_1 (bt a0 x7_1) [.int .u8 (bt a0 x7_1)] (fun _ => True) (fun _ => False) rfl rfl ?aP (fun _ hk => hk.elim) ?aF ?aO ?aB ?aS ?aL ?_; (case aP => exact rfl); (case aB => exact hb_); (case aF => exact (fun _ _ => trivial)); (case aO => exact (ra_ HO_4.out)); (case aS => exact (below_size hb_)); (case aL => have := LMc15.out; omega); intro v154 w16 ho hb hg hat; rw [← Ny153.out] at ho; have n0_ := Aside0.mk (hb); have n1_ := Aside0.mk (ho); clear HB; clear HO_4; have HB := n0_; have HO155 := n1_; clear n0_ n1_; clear ho hb hg hat))
          go_roundg k1
          case measure => have := HK1.out; omega
          case rel => exact ⟨(y153), (1), (bt a0 x7_1), (wrap64 (x7_1 + 1)), es_, es_, es_, H', ⟨by have := HK1.out; omega⟩, ⟨ra_ HO155.out⟩, ⟨hb_⟩⟩
         ·rw [if_neg c15] at H
          exact absurd H (by simp)
      ·rw [if_neg c6] at H
       exact absurd H (by simp)
     ·rw [if_neg c5] at H
      have c5b0 : decide (x7_1 < (a0.size : Int)) = false := decide_eq_false c5
      clear c5
      replace H := Option.bind_eq_some_iff.mp H
      obtain ⟨t146, A170, H⟩ := H
      replace H : (if t146.toList = a0.toList then (some (strOfNums x4_1, true)) else (some ((⟨#[]⟩ : ByteArray), false))) = some (r1, r2) := H
      have A17 := Aside0.mk A170
      clear A170
      by_cases c18 : t146.toList = a0.toList
      ·rw [if_pos c18] at H
       have c18b0 : (t146.toList == a0.toList) = true := beq_iff_eq.mpr c18
       have c18b1 : (t146.toList != a0.toList) = false := bne_eq_false_iff_eq.mpr c18
       clear c18
       simp only [Option.some.injEq, Prod.mk.injEq] at H
       obtain ⟨rfl, rfl⟩ := H
       have hcv19 := own_string (P := Tryd.prog) Tryd.underlying29 Tryd.underlying5 Tryd.underlying9 (Kd.own_of_R HO_4.out)
       go_wp2_with (first | ((with_reducible refine gate_callee (f := 17) rfl ?_); refine goesL_ (some 40) rfl rfl Tryd.func17 (by kernel_rfl) rfl #[.string (strOfNums x4_1)] rfl ls_ ?_; (with_reducible refine (impl_stuff.calls (strOfNums x4_1) t146 _ A17.out).mono ?_); rintro e w20 ⟨rfl, hb⟩; refine ⟨_, rfl, ?_⟩; have n0_ := Aside0.mk (Kd.R_below (ra_ HO_4.out) hb); have n1_ := Aside0.mk (below_step hb_ hb); clear HO_4; clear HB; have HO_4 := n0_; have HB := n1_; clear n0_ n1_; (try clear hb); (try clear hb2); (try clear hk); (try clear hi); have hcv21 := own_string (P := Tryd.prog) Tryd.underlying29 Tryd.underlying5 Tryd.underlying9 (Kd.own_of_R HO_4.out)))
       go_ret2
       exact ⟨er_, hb_⟩
      ·rw [if_neg c18] at H
       have c18b0 : (t146.toList == a0.toList) = false := beq_eq_false_iff_ne.mpr c18
       have c18b1 : (t146.toList != a0.toList) = true := bne_iff_ne.mpr c18
       simp only [Option.some.injEq, Prod.mk.injEq] at H
       obtain ⟨rfl, rfl⟩ := H
       have hcv22 := own_string (P := Tryd.prog) Tryd.underlying29 Tryd.underlying5 Tryd.underlying9 (Kd.own_of_R HO_4.out)
       go_wp2_with (first | ((with_reducible refine gate_callee (f := 17) rfl ?_); refine goesL_ (some 40) rfl rfl Tryd.func17 (by kernel_rfl) rfl #[.string (strOfNums x4_1)] rfl ls_ ?_; (with_reducible refine (impl_stuff.calls (strOfNums x4_1) t146 _ A17.out).mono ?_); rintro e w23 ⟨rfl, hb⟩; refine ⟨_, rfl, ?_⟩; have n0_ := Aside0.mk (Kd.R_below (ra_ HO_4.out) hb); have n1_ := Aside0.mk (below_step hb_ hb); clear HO_4; clear HB; have HO_4 := n0_; have HB := n1_; clear n0_ n1_; (try clear hb); (try clear hb2); (try clear hk); (try clear hi)))
       go_ret2
       exact ⟨er_, hb_⟩
  ·replace c3 := Bool.eq_false_iff.mpr c3
   subst c3
   rw [if_neg (show ¬ (false = true) by decide)] at H
   simp only [Option.some.injEq, Prod.mk.injEq] at H
   obtain ⟨rfl, rfl⟩ := H
   go_enter Tryd.func11, Tryd.ntmps11
   go_wp2_with (first | ((with_reducible refine gate_callee (f := 14) rfl ?_); refine goesL_ (some 10) rfl rfl Tryd.func14 (by kernel_rfl) rfl #[.string a0] rfl ls_ ?_; (with_reducible refine (impl_goodBits.calls a0 false _ A2.out).mono ?_); rintro e w24 ⟨rfl, hb⟩; refine ⟨_, rfl, ?_⟩; have n0_ := Aside0.mk (below_step hb_ hb); clear HB; have HB := n0_; clear n0_; (try clear hb); (try clear hb2); (try clear hk); (try clear hi)))
   go_ret2
   exact ⟨er_, hb_⟩

set_option maxHeartbeats 8000000 in
set_option maxRecDepth 100000 in
theorem laws_FnExactUnstuffBits.calls (k : Nat) (a0 : ByteArray) (r : Bool) (w : World) (h : laws_FnExactUnstuffBits.f k a0 = some r) :
   Calls Tryd.prog 5 #[.string a0] w fun e w' => e = .returned (.bool r) ∧ Below w.heap.size w w' := by
  have HB := Aside0.mk (Below.refl w.heap.size w)
  have H : (if (a0.size : Int) > 1048576 then (some true) else ((spec_UnstuffBits.f k a0).bind fun bt156 => ((impl_UnstuffBits.f k a0).bind fun bt158 => (if bt158.1.toList = bt156.1.toList then (if (bt158.2 != bt156.2) = true then (some false) else (some true)) else (some false))))) = some r := h
  clear h
  by_cases c2 : (a0.size : Int) > 1048576
  ·rw [if_pos c2] at H
   have c2b0 : decide (1048576 < (a0.size : Int)) = true := decide_eq_true c2
   have c2b1 : decide (1048576 < a0.size) = true := decide_eq_true (by omega)
   clear c2
   obtain rfl := Option.some.inj H
   go_enter Tryd.func5, Tryd.ntmps5
   go_wp2
   go_ret
   exact ⟨er_, hb_⟩
  ·rw [if_neg c2] at H
   have c2b0 : decide (1048576 < (a0.size : Int)) = false := decide_eq_false c2
   have c2b1 : decide (1048576 < a0.size) = false := decide_eq_false (by omega)
   clear c2
   replace H := Option.bind_eq_some_iff.mp H
   obtain ⟨⟨t156, t157⟩, A30, H⟩ := H
   replace H : ((impl_UnstuffBits.f k a0).bind fun bt158 => (if bt158.1.toList = t156.toList then (if (bt158.2 != t157) = true then (some false) else (some true)) else (some false))) = some r := H
   have A3 := Aside0.mk A30
   clear A30
   replace H := Option.bind_eq_some_iff.mp H
   obtain ⟨⟨t158, t159⟩, A40, H⟩ := H
   replace H : (if t158.toList = t156.toList then (if (t159 != t157) = true then (some false) else (some true)) else (some false)) = some r := H
   have A4 := Aside0.mk A40
   clear A40
   by_cases c5 : t158.toList = t156.toList
   ·rw [if_pos c5] at H
    have c5b0 : (t158.toList == t156.toList) = true := beq_iff_eq.mpr c5
    have c5b1 : (t158.toList != t156.toList) = false := bne_eq_false_iff_eq.mpr c5
    clear c5
    by_cases c6 : (t159 != t157) = true
    ·rw [if_pos c6] at H
     have c6b0 : (t159 != t157) = true := c6
     (try (have c6b1 : decide (t159 = t157) = false := by simpa using c6))
     (try (have c6b2 : (t159 == t157) = false := by simpa using c6))
     (try (have c6b3 : ¬ (t159 = t157) := by simpa using c6))
     clear c6
     obtain rfl := Option.some.inj H
     go_enter Tryd.func5, Tryd.ntmps5
     go_wp2_with (first | ((with_reducible refine gate_callee (f := 10) rfl ?_); refine goesL_ (some 12) rfl rfl Tryd.func10 (by kernel_rfl) rfl #[.string a0] rfl ls_ ?_; (with_reducible refine (spec_UnstuffBits.calls k a0 t156 t157 _ A3.out).mono ?_); rintro e w7 ⟨rfl, hb⟩; refine ⟨_, rfl, ?_⟩; have n0_ := Aside0.mk (below_step hb_ hb); clear HB; have HB := n0_; clear n0_; (try clear hb); (try clear hb2); (try clear hk); (try clear hi)) | ((with_reducible refine gate_callee (f := 11) rfl ?_); refine goesL_ (some 17) rfl rfl Tryd.func11 (by kernel_rfl) rfl #[.string a0] rfl ls_ ?_; (with_reducible refine (impl_UnstuffBits.calls k a0 t158 t159 _ A4.out).mono ?_); rintro e w8 ⟨rfl, hb⟩; refine ⟨_, rfl, ?_⟩; have n0_ := Aside0.mk (below_step hb_ hb); clear HB; have HB := n0_; clear n0_; (try clear hb); (try clear hb2); (try clear hk); (try clear hi)))
     go_ret
     exact ⟨er_, hb_⟩
    ·rw [if_neg c6] at H
     have c6b0 : (t159 != t157) = false := by simpa using c6
     (try (have c6b1 : decide (t159 = t157) = true := by simpa using c6))
     (try (have c6b2 : (t159 == t157) = true := by simpa using c6))
     clear c6
     obtain rfl := Option.some.inj H
     go_enter Tryd.func5, Tryd.ntmps5
     go_wp2_with (first | ((with_reducible refine gate_callee (f := 10) rfl ?_); refine goesL_ (some 12) rfl rfl Tryd.func10 (by kernel_rfl) rfl #[.string a0] rfl ls_ ?_; (with_reducible refine (spec_UnstuffBits.calls k a0 t156 t157 _ A3.out).mono ?_); rintro e w9 ⟨rfl, hb⟩; refine ⟨_, rfl, ?_⟩; have n0_ := Aside0.mk (below_step hb_ hb); clear HB; have HB := n0_; clear n0_; (try clear hb); (try clear hb2); (try clear hk); (try clear hi)) | ((with_reducible refine gate_callee (f := 11) rfl ?_); refine goesL_ (some 17) rfl rfl Tryd.func11 (by kernel_rfl) rfl #[.string a0] rfl ls_ ?_; (with_reducible refine (impl_UnstuffBits.calls k a0 t158 t159 _ A4.out).mono ?_); rintro e w10 ⟨rfl, hb⟩; refine ⟨_, rfl, ?_⟩; have n0_ := Aside0.mk (below_step hb_ hb); clear HB; have HB := n0_; clear n0_; (try clear hb); (try clear hb2); (try clear hk); (try clear hi)))
     go_ret
     exact ⟨er_, hb_⟩
   ·rw [if_neg c5] at H
    have c5b0 : (t158.toList == t156.toList) = false := beq_eq_false_iff_ne.mpr c5
    have c5b1 : (t158.toList != t156.toList) = true := bne_iff_ne.mpr c5
    obtain rfl := Option.some.inj H
    go_enter Tryd.func5, Tryd.ntmps5
    go_wp2_with (first | ((with_reducible refine gate_callee (f := 10) rfl ?_); refine goesL_ (some 12) rfl rfl Tryd.func10 (by kernel_rfl) rfl #[.string a0] rfl ls_ ?_; (with_reducible refine (spec_UnstuffBits.calls k a0 t156 t157 _ A3.out).mono ?_); rintro e w11 ⟨rfl, hb⟩; refine ⟨_, rfl, ?_⟩; have n0_ := Aside0.mk (below_step hb_ hb); clear HB; have HB := n0_; clear n0_; (try clear hb); (try clear hb2); (try clear hk); (try clear hi)) | ((with_reducible refine gate_callee (f := 11) rfl ?_); refine goesL_ (some 17) rfl rfl Tryd.func11 (by kernel_rfl) rfl #[.string a0] rfl ls_ ?_; (with_reducible refine (impl_UnstuffBits.calls k a0 t158 t159 _ A4.out).mono ?_); rintro e w12 ⟨rfl, hb⟩; refine ⟨_, rfl, ?_⟩; have n0_ := Aside0.mk (below_step hb_ hb); clear HB; have HB := n0_; clear n0_; (try clear hb); (try clear hb2); (try clear hk); (try clear hi)))
    go_ret
    exact ⟨er_, hb_⟩

end Go.Proofs.YtbdonoeellmeoaaDoor.Pr
