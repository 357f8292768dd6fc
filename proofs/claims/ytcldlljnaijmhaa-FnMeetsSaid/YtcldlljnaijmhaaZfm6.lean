-- Joined and pruned by wip/tools/prune.py out of this session's own texts (Pr7, Pr8, Pr9, Pr10, Pr5)
import Derived.Test.YtcldlljnaijmhaaZfm5
namespace Go.Proofs.Ytcldlljnaijmhaa.Pr
open Go.RowKit Go.Proofs.YtcldlljnaijmhaaW.PrintWords Go.Proofs.YtcldlljnaijmhaaW.PrintLast Go.Proofs.YtcldlljnaijmhaaW.PrintMore
attribute [local go_sem] max2_int min2_int max_two min_two max_three min_three max_four min_four
set_option linter.unusedVariables false
set_option linter.unusedSimpArgs false

set_option maxHeartbeats 8000000 in
set_option maxRecDepth 100000 in
theorem spec_l12Sized.calls (a0 : Int) (a1 : Int) (r : Bool) (w : World) (h : spec_l12Sized.f a0 a1 = some r) :
   Calls Try.prog 67 #[.int .i64 a0,.int .i64 a1] w fun e w' => e = .returned (.bool r) ∧ Drawn0 w w':=by
  have H : (if a0 ≥ 1 then (if a0 ≤ 16 then (if a1 ≥ a0 then (if a0 = 0 then (none) else (if (Int.tmod a1 a0) = 0 then (some (decide ((wrap64 (Int.tdiv a1 a0)) ≤ 16))) else (some false))) else (some false)) else (some false)) else (some false)) = some r:=h;clear h;by_cases c3 : a0 ≥ 1
  ·rw [if_pos c3] at H
   have z0 : decide (1 ≤ a0) = true:=decide_eq_true c3;clear c3;by_cases c4 : a0 ≤ 16
   ·rw [if_pos c4] at H
    have z1 : decide (a0 ≤ 16) = true:=decide_eq_true c4;clear c4;by_cases c5 : a1 ≥ a0
    ·rw [if_pos c5] at H
     have z2 : decide (a0 ≤ a1) = true:=decide_eq_true c5;clear c5;by_cases c6 : a0 = 0
     ·rw [if_pos c6] at H
      exact absurd H (by simp)
     ·rw [if_neg c6] at H
      have z5 : (a0 == 0) = false:=beq_eq_false_iff_ne.mpr c6;have z6 : (a0 != 0) = true:=bne_iff_ne.mpr c6;by_cases c7 : (Int.tmod a1 a0) = 0
      ·rw [if_pos c7] at H
       have z3 : ((Int.tmod a1 a0) == 0) = true:=beq_iff_eq.mpr c7;have z4 : ((Int.tmod a1 a0) != 0) = false:=bne_eq_false_iff_eq.mpr c7;clear c7
       obtain rfl:=Option.some.inj H
       go_enter Try.func67,Try.ntmps67;go_wp2;go_ret;exact ⟨es_,by repeat (first | exact Drawn0.refl _ | apply Drawn0.step)⟩
      ·rw [if_neg c7] at H
       have z3 : ((Int.tmod a1 a0) == 0) = false:=beq_eq_false_iff_ne.mpr c7;have z4 : ((Int.tmod a1 a0) != 0) = true:=bne_iff_ne.mpr c7
       obtain rfl:=Option.some.inj H
       go_enter Try.func67,Try.ntmps67;go_wp2;go_ret;exact ⟨es_,by repeat (first | exact Drawn0.refl _ | apply Drawn0.step)⟩
    ·rw [if_neg c5] at H
     have z2 : decide (a0 ≤ a1) = false:=decide_eq_false c5;clear c5
     obtain rfl:=Option.some.inj H
     go_enter Try.func67,Try.ntmps67;go_wp2;go_ret;exact ⟨es_,by repeat (first | exact Drawn0.refl _ | apply Drawn0.step)⟩
   ·rw [if_neg c4] at H
    have z1 : decide (a0 ≤ 16) = false:=decide_eq_false c4;clear c4
    obtain rfl:=Option.some.inj H
    go_enter Try.func67,Try.ntmps67;go_wp2;go_ret;exact ⟨es_,by repeat (first | exact Drawn0.refl _ | apply Drawn0.step)⟩
  ·rw [if_neg c3] at H
   have z0 : decide (1 ≤ a0) = false:=decide_eq_false c3;clear c3
   obtain rfl:=Option.some.inj H
   go_enter Try.func67,Try.ntmps67;go_wp2;go_ret;exact ⟨es_,by repeat (first | exact Drawn0.refl _ | apply Drawn0.step)⟩

set_option maxHeartbeats 8000000 in
set_option maxRecDepth 100000 in
theorem spec_GoodCells.calls (k : Nat) (a0_0 : Int) (z7 : Option Addr) (c0_1 : Nat) (z0 : List Int) (r : Bool) (w : World) (hr0_1 : Kd.C (Kd.int .i64) w z7 z0.length z0) (hc0_1 : z0.length ≤ c0_1) (h : spec_GoodCells.f k a0_0 z0 = some r) :
   Calls Try.prog 52 #[.agg #[.int .i64 a0_0,.slice z7 z0.length c0_1]] w fun e w' => e = .returned (.bool r) ∧ Below w.heap.size w w':=by
  have r5:=Try.underlying39;have z8:=Aside0.mk hr0_1;have r4:=Aside0.mk hc0_1;clear hr0_1 hc0_1;have HB:=ak (Below.refl w.heap.size w);have H : ((spec_l12Sized.f a0_0 (z0.length : Int)).bind fun z9 => (if z9 = true then (spec_GoodCells.l0 k z0 (z0.length : Int) 0) else (some false))) = some r:=h;clear h;replace H:=Option.bind_eq_some_iff.mp H;obtain ⟨z9,A20,H⟩:=H;replace H : (if z9 = true then (spec_GoodCells.l0 k z0 (z0.length : Int) 0) else (some false)) = some r:=H;have A2:=Aside0.mk A20;clear A20;by_cases c3 : z9 = true
  ·subst c3
   rw [if_pos rfl] at H;have H':=Aside0.mk H;clear H;go_enter Try.func52,Try.ntmps52;go_wp2_with (first | ((with_reducible refine gate_dst (N:=1) rfl ?_);refine box_event ?hg (N:=1) ?hd (cs:=#[.int .i64 a0_0,.slice z7 z0.length c0_1]) (t:=39) ?hr ?_;(case hd => rfl);(case hg => rfl);(case hr => first | (go_simp;done) | (go_simp;rfl));intro z4 hg w4 hbox hb;have z2:=ak (hbox);have j1 : Aside0 (w.heap.size ≤ z4):=gz_;have j2 : Aside0 (w.heap.size ≤ z4):=gz_;replace HB:=ak (below_step hb_ hb);clear hb hbox hg;have r0:=b20 z2;have r1:=b21 z2;have r2:=blk_frozen z2.out 0;have r3:=blk_frozen z2.out 1) | ((with_reducible refine gate_callee (f:=67) rfl ?_);refine goesL_ (some 10) rfl rfl Try.func67 (by kernel_rfl) rfl #[.int .i64 a0_0,.int .i64 (z0.length : Int)] rfl ls_ ?_;(with_reducible refine (spec_l12Sized.calls a0_0 (z0.length : Int) true _ A2.out).mono ?_);rintro e w' ⟨rfl,⟨nd,rfl⟩⟩;refine ⟨_,rfl,?_⟩))
   go_loopg [15] k (fun kq v15 w' => ∃ (z1 : Int),v15 = .int .i64 z1 ∧ Aside0 (spec_GoodCells.l0 kq z0 (z0.length : Int) z1 = some r) ∧ Aside0 (kq ≤ k) ∧ Aside0 (w'.heap[z4]? = some (.cells #[.int .i64 a0_0,(.slice z7 z0.length c0_1)] 39 (0,0))) ∧ Aside0 (Below w.heap.size w w'))
   case atStart => exact ⟨(0),es_,H',⟨Nat.le_refl _⟩,⟨bk_ z2.out⟩,⟨hb_⟩⟩
   case round =>
    clear H';obtain ⟨z1,rfl,HA,HK1,z2,HB⟩:=hrel
    cases gk with
    | zero => exact absurd HA.out (by simp [spec_GoodCells.l0])
    | succ k1 =>
     have H:=HA.out;clear HA;simp only [spec_GoodCells.l0] at H;by_cases c6 : z1 < (z0.length : Int)
     ·rw [if_pos c6] at H
      have j4 : decide (z1 < (z0.length : Int)) = true:=decide_eq_true c6;clear c6;by_cases c7 : 0 ≤ z1
      ·rw [if_pos c7] at H
       have r6 : decide (0 ≤ z1) = true:=decide_eq_true c7;clear c7;by_cases c8 : z1 < (z0.length : Int)
       ·rw [if_pos c8] at H
        have r7 : decide (z1 < (z0.length : Int)) = true:=decide_eq_true c8;clear c8;by_cases c9 : (rd z0 z1) < 0
        ·rw [if_pos c9] at H
         have j5 : decide ((rd z0 z1) < 0) = true:=decide_eq_true c9;clear c9
         obtain rfl:=Option.some.inj H
         have z5 : 0 ≤ (z1 : Int):=of_decide_eq_true as_;have z6 : z1 < (z0.length : Int):=of_decide_eq_true as_;obtain ⟨j0,e164,z3⟩:=Kd.at_int z8.out z1 z5 z6;cases e164;replace z3:=hc_ HB z3;replace z5:=eq_true z5;replace z6:=eq_true z6;go_wp2;go_ret;exact ⟨er_,hb_⟩
        ·rw [if_neg c9] at H
         have j5 : decide ((rd z0 z1) < 0) = false:=decide_eq_false c9;clear c9;by_cases c10 : (rd z0 z1) > 2
         ·rw [if_pos c10] at H
          have j3 : decide (2 < (rd z0 z1)) = true:=decide_eq_true c10;clear c10
          obtain rfl:=Option.some.inj H
          have z5 : 0 ≤ (z1 : Int):=of_decide_eq_true as_;have z6 : z1 < (z0.length : Int):=of_decide_eq_true as_;obtain ⟨j0,e164,z3⟩:=Kd.at_int z8.out z1 z5 z6;cases e164;replace z3:=hc_ HB z3;replace z5:=eq_true z5;replace z6:=eq_true z6;go_wp2;go_ret;exact ⟨er_,hb_⟩
         ·rw [if_neg c10] at H
          have j3 : decide (2 < (rd z0 z1)) = false:=decide_eq_false c10;clear c10;have H':=Aside0.mk H;clear H;have z5 : 0 ≤ (z1 : Int):=of_decide_eq_true as_;have z6 : z1 < (z0.length : Int):=of_decide_eq_true as_;obtain ⟨j0,e164,z3⟩:=Kd.at_int z8.out z1 z5 z6;cases e164;replace z3:=hc_ HB z3;replace z5:=eq_true z5;replace z6:=eq_true z6;go_wp2;go_roundg k1
          case measure => have:=HK1.out;omega
          case rel => exact ⟨(wrap64 (z1 + 1)),es_,H',⟨by have:=HK1.out;omega⟩,⟨bk_ z2.out⟩,⟨hb_⟩⟩
       ·rw [if_neg c8] at H
        exact absurd H (by simp)
      ·rw [if_neg c7] at H
       exact absurd H (by simp)
     ·rw [if_neg c6] at H
      have j4 : decide (z1 < (z0.length : Int)) = false:=decide_eq_false c6;clear c6
      obtain rfl:=Option.some.inj H
      go_wp2;go_ret;exact ⟨er_,hb_⟩
  ·replace c3:=Bool.eq_false_iff.mpr c3
   subst c3;rw [if_neg (show ¬ (false = true) by decide)] at H
   obtain rfl:=Option.some.inj H
   go_enter Try.func52,Try.ntmps52;go_wp2_with (first | ((with_reducible refine gate_dst (N:=1) rfl ?_);refine box_event ?hg (N:=1) ?hd (cs:=#[.int .i64 a0_0,.slice z7 z0.length c0_1]) (t:=39) ?hr ?_;(case hd => rfl);(case hg => rfl);(case hr => first | (go_simp;done) | (go_simp;rfl));intro z4 hg w11 hbox hb;have z2:=ak (hbox);have j1 : Aside0 (w.heap.size ≤ z4):=gz_;have j2 : Aside0 (w.heap.size ≤ z4):=gz_;replace HB:=ak (below_step hb_ hb);clear hb hbox hg;have j6:=b20 z2;have j7:=b21 z2;have j8:=blk_frozen z2.out 0;have j9:=blk_frozen z2.out 1) | ((with_reducible refine gate_callee (f:=67) rfl ?_);refine goesL_ (some 10) rfl rfl Try.func67 (by kernel_rfl) rfl #[.int .i64 a0_0,.int .i64 (z0.length : Int)] rfl ls_ ?_;(with_reducible refine (spec_l12Sized.calls a0_0 (z0.length : Int) false _ A2.out).mono ?_);rintro e w' ⟨rfl,⟨nd,rfl⟩⟩;refine ⟨_,rfl,?_⟩));go_ret;exact ⟨er_,hb_⟩

set_option maxHeartbeats 8000000 in
set_option maxRecDepth 100000 in
theorem spec_l12Free.calls (a0_0 : Int) (z3 : Option Addr) (c0_1 : Nat) (z0 : List Int) (a1 : Int) (r : Bool) (w : World) (hr0_1 : Kd.C (Kd.int .i64) w z3 z0.length z0) (hc0_1 : z0.length ≤ c0_1) (h : spec_l12Free.f a0_0 z0 a1 = some r) :
   Calls Try.prog 53 #[.agg #[.int .i64 a0_0,.slice z3 z0.length c0_1],.int .i64 a1] w fun e w' => e = .returned (.bool r) ∧ Below w.heap.size w w':=by
  have r2:=Try.underlying39;have z9:=Aside0.mk hr0_1;have r0:=Aside0.mk hc0_1;clear hr0_1 hc0_1;have HB:=ak (Below.refl w.heap.size w);have H : (if a1 ≥ 0 then (if a1 < (z0.length : Int) then (if 0 ≤ a1 then (some ((rd z0 a1) == 0)) else (none)) else (some false)) else (some false)) = some r:=h;clear h;by_cases c3 : a1 ≥ 0
  ·rw [if_pos c3] at H
   have j0 : decide (0 ≤ a1) = true:=decide_eq_true c3;clear c3;by_cases c4 : a1 < (z0.length : Int)
   ·rw [if_pos c4] at H
    have j1 : decide (a1 < (z0.length : Int)) = true:=decide_eq_true c4;clear c4;by_cases c5 : 0 ≤ a1
    ·rw [if_pos c5] at H
     have r3 : decide (0 ≤ a1) = true:=decide_eq_true c5;clear c5
     obtain rfl:=Option.some.inj H
     go_enter Try.func53,Try.ntmps53;go_wp2_with (first | ((with_reducible refine gate_dst (N:=2) rfl ?_);(try (refine gate_guard (by rfl) ?_;dsimp only));refine box_event ?hg (N:=2) ?hd (cs:=#[.int .i64 a0_0,.slice z3 z0.length c0_1]) (t:=39) ?hr ?_;(case hd => rfl);(case hg => rfl);(case hr => first | (go_simp;done) | (go_simp;rfl));intro z1 hg w6 hbox hb;have z2:=ak (hbox);have z7 : Aside0 (w.heap.size ≤ z1):=gz_;have z8 : Aside0 (w.heap.size ≤ z1):=gz_;replace HB:=ak (below_step hb_ hb);clear hb hbox hg;have j2:=b20 z2;have j3:=b21 z2;have j4:=blk_frozen z2.out 0;have j5:=blk_frozen z2.out 1;have z5 : 0 ≤ (a1 : Int):=of_decide_eq_true as_;have z6 : a1 < (z0.length : Int):=of_decide_eq_true as_;obtain ⟨r1,e166,z4⟩:=Kd.at_int z9.out a1 z5 z6;cases e166;replace z4:=hc_ HB z4;replace z5:=eq_true z5;replace z6:=eq_true z6));go_ret;exact ⟨er_,hb_⟩
    ·rw [if_neg c5] at H
     exact absurd H (by simp)
   ·rw [if_neg c4] at H
    have j1 : decide (a1 < (z0.length : Int)) = false:=decide_eq_false c4;clear c4
    obtain rfl:=Option.some.inj H
    go_enter Try.func53,Try.ntmps53;go_wp2_with (first | ((with_reducible refine gate_dst (N:=2) rfl ?_);(try (refine gate_guard (by rfl) ?_;dsimp only));refine box_event ?hg (N:=2) ?hd (cs:=#[.int .i64 a0_0,.slice z3 z0.length c0_1]) (t:=39) ?hr ?_;(case hd => rfl);(case hg => rfl);(case hr => first | (go_simp;done) | (go_simp;rfl));intro z1 hg w8 hbox hb;have z2:=ak (hbox);have z7 : Aside0 (w.heap.size ≤ z1):=gz_;have z8 : Aside0 (w.heap.size ≤ z1):=gz_;replace HB:=ak (below_step hb_ hb);clear hb hbox hg;have j6:=b20 z2;have j7:=b21 z2;have j8:=blk_frozen z2.out 0;have j9:=blk_frozen z2.out 1));go_ret;exact ⟨er_,hb_⟩
  ·rw [if_neg c3] at H
   have j0 : decide (0 ≤ a1) = false:=decide_eq_false c3;clear c3
   obtain rfl:=Option.some.inj H
   go_enter Try.func53,Try.ntmps53;go_wp2_with (first | ((with_reducible refine gate_dst (N:=2) rfl ?_);(try (refine gate_guard (by rfl) ?_;dsimp only));refine box_event ?hg (N:=2) ?hd (cs:=#[.int .i64 a0_0,.slice z3 z0.length c0_1]) (t:=39) ?hr ?_;(case hd => rfl);(case hg => rfl);(case hr => first | (go_simp;done) | (go_simp;rfl));intro z1 hg w10 hbox hb;have z2:=ak (hbox);have z7 : Aside0 (w.heap.size ≤ z1):=gz_;have z8 : Aside0 (w.heap.size ≤ z1):=gz_;replace HB:=ak (below_step hb_ hb);clear hb hbox hg));go_ret;exact ⟨er_,hb_⟩

end Go.Proofs.Ytcldlljnaijmhaa.Pr
namespace Go.Proofs.Ytcldlljnaijmhaa.Pr
open Go.RowKit Go.Proofs.YtcldlljnaijmhaaW.PrintWords Go.Proofs.YtcldlljnaijmhaaW.PrintLast Go.Proofs.YtcldlljnaijmhaaW.PrintMore
attribute [local go_sem] max2_int min2_int max_two min_two max_three min_three max_four min_four
set_option linter.unusedVariables false
set_option linter.unusedSimpArgs false

set_option maxHeartbeats 8000000 in
set_option maxRecDepth 100000 in
theorem spec_GoodTrips.calls (k : Nat) (a0_0 : Int) (j0 : Option Addr) (c0_1 : Nat) (z3 : List Int) (A1 : Option Addr) (c1 : Nat) (l1 : List (S49)) (r : Bool) (w : World) (hr0_1 : Kd.C (Kd.int .i64) w j0 z3.length z3) (hc0_1 : z3.length ≤ c0_1) (hr1 : Kd.C k49 w A1 l1.length l1) (hc1 : l1.length ≤ c1) (h : spec_GoodTrips.f k a0_0 z3 l1 = some r) :
   Calls Try.prog 25 #[.agg #[.int .i64 a0_0,.slice j0 z3.length c0_1],.slice A1 l1.length c1] w fun e w' => e = .returned (.bool r) ∧ Below w.heap.size w w':=by
  have zh3:=Try.underlying39;have zh4:=Try.underlying49;have j2:=Aside0.mk hr0_1;have j3:=Aside0.mk hc0_1;clear hr0_1 hc0_1;have HR1:=Aside0.mk hr1;have HC1:=Aside0.mk hc1;clear hr1 hc1;have HB:=ak (Below.refl w.heap.size w);have H : ((spec_GoodCells.f k a0_0 z3).bind fun za1 => (if za1 = true then (spec_GoodTrips.j0 k l1 (decide ((l1.length : Int) > 5)) a0_0 z3) else (spec_GoodTrips.j0 k l1 true a0_0 z3))) = some r:=h;clear h;have HC3:=Aside0.mk H;clear H;go_enter Try.func25,Try.ntmps25
  go_upto_region 1 with (first | ((with_reducible refine gate_dst (N:=2) rfl ?_);(try (refine gate_guard (by rfl) ?_;dsimp only));refine box_event ?hg (N:=2) ?hd (cs:=#[.int .i64 a0_0,.slice j0 z3.length c0_1]) (t:=39) ?hr ?_;(case hd => rfl);(case hg => rfl);(case hr => first | (go_simp;done) | (go_simp;rfl));intro z4 hg w4 hbox hb;have z1:=ak (hbox);have za7 : Aside0 (w.heap.size ≤ z4):=gz_;have za8 : Aside0 (w.heap.size ≤ z4):=gz_;replace HB:=ak (below_step hb_ hb);clear hb hbox hg))
  (repeat (go_quiet (first | ((with_reducible refine gate_dst (N:=2) rfl ?_);(try (refine gate_guard (by rfl) ?_;dsimp only));refine box_event ?hg (N:=2) ?hd (cs:=#[.int .i64 a0_0,.slice j0 z3.length c0_1]) (t:=39) ?hr ?_;(case hd => rfl);(case hg => rfl);(case hr => first | (go_simp;done) | (go_simp;rfl));intro z4 hg w4 hbox hb;have z1:=ak (hbox);have za7 : Aside0 (w.heap.size ≤ z4):=gz_;have za8 : Aside0 (w.heap.size ≤ z4):=gz_;replace HB:=ak (below_step hb_ hb);clear hb hbox hg));go_upto_region 1 with (first | ((with_reducible refine gate_dst (N:=2) rfl ?_);(try (refine gate_guard (by rfl) ?_;dsimp only));refine box_event ?hg (N:=2) ?hd (cs:=#[.int .i64 a0_0,.slice j0 z3.length c0_1]) (t:=39) ?hr ?_;(case hd => rfl);(case hg => rfl);(case hr => first | (go_simp;done) | (go_simp;rfl));intro z4 hg w4 hbox hb;have z1:=ak (hbox);have za7 : Aside0 (w.heap.size ≤ z4):=gz_;have za8 : Aside0 (w.heap.size ≤ z4):=gz_;replace HB:=ak (below_step hb_ hb);clear hb hbox hg))));(try simp only [Act.put,List.setIfInBounds_toArray,List.set_cons_zero,List.set_cons_succ])
  go_cut [15] (fun v15 wc => ∃ (kq : Nat) (r6 : Bool),v15 = .bool r6 ∧ Aside0 (spec_GoodTrips.j0 kq l1 r6 a0_0 z3 = some r) ∧ Aside0 (kq ≤ k) ∧ Aside0 (wc.heap[z4]? = some (.cells #[.int .i64 a0_0,(.slice j0 z3.length c0_1)] 39 (0,0))) ∧ Aside0 (Below w.heap.size w wc))
  case first =>
   have H:=HC3.out;clear HC3;replace H:=Option.bind_eq_some_iff.mp H;obtain ⟨za1,A50,H⟩:=H;replace H : (if za1 = true then (spec_GoodTrips.j0 k l1 (decide ((l1.length : Int) > 5)) a0_0 z3) else (spec_GoodTrips.j0 k l1 true a0_0 z3)) = some r:=H;have A5:=Aside0.mk A50;clear A50;by_cases c6 : za1 = true
   ·subst c6
    rw [if_pos rfl] at H;have H':=Aside0.mk H;clear H;have zf1:=b20 z1;have zf2:=b21 z1;have zf3:=blk_frozen z1.out 0;have zf4:=blk_frozen z1.out 1;go_wp2_with (first | (go_at_call 52;(with_reducible refine (spec_GoodCells.calls k a0_0 _ _ z3 true _ ?z7 ?z8 A5.out).mono ?_);(case z7 => exact cb_ j2.out);(case z8 => exact j3.out);rintro e w8 ⟨rfl,hb⟩;replace z1:=bb_ z1 hb;replace HB:=ak (below_step hb_ hb);(try clear hb);(try clear hb2);(try clear hk);(try clear hi)));(repeat (go_quiet (first | (go_at_call 52;(with_reducible refine (spec_GoodCells.calls k a0_0 _ _ z3 true _ ?z7 ?z8 A5.out).mono ?_);(case z7 => exact cb_ j2.out);(case z8 => exact j3.out);rintro e w8 ⟨rfl,hb⟩;replace z1:=bb_ z1 hb;replace HB:=ak (below_step hb_ hb);(try clear hb);(try clear hb2);(try clear hk);(try clear hi)));try go_wp2_with (first | (go_at_call 52;(with_reducible refine (spec_GoodCells.calls k a0_0 _ _ z3 true _ ?z7 ?z8 A5.out).mono ?_);(case z7 => exact cb_ j2.out);(case z8 => exact j3.out);rintro e w8 ⟨rfl,hb⟩;replace z1:=bb_ z1 hb;replace HB:=ak (below_step hb_ hb);(try clear hb);(try clear hb2);(try clear hk);(try clear hi)))));go_meet
    case rel => exact ⟨_,(decide ((l1.length : Int) > 5)),es_,H',⟨by first | omega | exact Nat.le_refl _⟩,⟨bk_ z1.out⟩,⟨hb_⟩⟩
   ·replace c6:=Bool.eq_false_iff.mpr c6
    subst c6;rw [if_neg (show ¬ (false = true) by decide)] at H;have H':=Aside0.mk H;clear H;have zf5:=b20 z1;have zf6:=b21 z1;have zf7:=blk_frozen z1.out 0;have zf8:=blk_frozen z1.out 1;go_wp2_with (first | (go_at_call 52;(with_reducible refine (spec_GoodCells.calls k a0_0 _ _ z3 false _ ?z7 ?z8 A5.out).mono ?_);(case z7 => exact cb_ j2.out);(case z8 => exact j3.out);rintro e w10 ⟨rfl,hb⟩;replace z1:=bb_ z1 hb;replace HB:=ak (below_step hb_ hb);(try clear hb);(try clear hb2);(try clear hk);(try clear hi)));(repeat (go_quiet (first | (go_at_call 52;(with_reducible refine (spec_GoodCells.calls k a0_0 _ _ z3 false _ ?z7 ?z8 A5.out).mono ?_);(case z7 => exact cb_ j2.out);(case z8 => exact j3.out);rintro e w10 ⟨rfl,hb⟩;replace z1:=bb_ z1 hb;replace HB:=ak (below_step hb_ hb);(try clear hb);(try clear hb2);(try clear hk);(try clear hi)));try go_wp2_with (first | (go_at_call 52;(with_reducible refine (spec_GoodCells.calls k a0_0 _ _ z3 false _ ?z7 ?z8 A5.out).mono ?_);(case z7 => exact cb_ j2.out);(case z8 => exact j3.out);rintro e w10 ⟨rfl,hb⟩;replace z1:=bb_ z1 hb;replace HB:=ak (below_step hb_ hb);(try clear hb);(try clear hb2);(try clear hk);(try clear hi)))));go_meet
    case rel => exact ⟨_,(true),es_,H',⟨by first | omega | exact Nat.le_refl _⟩,⟨bk_ z1.out⟩,⟨hb_⟩⟩
  case rest =>
   clear HC3;obtain ⟨kq,r6,rfl,HA,HJ2,z1,HB⟩:=hcut
   cases kq with
   | zero => exact absurd HA.out (by simp [spec_GoodTrips.j0])
   | succ kj2 =>
    have H:=HA.out;clear HA;simp only [spec_GoodTrips.j0] at H;by_cases c11 : r6 = true
    ·subst c11
     rw [if_pos rfl] at H
     obtain rfl:=Option.some.inj H
     go_wp2;(repeat (go_quiet (fail);try go_wp2));go_ret;exact ⟨er_,hb_⟩
    ·replace c11:=Bool.eq_false_iff.mpr c11
     subst c11;rw [if_neg (show ¬ (false = true) by decide)] at H;have H':=Aside0.mk H;clear H;go_wp2;(repeat (go_quiet (fail);try go_wp2))
     go_loopg [18] kj2 (fun kq v18 w' => ∃ (z0 : Int),v18 = .int .i64 z0 ∧ Aside0 (spec_GoodTrips.l0 kq l1 l1 (l1.length : Int) z0 a0_0 z3 = some r) ∧ Aside0 (kq ≤ kj2) ∧ Aside0 (w'.heap[z4]? = some (.cells #[.int .i64 a0_0,(.slice j0 z3.length c0_1)] 39 (0,0))) ∧ Aside0 (Below w.heap.size w w'))
     case atStart => exact ⟨(0),es_,H',⟨Nat.le_refl _⟩,⟨bk_ z1.out⟩,⟨hb_⟩⟩
     case round =>
      clear H';obtain ⟨z0,rfl,HA,HK2,z1,HB⟩:=hrel
      cases gk with
      | zero => exact absurd HA.out (by simp [spec_GoodTrips.l0])
      | succ k2 =>
       have H:=HA.out;clear HA;simp only [spec_GoodTrips.l0] at H;by_cases c12 : z0 < (l1.length : Int)
       ·rw [if_pos c12] at H
        have zb7 : decide (z0 < (l1.length : Int)) = true:=decide_eq_true c12;clear c12;by_cases c13 : 0 ≤ z0
        ·rw [if_pos c13] at H
         have zf9 : decide (0 ≤ z0) = true:=decide_eq_true c13;clear c13;by_cases c14 : z0 < (l1.length : Int)
         ·rw [if_pos c14] at H
          have zg0 : decide (z0 < (l1.length : Int)) = true:=decide_eq_true c14;clear c14;have za4:=Aside0.mk H;clear H;have za5 : 0 ≤ (z0 : Int):=of_decide_eq_true as_;have za6 : z0 < (l1.length : Int):=of_decide_eq_true as_;obtain ⟨r3,e169,r7,r8⟩:=at_T49 HR1.out z0 za5 za6;cases e169;replace r7:=hc_ HB r7;replace r8:=hc_ HB r8;replace za5:=eq_true za5;replace za6:=eq_true za6
          go_upto_region 6 with (first | ((with_reducible refine gate_dst (N:=6) rfl ?_);(try (refine gate_guard (by rfl) ?_;dsimp only));refine box_event ?hg (N:=6) ?hd (cs:=#[.int .i64 0,.int .i64 0]) (t:=49) ?hr ?_;(case hd => rfl);(case hg => rfl);(case hr => first | (go_simp;done) | (go_simp;rfl));intro z5 hg w16 hbox hb;have z2:=ak (hbox);have za9 : Aside0 (w.heap.size ≤ z5):=gz_;have zb0 : Aside0 (w.heap.size ≤ z5):=gz_;have z6:=ak ((by rw [hg];exact Nat.ne_of_lt (blk_lt (g:=z4) (o:=.cells #[.int .i64 a0_0,.slice j0 z3.length c0_1] 39 (0,0)) (bk_ z1.out)) : z4 ≠ z5));have j1:=ak ((by rw [hg];exact Nat.ne_of_gt (blk_lt (g:=z4) (o:=.cells #[.int .i64 a0_0,.slice j0 z3.length c0_1] 39 (0,0)) (bk_ z1.out)) : z5 ≠ z4));replace z1:=bb_ z1 hb;replace HB:=ak (below_step hb_ hb);clear hb hbox hg;have zb1:=j1.out;have zb2:=z6.out;have r9:=b20 z2;have m0:=b21 z2;have m1:=blk_frozen z2.out 0;have m2:=blk_frozen z2.out 1))
          (repeat (go_quiet (first | ((with_reducible refine gate_dst (N:=6) rfl ?_);(try (refine gate_guard (by rfl) ?_;dsimp only));refine box_event ?hg (N:=6) ?hd (cs:=#[.int .i64 0,.int .i64 0]) (t:=49) ?hr ?_;(case hd => rfl);(case hg => rfl);(case hr => first | (go_simp;done) | (go_simp;rfl));intro z5 hg w16 hbox hb;have z2:=ak (hbox);have za9 : Aside0 (w.heap.size ≤ z5):=gz_;have zb0 : Aside0 (w.heap.size ≤ z5):=gz_;have z6:=ak ((by rw [hg];exact Nat.ne_of_lt (blk_lt (g:=z4) (o:=.cells #[.int .i64 a0_0,.slice j0 z3.length c0_1] 39 (0,0)) (bk_ z1.out)) : z4 ≠ z5));have j1:=ak ((by rw [hg];exact Nat.ne_of_gt (blk_lt (g:=z4) (o:=.cells #[.int .i64 a0_0,.slice j0 z3.length c0_1] 39 (0,0)) (bk_ z1.out)) : z5 ≠ z4));replace z1:=bb_ z1 hb;replace HB:=ak (below_step hb_ hb);clear hb hbox hg;have zb1:=j1.out;have zb2:=z6.out;have r9:=b20 z2;have m0:=b21 z2;have m1:=blk_frozen z2.out 0;have m2:=blk_frozen z2.out 1));go_upto_region 6 with (first | ((with_reducible refine gate_dst (N:=6) rfl ?_);(try (refine gate_guard (by rfl) ?_;dsimp only));refine box_event ?hg (N:=6) ?hd (cs:=#[.int .i64 0,.int .i64 0]) (t:=49) ?hr ?_;(case hd => rfl);(case hg => rfl);(case hr => first | (go_simp;done) | (go_simp;rfl));intro z5 hg w16 hbox hb;have z2:=ak (hbox);have za9 : Aside0 (w.heap.size ≤ z5):=gz_;have zb0 : Aside0 (w.heap.size ≤ z5):=gz_;have z6:=ak ((by rw [hg];exact Nat.ne_of_lt (blk_lt (g:=z4) (o:=.cells #[.int .i64 a0_0,.slice j0 z3.length c0_1] 39 (0,0)) (bk_ z1.out)) : z4 ≠ z5));have j1:=ak ((by rw [hg];exact Nat.ne_of_gt (blk_lt (g:=z4) (o:=.cells #[.int .i64 a0_0,.slice j0 z3.length c0_1] 39 (0,0)) (bk_ z1.out)) : z5 ≠ z4));replace z1:=bb_ z1 hb;replace HB:=ak (below_step hb_ hb);clear hb hbox hg;have zb1:=j1.out;have zb2:=z6.out;have r9:=b20 z2;have m0:=b21 z2;have m1:=blk_frozen z2.out 0;have m2:=blk_frozen z2.out 1))));(try simp only [Act.put,List.setIfInBounds_toArray,List.set_cons_zero,List.set_cons_succ])
          go_cut [34] (fun v34 wc => ∃ (kq : Nat) (r4 : Bool),v34 = .bool r4 ∧ Aside0 (spec_GoodTrips.j2 kq l1 z0 l1 (l1.length : Int) z0 r4 a0_0 z3 ((rd_T49 l1 z0).f0) ((rd_T49 l1 z0).f1) = some r) ∧ Aside0 (kq ≤ k2) ∧ Aside0 (wc.heap[z4]? = some (.cells #[.int .i64 a0_0,(.slice j0 z3.length c0_1)] 39 (0,0))) ∧ Aside0 (wc.heap[z5]? = some (.cells #[.int .i64 ((rd_T49 l1 z0).f0),.int .i64 ((rd_T49 l1 z0).f1)] 49 (0,0))) ∧ Aside0 (Below w.heap.size w wc))
          case first =>
           have H:=za4.out;clear za4;replace H:=Option.bind_eq_some_iff.mp H;obtain ⟨zb3,zb4,H⟩:=H;replace H : (if zb3 = true then ((spec_l12Free.f a0_0 z3 ((rd_T49 l1 z0).f1)).bind fun r0 => (spec_GoodTrips.j2 k2 l1 z0 l1 (l1.length : Int) z0 (!r0) a0_0 z3 ((rd_T49 l1 z0).f0) ((rd_T49 l1 z0).f1))) else (spec_GoodTrips.j2 k2 l1 z0 l1 (l1.length : Int) z0 true a0_0 z3 ((rd_T49 l1 z0).f0) ((rd_T49 l1 z0).f1))) = some r:=H;have A19:=Aside0.mk zb4;clear zb4;by_cases c20 : zb3 = true
           ·subst c20
            rw [if_pos rfl] at H;replace H:=Option.bind_eq_some_iff.mp H;obtain ⟨r0,zb5,H⟩:=H;replace H : (spec_GoodTrips.j2 k2 l1 z0 l1 (l1.length : Int) z0 (!r0) a0_0 z3 ((rd_T49 l1 z0).f0) ((rd_T49 l1 z0).f1)) = some r:=H;have A21:=Aside0.mk zb5;clear zb5;have H':=Aside0.mk H;clear H;have zg1:=z6.out;have zg2:=j1.out;have zc3:=b20 z1;have zc4:=b21 z1;have zc5:=blk_frozen z1.out 0;have zc6:=blk_frozen z1.out 1;have zc7:=b20 z2;have zc8:=b21 z2;have zc9:=blk_frozen z2.out 0;have zd0:=blk_frozen z2.out 1;go_wp2_with (first | (go_at_call 53;(with_reducible refine (spec_l12Free.calls a0_0 _ _ z3 ((rd_T49 l1 z0).f0) true _ ?z7 ?z8 A19.out).mono ?_);(case z7 => exact Kd.C_below j2.out hb_);(case z8 => exact j3.out);rintro e w25 ⟨rfl,hb⟩;replace z1:=ak (blk_below (g:=z4) (o:=.cells #[.int .i64 a0_0,.slice j0 z3.length c0_1] 39 (0,0)) (by (with_reducible repeat (first | refine blk_drewN ?_ _ | refine blk_drew ?_ | refine blk_alloc ?_ _));refine blk_far ?_ z6.out _;(with_reducible repeat (first | refine blk_drewN ?_ _ | refine blk_drew ?_ | refine blk_alloc ?_ _));refine blk_far ?_ z6.out _;exact bk_ z1.out) hb);replace z2:=ak (blk_below (g:=z5) (o:=.cells #[.int .i64 ((rd_T49 l1 z0).f0),.int .i64 ((rd_T49 l1 z0).f1)] 49 (0,0)) (by (with_reducible repeat (first | refine blk_drewN ?_ _ | refine blk_drew ?_ | refine blk_alloc ?_ _));refine blk_put (cs:=#[.int .i64 ((rd_T49 l1 z0).f0),.int .i64 0]) ?_ 1 _ rfl;(with_reducible repeat (first | refine blk_drewN ?_ _ | refine blk_drew ?_ | refine blk_alloc ?_ _));refine blk_put (cs:=#[.int .i64 0,.int .i64 0]) ?_ 0 _ rfl;exact bk_ z2.out) hb);replace HB:=ak (below_step hb_ hb);(try clear hb);(try clear hb2);(try clear hk);(try clear hi);have m3:=b20 z1;have m4:=b21 z1;have m5:=blk_frozen z1.out 0;have m6:=blk_frozen z1.out 1;have m7:=b20 z2;have m8:=b21 z2;have m9:=blk_frozen z2.out 0;have za0:=blk_frozen z2.out 1) | (go_at_call 53;(with_reducible refine (spec_l12Free.calls a0_0 _ _ z3 ((rd_T49 l1 z0).f1) r0 _ ?z7 ?z8 A21.out).mono ?_);(case z7 => exact cb_ j2.out);(case z8 => exact j3.out);rintro e w28 ⟨rfl,hb⟩;replace z1:=bb_ z1 hb;replace z2:=bb_ z2 hb;replace HB:=ak (below_step hb_ hb);(try clear hb);(try clear hb2);(try clear hk);(try clear hi)));(repeat (go_quiet (first | (go_at_call 53;(with_reducible refine (spec_l12Free.calls a0_0 _ _ z3 ((rd_T49 l1 z0).f0) true _ ?z7 ?z8 A19.out).mono ?_);(case z7 => exact Kd.C_below j2.out hb_);(case z8 => exact j3.out);rintro e w25 ⟨rfl,hb⟩;replace z1:=ak (blk_below (g:=z4) (o:=.cells #[.int .i64 a0_0,.slice j0 z3.length c0_1] 39 (0,0)) (by (with_reducible repeat (first | refine blk_drewN ?_ _ | refine blk_drew ?_ | refine blk_alloc ?_ _));refine blk_far ?_ z6.out _;(with_reducible repeat (first | refine blk_drewN ?_ _ | refine blk_drew ?_ | refine blk_alloc ?_ _));refine blk_far ?_ z6.out _;exact bk_ z1.out) hb);replace z2:=ak (blk_below (g:=z5) (o:=.cells #[.int .i64 ((rd_T49 l1 z0).f0),.int .i64 ((rd_T49 l1 z0).f1)] 49 (0,0)) (by (with_reducible repeat (first | refine blk_drewN ?_ _ | refine blk_drew ?_ | refine blk_alloc ?_ _));refine blk_put (cs:=#[.int .i64 ((rd_T49 l1 z0).f0),.int .i64 0]) ?_ 1 _ rfl;(with_reducible repeat (first | refine blk_drewN ?_ _ | refine blk_drew ?_ | refine blk_alloc ?_ _));refine blk_put (cs:=#[.int .i64 0,.int .i64 0]) ?_ 0 _ rfl;exact bk_ z2.out) hb);replace HB:=ak (below_step hb_ hb);(try clear hb);(try clear hb2);(try clear hk);(try clear hi);have m3:=b20 z1;have m4:=b21 z1;have m5:=blk_frozen z1.out 0;have m6:=blk_frozen z1.out 1;have m7:=b20 z2;have m8:=b21 z2;have m9:=blk_frozen z2.out 0;have za0:=blk_frozen z2.out 1) | (go_at_call 53;(with_reducible refine (spec_l12Free.calls a0_0 _ _ z3 ((rd_T49 l1 z0).f1) r0 _ ?z7 ?z8 A21.out).mono ?_);(case z7 => exact cb_ j2.out);(case z8 => exact j3.out);rintro e w28 ⟨rfl,hb⟩;replace z1:=bb_ z1 hb;replace z2:=bb_ z2 hb;replace HB:=ak (below_step hb_ hb);(try clear hb);(try clear hb2);(try clear hk);(try clear hi)));try go_wp2_with (first | (go_at_call 53;(with_reducible refine (spec_l12Free.calls a0_0 _ _ z3 ((rd_T49 l1 z0).f0) true _ ?z7 ?z8 A19.out).mono ?_);(case z7 => exact Kd.C_below j2.out hb_);(case z8 => exact j3.out);rintro e w25 ⟨rfl,hb⟩;replace z1:=ak (blk_below (g:=z4) (o:=.cells #[.int .i64 a0_0,.slice j0 z3.length c0_1] 39 (0,0)) (by (with_reducible repeat (first | refine blk_drewN ?_ _ | refine blk_drew ?_ | refine blk_alloc ?_ _));refine blk_far ?_ z6.out _;(with_reducible repeat (first | refine blk_drewN ?_ _ | refine blk_drew ?_ | refine blk_alloc ?_ _));refine blk_far ?_ z6.out _;exact bk_ z1.out) hb);replace z2:=ak (blk_below (g:=z5) (o:=.cells #[.int .i64 ((rd_T49 l1 z0).f0),.int .i64 ((rd_T49 l1 z0).f1)] 49 (0,0)) (by (with_reducible repeat (first | refine blk_drewN ?_ _ | refine blk_drew ?_ | refine blk_alloc ?_ _));refine blk_put (cs:=#[.int .i64 ((rd_T49 l1 z0).f0),.int .i64 0]) ?_ 1 _ rfl;(with_reducible repeat (first | refine blk_drewN ?_ _ | refine blk_drew ?_ | refine blk_alloc ?_ _));refine blk_put (cs:=#[.int .i64 0,.int .i64 0]) ?_ 0 _ rfl;exact bk_ z2.out) hb);replace HB:=ak (below_step hb_ hb);(try clear hb);(try clear hb2);(try clear hk);(try clear hi);have m3:=b20 z1;have m4:=b21 z1;have m5:=blk_frozen z1.out 0;have m6:=blk_frozen z1.out 1;have m7:=b20 z2;have m8:=b21 z2;have m9:=blk_frozen z2.out 0;have za0:=blk_frozen z2.out 1) | (go_at_call 53;(with_reducible refine (spec_l12Free.calls a0_0 _ _ z3 ((rd_T49 l1 z0).f1) r0 _ ?z7 ?z8 A21.out).mono ?_);(case z7 => exact cb_ j2.out);(case z8 => exact j3.out);rintro e w28 ⟨rfl,hb⟩;replace z1:=bb_ z1 hb;replace z2:=bb_ z2 hb;replace HB:=ak (below_step hb_ hb);(try clear hb);(try clear hb2);(try clear hk);(try clear hi)))))
            go_meet
            case rel => exact ⟨_,(!r0),es_,H',⟨by have:=HJ2.out;have:=HK2.out;first | omega | exact Nat.le_refl _⟩,⟨bk_ z1.out⟩,⟨bk_ z2.out⟩,⟨hb_⟩⟩
           ·replace c20:=Bool.eq_false_iff.mpr c20
            subst c20;rw [if_neg (show ¬ (false = true) by decide)] at H;have H':=Aside0.mk H;clear H;have zg3:=z6.out;have zg4:=j1.out;have zd1:=b20 z1;have zd2:=b21 z1;have zd3:=blk_frozen z1.out 0;have zd4:=blk_frozen z1.out 1;have zd5:=b20 z2;have zd6:=b21 z2;have zd7:=blk_frozen z2.out 0;have zd8:=blk_frozen z2.out 1;go_wp2_with (first | (go_at_call 53;(with_reducible refine (spec_l12Free.calls a0_0 _ _ z3 ((rd_T49 l1 z0).f0) false _ ?z7 ?z8 A19.out).mono ?_);(case z7 => exact Kd.C_below j2.out hb_);(case z8 => exact j3.out);rintro e w32 ⟨rfl,hb⟩;replace z1:=ak (blk_below (g:=z4) (o:=.cells #[.int .i64 a0_0,.slice j0 z3.length c0_1] 39 (0,0)) (by (with_reducible repeat (first | refine blk_drewN ?_ _ | refine blk_drew ?_ | refine blk_alloc ?_ _));refine blk_far ?_ z6.out _;(with_reducible repeat (first | refine blk_drewN ?_ _ | refine blk_drew ?_ | refine blk_alloc ?_ _));refine blk_far ?_ z6.out _;exact bk_ z1.out) hb);replace z2:=ak (blk_below (g:=z5) (o:=.cells #[.int .i64 ((rd_T49 l1 z0).f0),.int .i64 ((rd_T49 l1 z0).f1)] 49 (0,0)) (by (with_reducible repeat (first | refine blk_drewN ?_ _ | refine blk_drew ?_ | refine blk_alloc ?_ _));refine blk_put (cs:=#[.int .i64 ((rd_T49 l1 z0).f0),.int .i64 0]) ?_ 1 _ rfl;(with_reducible repeat (first | refine blk_drewN ?_ _ | refine blk_drew ?_ | refine blk_alloc ?_ _));refine blk_put (cs:=#[.int .i64 0,.int .i64 0]) ?_ 0 _ rfl;exact bk_ z2.out) hb);replace HB:=ak (below_step hb_ hb);(try clear hb);(try clear hb2);(try clear hk);(try clear hi)));(repeat (go_quiet (first | (go_at_call 53;(with_reducible refine (spec_l12Free.calls a0_0 _ _ z3 ((rd_T49 l1 z0).f0) false _ ?z7 ?z8 A19.out).mono ?_);(case z7 => exact Kd.C_below j2.out hb_);(case z8 => exact j3.out);rintro e w32 ⟨rfl,hb⟩;replace z1:=ak (blk_below (g:=z4) (o:=.cells #[.int .i64 a0_0,.slice j0 z3.length c0_1] 39 (0,0)) (by (with_reducible repeat (first | refine blk_drewN ?_ _ | refine blk_drew ?_ | refine blk_alloc ?_ _));refine blk_far ?_ z6.out _;(with_reducible repeat (first | refine blk_drewN ?_ _ | refine blk_drew ?_ | refine blk_alloc ?_ _));refine blk_far ?_ z6.out _;exact bk_ z1.out) hb);replace z2:=ak (blk_below (g:=z5) (o:=.cells #[.int .i64 ((rd_T49 l1 z0).f0),.int .i64 ((rd_T49 l1 z0).f1)] 49 (0,0)) (by (with_reducible repeat (first | refine blk_drewN ?_ _ | refine blk_drew ?_ | refine blk_alloc ?_ _));refine blk_put (cs:=#[.int .i64 ((rd_T49 l1 z0).f0),.int .i64 0]) ?_ 1 _ rfl;(with_reducible repeat (first | refine blk_drewN ?_ _ | refine blk_drew ?_ | refine blk_alloc ?_ _));refine blk_put (cs:=#[.int .i64 0,.int .i64 0]) ?_ 0 _ rfl;exact bk_ z2.out) hb);replace HB:=ak (below_step hb_ hb);(try clear hb);(try clear hb2);(try clear hk);(try clear hi)));try go_wp2_with (first | (go_at_call 53;(with_reducible refine (spec_l12Free.calls a0_0 _ _ z3 ((rd_T49 l1 z0).f0) false _ ?z7 ?z8 A19.out).mono ?_);(case z7 => exact Kd.C_below j2.out hb_);(case z8 => exact j3.out);rintro e w32 ⟨rfl,hb⟩;replace z1:=ak (blk_below (g:=z4) (o:=.cells #[.int .i64 a0_0,.slice j0 z3.length c0_1] 39 (0,0)) (by (with_reducible repeat (first | refine blk_drewN ?_ _ | refine blk_drew ?_ | refine blk_alloc ?_ _));refine blk_far ?_ z6.out _;(with_reducible repeat (first | refine blk_drewN ?_ _ | refine blk_drew ?_ | refine blk_alloc ?_ _));refine blk_far ?_ z6.out _;exact bk_ z1.out) hb);replace z2:=ak (blk_below (g:=z5) (o:=.cells #[.int .i64 ((rd_T49 l1 z0).f0),.int .i64 ((rd_T49 l1 z0).f1)] 49 (0,0)) (by (with_reducible repeat (first | refine blk_drewN ?_ _ | refine blk_drew ?_ | refine blk_alloc ?_ _));refine blk_put (cs:=#[.int .i64 ((rd_T49 l1 z0).f0),.int .i64 0]) ?_ 1 _ rfl;(with_reducible repeat (first | refine blk_drewN ?_ _ | refine blk_drew ?_ | refine blk_alloc ?_ _));refine blk_put (cs:=#[.int .i64 0,.int .i64 0]) ?_ 0 _ rfl;exact bk_ z2.out) hb);replace HB:=ak (below_step hb_ hb);(try clear hb);(try clear hb2);(try clear hk);(try clear hi)))))
            go_meet
            case rel => exact ⟨_,(true),es_,H',⟨by have:=HJ2.out;have:=HK2.out;first | omega | exact Nat.le_refl _⟩,⟨bk_ z1.out⟩,⟨bk_ z2.out⟩,⟨hb_⟩⟩
          case rest =>
           clear za4;obtain ⟨kq,r4,rfl,HA,za2,z1,z2,HB⟩:=hcut
           cases kq with
           | zero => exact absurd HA.out (by simp [spec_GoodTrips.j2])
           | succ zb6 =>
            have H:=HA.out;clear HA;simp only [spec_GoodTrips.j2] at H;by_cases c33 : r4 = true
            ·subst c33
             rw [if_pos rfl] at H
             obtain rfl:=Option.some.inj H
             go_wp2;(repeat (go_quiet (fail);try go_wp2));go_ret;exact ⟨er_,hb_⟩
            ·replace c33:=Bool.eq_false_iff.mpr c33
             subst c33;rw [if_neg (show ¬ (false = true) by decide)] at H;have H':=Aside0.mk H;clear H;go_wp2;(repeat (go_quiet (fail);try go_wp2))
             go_loopg [7] zb6 (fun kq v7 w' => ∃ (z9 : Int),v7 = .int .i64 z9 ∧ Aside0 (spec_GoodTrips.l1 kq l1 z0 z9 l1 (l1.length : Int) z0 a0_0 z3 ((rd_T49 l1 z0).f0) ((rd_T49 l1 z0).f1) = some r) ∧ Aside0 (kq ≤ zb6) ∧ Aside0 (w'.heap[z4]? = some (.cells #[.int .i64 a0_0,(.slice j0 z3.length c0_1)] 39 (0,0))) ∧ Aside0 (w'.heap[z5]? = some (.cells #[.int .i64 ((rd_T49 l1 z0).f0),.int .i64 ((rd_T49 l1 z0).f1)] 49 (0,0))) ∧ Aside0 (Below w.heap.size w w'))
             case atStart => exact ⟨(0),es_,H',⟨Nat.le_refl _⟩,⟨bk_ z1.out⟩,⟨bk_ z2.out⟩,⟨hb_⟩⟩
             case round =>
              clear H';obtain ⟨z9,rfl,HA,HK4,z1,z2,HB⟩:=hrel
              cases gk with
              | zero => exact absurd HA.out (by simp [spec_GoodTrips.l1])
              | succ k4 =>
               have H:=HA.out;clear HA;simp only [spec_GoodTrips.l1] at H;by_cases c34 : z9 < z0
               ·rw [if_pos c34] at H
                have zb8 : decide (z9 < z0) = true:=decide_eq_true c34;clear c34;by_cases c35 : 0 ≤ z9
                ·rw [if_pos c35] at H
                 have zg5 : decide (0 ≤ z9) = true:=decide_eq_true c35;clear c35;by_cases c36 : z9 < (l1.length : Int)
                 ·rw [if_pos c36] at H
                  have zg6 : decide (z9 < (l1.length : Int)) = true:=decide_eq_true c36;clear c36;by_cases c37 : ((rd_T49 l1 z9).f0) = ((rd_T49 l1 z0).f0)
                  ·rw [if_pos c37] at H
                   have zb9 : (((rd_T49 l1 z9).f0) == ((rd_T49 l1 z0).f0)) = true:=beq_iff_eq.mpr c37;have zc0 : (((rd_T49 l1 z9).f0) != ((rd_T49 l1 z0).f0)) = false:=bne_eq_false_iff_eq.mpr c37;clear c37
                   obtain rfl:=Option.some.inj H
                   have j6 : 0 ≤ (z9 : Int):=of_decide_eq_true as_;have j7 : z9 < (l1.length : Int):=of_decide_eq_true as_;obtain ⟨r5,e173,j4,j5⟩:=at_T49 HR1.out z9 j6 j7
                   obtain rfl : r3 = r5:=(by injection e173)
                   replace j4:=hc_ HB j4;replace j5:=hc_ HB j5;replace j6:=eq_true j6;replace j7:=eq_true j7;have zg7:=j1.out;have zg8:=z6.out;have zd9:=b20 z2;have ze0:=b21 z2;have ze1:=blk_frozen z2.out 0;have ze2:=blk_frozen z2.out 1;go_wp2;(repeat (go_quiet (fail);try go_wp2));go_ret;exact ⟨er_,hb_⟩
                  ·rw [if_neg c37] at H
                   have zb9 : (((rd_T49 l1 z9).f0) == ((rd_T49 l1 z0).f0)) = false:=beq_eq_false_iff_ne.mpr c37;have zc0 : (((rd_T49 l1 z9).f0) != ((rd_T49 l1 z0).f0)) = true:=bne_iff_ne.mpr c37;by_cases c40 : ((rd_T49 l1 z9).f1) = ((rd_T49 l1 z0).f1)
                   ·rw [if_pos c40] at H
                    have zc1 : (((rd_T49 l1 z9).f1) == ((rd_T49 l1 z0).f1)) = true:=beq_iff_eq.mpr c40;have zc2 : (((rd_T49 l1 z9).f1) != ((rd_T49 l1 z0).f1)) = false:=bne_eq_false_iff_eq.mpr c40;clear c40
                    obtain rfl:=Option.some.inj H
                    have j6 : 0 ≤ (z9 : Int):=of_decide_eq_true as_;have j7 : z9 < (l1.length : Int):=of_decide_eq_true as_;obtain ⟨r5,e173,j4,j5⟩:=at_T49 HR1.out z9 j6 j7
                    obtain rfl : r3 = r5:=(by injection e173)
                    replace j4:=hc_ HB j4;replace j5:=hc_ HB j5;replace j6:=eq_true j6;replace j7:=eq_true j7;have zg9:=j1.out;have zh0:=z6.out;have ze3:=b20 z2;have ze4:=b21 z2;have ze5:=blk_frozen z2.out 0;have ze6:=blk_frozen z2.out 1;have r1 : 0 ≤ (z9 : Int):=of_decide_eq_true as_;have r2 : z9 < (l1.length : Int):=of_decide_eq_true as_;obtain ⟨za3,e174,j8,j9⟩:=at_T49 HR1.out z9 r1 r2
                    obtain rfl : r3 = za3:=(by injection e174)
                    replace j8:=hc_ HB j8;replace j9:=hc_ HB j9;replace r1:=eq_true r1;replace r2:=eq_true r2;go_wp2;(repeat (go_quiet (fail);try go_wp2));go_ret;exact ⟨er_,hb_⟩
                   ·rw [if_neg c40] at H
                    have zc1 : (((rd_T49 l1 z9).f1) == ((rd_T49 l1 z0).f1)) = false:=beq_eq_false_iff_ne.mpr c40;have zc2 : (((rd_T49 l1 z9).f1) != ((rd_T49 l1 z0).f1)) = true:=bne_iff_ne.mpr c40;have H':=Aside0.mk H;clear H;have j6 : 0 ≤ (z9 : Int):=of_decide_eq_true as_;have j7 : z9 < (l1.length : Int):=of_decide_eq_true as_;obtain ⟨r5,e173,j4,j5⟩:=at_T49 HR1.out z9 j6 j7
                    obtain rfl : r3 = r5:=(by injection e173)
                    replace j4:=hc_ HB j4;replace j5:=hc_ HB j5;replace j6:=eq_true j6;replace j7:=eq_true j7;have zh1:=j1.out;have zh2:=z6.out;have ze7:=b20 z2;have ze8:=b21 z2;have ze9:=blk_frozen z2.out 0;have zf0:=blk_frozen z2.out 1;have r1 : 0 ≤ (z9 : Int):=of_decide_eq_true as_;have r2 : z9 < (l1.length : Int):=of_decide_eq_true as_;obtain ⟨za3,e174,j8,j9⟩:=at_T49 HR1.out z9 r1 r2
                    obtain rfl : r3 = za3:=(by injection e174)
                    replace j8:=hc_ HB j8;replace j9:=hc_ HB j9;replace r1:=eq_true r1;replace r2:=eq_true r2;go_wp2;(repeat (go_quiet (fail);try go_wp2));go_roundg k4
                    case measure => have:=HJ2.out;have:=HK2.out;have:=za2.out;have:=HK4.out;omega
                    case rel => exact ⟨(wrap64 (z9 + 1)),es_,H',⟨by have:=HJ2.out;have:=HK2.out;have:=za2.out;have:=HK4.out;omega⟩,⟨bk_ z1.out⟩,⟨bk_ z2.out⟩,⟨hb_⟩⟩
                 ·rw [if_neg c36] at H
                  exact absurd H (by simp)
                ·rw [if_neg c35] at H
                 exact absurd H (by simp)
               ·rw [if_neg c34] at H
                have zb8 : decide (z9 < z0) = false:=decide_eq_false c34;clear c34;have H':=Aside0.mk H;clear H;go_wp2;(repeat (go_quiet (fail);try go_wp2));go_roundg k4
                case measure => have:=HJ2.out;have:=HK2.out;have:=za2.out;have:=HK4.out;omega
                case rel => exact ⟨(wrap64 (z0 + 1)),es_,H',⟨by have:=HJ2.out;have:=HK2.out;have:=za2.out;have:=HK4.out;omega⟩,⟨bk_ z1.out⟩,⟨hb_⟩⟩
         ·rw [if_neg c14] at H
          exact absurd H (by simp)
        ·rw [if_neg c13] at H
         exact absurd H (by simp)
       ·rw [if_neg c12] at H
        have zb7 : decide (z0 < (l1.length : Int)) = false:=decide_eq_false c12;clear c12
        obtain rfl:=Option.some.inj H
        go_wp2;(repeat (go_quiet (fail);try go_wp2));go_ret;exact ⟨er_,hb_⟩

end Go.Proofs.Ytcldlljnaijmhaa.Pr
namespace Go.Proofs.Ytcldlljnaijmhaa.Pr
open Go.RowKit Go.Proofs.YtcldlljnaijmhaaW.PrintWords Go.Proofs.YtcldlljnaijmhaaW.PrintLast Go.Proofs.YtcldlljnaijmhaaW.PrintMore
attribute [local go_sem] max2_int min2_int max_two min_two max_three min_three max_four min_four
set_option linter.unusedVariables false
set_option linter.unusedSimpArgs false

set_option maxHeartbeats 8000000 in
set_option maxRecDepth 100000 in
theorem spec_l12Has.calls (a0 : Int) (a1 : Int) (a2 : Int) (a3 : Int) (r : Bool) (w : World) (h : spec_l12Has.f a0 a1 a2 a3 = some r) :
   Calls Try.prog 76 #[.int .i64 a0,.int .i64 a1,.int .i64 a2,.int .i64 a3] w fun e w' => e = .returned (.bool r) ∧ Drawn0 w w':=by
  have H : (if a2 ≥ 0 then (if a2 < a0 then (if a3 ≥ 0 then (if a0 = 0 then (none) else (some (decide (a3 < (wrap64 (Int.tdiv a1 a0)))))) else (some false)) else (some false)) else (some false)) = some r:=h;clear h;by_cases c5 : a2 ≥ 0
  ·rw [if_pos c5] at H
   have z0 : decide (0 ≤ a2) = true:=decide_eq_true c5;clear c5;by_cases c6 : a2 < a0
   ·rw [if_pos c6] at H
    have z1 : decide (a2 < a0) = true:=decide_eq_true c6;clear c6;by_cases c7 : a3 ≥ 0
    ·rw [if_pos c7] at H
     have z2 : decide (0 ≤ a3) = true:=decide_eq_true c7;clear c7;by_cases c8 : a0 = 0
     ·rw [if_pos c8] at H
      exact absurd H (by simp)
     ·rw [if_neg c8] at H
      have z3 : (a0 == 0) = false:=beq_eq_false_iff_ne.mpr c8;have z4 : (a0 != 0) = true:=bne_iff_ne.mpr c8
      obtain rfl:=Option.some.inj H
      go_enter Try.func76,Try.ntmps76;go_wp2;go_ret;exact ⟨es_,by repeat (first | exact Drawn0.refl _ | apply Drawn0.step)⟩
    ·rw [if_neg c7] at H
     have z2 : decide (0 ≤ a3) = false:=decide_eq_false c7;clear c7
     obtain rfl:=Option.some.inj H
     go_enter Try.func76,Try.ntmps76;go_wp2;go_ret;exact ⟨es_,by repeat (first | exact Drawn0.refl _ | apply Drawn0.step)⟩
   ·rw [if_neg c6] at H
    have z1 : decide (a2 < a0) = false:=decide_eq_false c6;clear c6
    obtain rfl:=Option.some.inj H
    go_enter Try.func76,Try.ntmps76;go_wp2;go_ret;exact ⟨es_,by repeat (first | exact Drawn0.refl _ | apply Drawn0.step)⟩
  ·rw [if_neg c5] at H
   have z0 : decide (0 ≤ a2) = false:=decide_eq_false c5;clear c5
   obtain rfl:=Option.some.inj H
   go_enter Try.func76,Try.ntmps76;go_wp2;go_ret;exact ⟨es_,by repeat (first | exact Drawn0.refl _ | apply Drawn0.step)⟩

set_option maxHeartbeats 8000000 in
set_option maxRecDepth 100000 in
theorem spec_l12Next.calls (a0_0 : Int) (z3 : Option Addr) (c0_1 : Nat) (z0 : List Int) (a1 : Int) (a2 : Int) (r : Int) (w : World) (hr0_1 : Kd.C (Kd.int .i64) w z3 z0.length z0) (hc0_1 : z0.length ≤ c0_1) (h : spec_l12Next.f a0_0 z0 a1 a2 = some r) :
   Calls Try.prog 69 #[.agg #[.int .i64 a0_0,.slice z3 z0.length c0_1],.int .i64 a1,.int .i64 a2] w fun e w' => e = .returned (.int .i64 r) ∧ Below w.heap.size w w':=by
  have zg0:=Try.underlying39;have z6:=Aside0.mk hr0_1;have zf2:=Aside0.mk hc0_1;clear hr0_1 hc0_1;have HB:=ak (Below.refl w.heap.size w);have H : (if a0_0 = 0 then (none) else (if a2 = 0 then ((spec_l12Has.f a0_0 (z0.length : Int) (wrap64 ((Int.tmod a1 a0_0) + 1)) (wrap64 (Int.tdiv a1 a0_0))).bind fun j9 => (if j9 = true then (if 0 ≤ (wrap64 ((wrap64 ((wrap64 (Int.tdiv a1 a0_0)) * a0_0)) + (wrap64 ((Int.tmod a1 a0_0) + 1)))) then (if (wrap64 ((wrap64 ((wrap64 (Int.tdiv a1 a0_0)) * a0_0)) + (wrap64 ((Int.tmod a1 a0_0) + 1)))) < (z0.length : Int) then (if (rd z0 (wrap64 ((wrap64 ((wrap64 (Int.tdiv a1 a0_0)) * a0_0)) + (wrap64 ((Int.tmod a1 a0_0) + 1))))) = 0 then (some (wrap64 ((wrap64 ((wrap64 (Int.tdiv a1 a0_0)) * a0_0)) + (wrap64 ((Int.tmod a1 a0_0) + 1))))) else (some (-1))) else (none)) else (none)) else (some (-1)))) else (if a2 = 1 then ((spec_l12Has.f a0_0 (z0.length : Int) (Int.tmod a1 a0_0) (wrap64 ((wrap64 (Int.tdiv a1 a0_0)) + 1))).bind fun r0 => (if r0 = true then (if 0 ≤ (wrap64 ((wrap64 ((wrap64 ((wrap64 (Int.tdiv a1 a0_0)) + 1)) * a0_0)) + (Int.tmod a1 a0_0))) then (if (wrap64 ((wrap64 ((wrap64 ((wrap64 (Int.tdiv a1 a0_0)) + 1)) * a0_0)) + (Int.tmod a1 a0_0))) < (z0.length : Int) then (if (rd z0 (wrap64 ((wrap64 ((wrap64 ((wrap64 (Int.tdiv a1 a0_0)) + 1)) * a0_0)) + (Int.tmod a1 a0_0)))) = 0 then (some (wrap64 ((wrap64 ((wrap64 ((wrap64 (Int.tdiv a1 a0_0)) + 1)) * a0_0)) + (Int.tmod a1 a0_0)))) else (some (-1))) else (none)) else (none)) else (some (-1)))) else (if a2 = 2 then ((spec_l12Has.f a0_0 (z0.length : Int) (wrap64 ((Int.tmod a1 a0_0) - 1)) (wrap64 (Int.tdiv a1 a0_0))).bind fun r1 => (if r1 = true then (if 0 ≤ (wrap64 ((wrap64 ((wrap64 (Int.tdiv a1 a0_0)) * a0_0)) + (wrap64 ((Int.tmod a1 a0_0) - 1)))) then (if (wrap64 ((wrap64 ((wrap64 (Int.tdiv a1 a0_0)) * a0_0)) + (wrap64 ((Int.tmod a1 a0_0) - 1)))) < (z0.length : Int) then (if (rd z0 (wrap64 ((wrap64 ((wrap64 (Int.tdiv a1 a0_0)) * a0_0)) + (wrap64 ((Int.tmod a1 a0_0) - 1))))) = 0 then (some (wrap64 ((wrap64 ((wrap64 (Int.tdiv a1 a0_0)) * a0_0)) + (wrap64 ((Int.tmod a1 a0_0) - 1))))) else (some (-1))) else (none)) else (none)) else (some (-1)))) else ((spec_l12Has.f a0_0 (z0.length : Int) (Int.tmod a1 a0_0) (wrap64 ((wrap64 (Int.tdiv a1 a0_0)) - 1))).bind fun r2 => (if r2 = true then (if 0 ≤ (wrap64 ((wrap64 ((wrap64 ((wrap64 (Int.tdiv a1 a0_0)) - 1)) * a0_0)) + (Int.tmod a1 a0_0))) then (if (wrap64 ((wrap64 ((wrap64 ((wrap64 (Int.tdiv a1 a0_0)) - 1)) * a0_0)) + (Int.tmod a1 a0_0))) < (z0.length : Int) then (if (rd z0 (wrap64 ((wrap64 ((wrap64 ((wrap64 (Int.tdiv a1 a0_0)) - 1)) * a0_0)) + (Int.tmod a1 a0_0)))) = 0 then (some (wrap64 ((wrap64 ((wrap64 ((wrap64 (Int.tdiv a1 a0_0)) - 1)) * a0_0)) + (Int.tmod a1 a0_0)))) else (some (-1))) else (none)) else (none)) else (some (-1)))))))) = some r:=h;clear h;by_cases c4 : a0_0 = 0
  ·rw [if_pos c4] at H
   exact absurd H (by simp)
  ·rw [if_neg c4] at H
   have zg1 : (a0_0 == 0) = false:=beq_eq_false_iff_ne.mpr c4;have zg2 : (a0_0 != 0) = true:=bne_iff_ne.mpr c4;by_cases c5 : a2 = 0
   ·rw [if_pos c5] at H
    have za2 : (a2 == 0) = true:=beq_iff_eq.mpr c5;have za3 : (a2 != 0) = false:=bne_eq_false_iff_eq.mpr c5;clear c5;replace H:=Option.bind_eq_some_iff.mp H;obtain ⟨j9,A60,H⟩:=H;replace H : (if j9 = true then (if 0 ≤ (wrap64 ((wrap64 ((wrap64 (Int.tdiv a1 a0_0)) * a0_0)) + (wrap64 ((Int.tmod a1 a0_0) + 1)))) then (if (wrap64 ((wrap64 ((wrap64 (Int.tdiv a1 a0_0)) * a0_0)) + (wrap64 ((Int.tmod a1 a0_0) + 1)))) < (z0.length : Int) then (if (rd z0 (wrap64 ((wrap64 ((wrap64 (Int.tdiv a1 a0_0)) * a0_0)) + (wrap64 ((Int.tmod a1 a0_0) + 1))))) = 0 then (some (wrap64 ((wrap64 ((wrap64 (Int.tdiv a1 a0_0)) * a0_0)) + (wrap64 ((Int.tmod a1 a0_0) + 1))))) else (some (-1))) else (none)) else (none)) else (some (-1))) = some r:=H;have A6:=Aside0.mk A60;clear A60;by_cases c7 : j9 = true
    ·subst c7
     rw [if_pos rfl] at H;obtain ⟨ji8,hji8⟩ : ∃ j_ : Int,(wrap64 ((wrap64 ((wrap64 (Int.tdiv a1 a0_0)) * a0_0)) + (wrap64 ((Int.tmod a1 a0_0) + 1)))) = j_:=⟨_,rfl⟩;(replace H : (if 0 ≤ (ji8) then (if (ji8) < (z0.length : Int) then (if (rd z0 (ji8)) = 0 then (some ji8) else (some (-1))) else (none)) else (none)) = some r:=by first | (rw [hji8] at H;exact H) | (simp only [hji8] at H ⊢;exact H));(try rw [hji8] at A6);have hji8w : (IntKind.i64.wrap ((wrap64 ((wrap64 (Int.tdiv a1 a0_0)) * a0_0)) + (wrap64 ((Int.tmod a1 a0_0) + 1)))) = ji8:=(i64_w _).trans hji8;by_cases c9 : 0 ≤ (ji8)
     ·rw [if_pos c9] at H
      have zg3 : decide (0 ≤ (ji8)) = true:=decide_eq_true c9;clear c9;by_cases c10 : (ji8) < (z0.length : Int)
      ·rw [if_pos c10] at H
       have zf3 : decide ((ji8) < (z0.length : Int)) = true:=decide_eq_true c10;clear c10;by_cases c11 : (rd z0 (ji8)) = 0
       ·rw [if_pos c11] at H
        have r6 : ((rd z0 (ji8)) == 0) = true:=beq_iff_eq.mpr c11;have r7 : ((rd z0 (ji8)) != 0) = false:=bne_eq_false_iff_eq.mpr c11;clear c11
        obtain rfl:=Option.some.inj H
        go_enter Try.func69,Try.ntmps69;go_wp2_with (first | ((with_reducible refine gate_dst (N:=3) rfl ?_);refine box_event ?hg (N:=3) ?hd (cs:=#[.int .i64 a0_0,.slice z3 z0.length c0_1]) (t:=39) ?hr ?_;(case hd => rfl);(case hg => rfl);(case hr => first | (go_simp;done) | (go_simp;rfl));intro z1 hg w12 hbox hb;have z2:=ak (hbox);have z4 : Aside0 (w.heap.size ≤ z1):=gz_;have z5 : Aside0 (w.heap.size ≤ z1):=gz_;replace HB:=ak (below_step hb_ hb);clear hb hbox hg;have za4:=b20 z2;have za5:=b21 z2;have za6:=blk_frozen z2.out 0;have za7:=blk_frozen z2.out 1) | ((with_reducible refine gate_callee (f:=76) rfl ?_);refine goesL_ (some 39) rfl rfl Try.func76 (by kernel_rfl) rfl #[.int .i64 a0_0,.int .i64 (z0.length : Int),.int .i64 (wrap64 ((Int.tmod a1 a0_0) + 1)),.int .i64 (wrap64 (Int.tdiv a1 a0_0))] rfl ls_ ?_;(with_reducible refine (spec_l12Has.calls a0_0 (z0.length : Int) (wrap64 ((Int.tmod a1 a0_0) + 1)) (wrap64 (Int.tdiv a1 a0_0)) true _ A6.out).mono ?_);rintro e w' ⟨rfl,⟨nd,rfl⟩⟩;refine ⟨_,rfl,?_⟩;have j1 : 0 ≤ ((ji8) : Int):=of_decide_eq_true as_;have j2 : (ji8) < (z0.length : Int):=of_decide_eq_true as_;obtain ⟨r8,e177,z7⟩:=Kd.at_int z6.out (ji8) j1 j2;cases e177;replace z7:=hc_ HB z7;replace j1:=eq_true j1;replace j2:=eq_true j2));go_ret;exact ⟨by first | rfl | (simp [errW_none,errW_some] <;> rfl) | (simp only [← hji8];first | rfl | (simp [errW_none,errW_some] <;> rfl)) | (simp [*,errW_none,errW_some] <;> rfl),hb_⟩
       ·rw [if_neg c11] at H
        have r6 : ((rd z0 (ji8)) == 0) = false:=beq_eq_false_iff_ne.mpr c11;have r7 : ((rd z0 (ji8)) != 0) = true:=bne_iff_ne.mpr c11
        obtain rfl:=Option.some.inj H
        go_enter Try.func69,Try.ntmps69;go_wp2_with (first | ((with_reducible refine gate_dst (N:=3) rfl ?_);refine box_event ?hg (N:=3) ?hd (cs:=#[.int .i64 a0_0,.slice z3 z0.length c0_1]) (t:=39) ?hr ?_;(case hd => rfl);(case hg => rfl);(case hr => first | (go_simp;done) | (go_simp;rfl));intro z1 hg w14 hbox hb;have z2:=ak (hbox);have z4 : Aside0 (w.heap.size ≤ z1):=gz_;have z5 : Aside0 (w.heap.size ≤ z1):=gz_;replace HB:=ak (below_step hb_ hb);clear hb hbox hg;have za8:=b20 z2;have za9:=b21 z2;have zb0:=blk_frozen z2.out 0;have zb1:=blk_frozen z2.out 1) | ((with_reducible refine gate_callee (f:=76) rfl ?_);refine goesL_ (some 39) rfl rfl Try.func76 (by kernel_rfl) rfl #[.int .i64 a0_0,.int .i64 (z0.length : Int),.int .i64 (wrap64 ((Int.tmod a1 a0_0) + 1)),.int .i64 (wrap64 (Int.tdiv a1 a0_0))] rfl ls_ ?_;(with_reducible refine (spec_l12Has.calls a0_0 (z0.length : Int) (wrap64 ((Int.tmod a1 a0_0) + 1)) (wrap64 (Int.tdiv a1 a0_0)) true _ A6.out).mono ?_);rintro e w' ⟨rfl,⟨nd,rfl⟩⟩;refine ⟨_,rfl,?_⟩;have j1 : 0 ≤ ((ji8) : Int):=of_decide_eq_true as_;have j2 : (ji8) < (z0.length : Int):=of_decide_eq_true as_;obtain ⟨r8,e177,z7⟩:=Kd.at_int z6.out (ji8) j1 j2;cases e177;replace z7:=hc_ HB z7;replace j1:=eq_true j1;replace j2:=eq_true j2));go_ret;exact ⟨by first | rfl | (simp [errW_none,errW_some] <;> rfl) | (simp only [← hji8];first | rfl | (simp [errW_none,errW_some] <;> rfl)) | (simp [*,errW_none,errW_some] <;> rfl),hb_⟩
      ·rw [if_neg c10] at H
       exact absurd H (by simp)
     ·rw [if_neg c9] at H
      exact absurd H (by simp)
    ·replace c7:=Bool.eq_false_iff.mpr c7
     subst c7;rw [if_neg (show ¬ (false = true) by decide)] at H
     obtain rfl:=Option.some.inj H
     go_enter Try.func69,Try.ntmps69;go_wp2_with (first | ((with_reducible refine gate_dst (N:=3) rfl ?_);refine box_event ?hg (N:=3) ?hd (cs:=#[.int .i64 a0_0,.slice z3 z0.length c0_1]) (t:=39) ?hr ?_;(case hd => rfl);(case hg => rfl);(case hr => first | (go_simp;done) | (go_simp;rfl));intro z1 hg w16 hbox hb;have z2:=ak (hbox);have z4 : Aside0 (w.heap.size ≤ z1):=gz_;have z5 : Aside0 (w.heap.size ≤ z1):=gz_;replace HB:=ak (below_step hb_ hb);clear hb hbox hg;have zb2:=b20 z2;have zb3:=b21 z2;have zb4:=blk_frozen z2.out 0;have zb5:=blk_frozen z2.out 1) | ((with_reducible refine gate_callee (f:=76) rfl ?_);refine goesL_ (some 39) rfl rfl Try.func76 (by kernel_rfl) rfl #[.int .i64 a0_0,.int .i64 (z0.length : Int),.int .i64 (wrap64 ((Int.tmod a1 a0_0) + 1)),.int .i64 (wrap64 (Int.tdiv a1 a0_0))] rfl ls_ ?_;(with_reducible refine (spec_l12Has.calls a0_0 (z0.length : Int) (wrap64 ((Int.tmod a1 a0_0) + 1)) (wrap64 (Int.tdiv a1 a0_0)) false _ A6.out).mono ?_);rintro e w' ⟨rfl,⟨nd,rfl⟩⟩;refine ⟨_,rfl,?_⟩));go_ret;exact ⟨er_,hb_⟩
   ·rw [if_neg c5] at H
    have za2 : (a2 == 0) = false:=beq_eq_false_iff_ne.mpr c5;have za3 : (a2 != 0) = true:=bne_iff_ne.mpr c5;by_cases c18 : a2 = 1
    ·rw [if_pos c18] at H
     have r9 : (a2 == 1) = true:=beq_iff_eq.mpr c18;have m0 : (a2 != 1) = false:=bne_eq_false_iff_eq.mpr c18;clear c18;replace H:=Option.bind_eq_some_iff.mp H;obtain ⟨r0,r3,H⟩:=H;replace H : (if r0 = true then (if 0 ≤ (wrap64 ((wrap64 ((wrap64 ((wrap64 (Int.tdiv a1 a0_0)) + 1)) * a0_0)) + (Int.tmod a1 a0_0))) then (if (wrap64 ((wrap64 ((wrap64 ((wrap64 (Int.tdiv a1 a0_0)) + 1)) * a0_0)) + (Int.tmod a1 a0_0))) < (z0.length : Int) then (if (rd z0 (wrap64 ((wrap64 ((wrap64 ((wrap64 (Int.tdiv a1 a0_0)) + 1)) * a0_0)) + (Int.tmod a1 a0_0)))) = 0 then (some (wrap64 ((wrap64 ((wrap64 ((wrap64 (Int.tdiv a1 a0_0)) + 1)) * a0_0)) + (Int.tmod a1 a0_0)))) else (some (-1))) else (none)) else (none)) else (some (-1))) = some r:=H;have A19:=Aside0.mk r3;clear r3;by_cases c20 : r0 = true
     ·subst c20
      rw [if_pos rfl] at H;obtain ⟨ji21,hji21⟩ : ∃ j_ : Int,(wrap64 ((wrap64 ((wrap64 ((wrap64 (Int.tdiv a1 a0_0)) + 1)) * a0_0)) + (Int.tmod a1 a0_0))) = j_:=⟨_,rfl⟩;(replace H : (if 0 ≤ (ji21) then (if (ji21) < (z0.length : Int) then (if (rd z0 (ji21)) = 0 then (some ji21) else (some (-1))) else (none)) else (none)) = some r:=by first | (rw [hji21] at H;exact H) | (simp only [hji21] at H ⊢;exact H));(try rw [hji21] at A19);have hji21w : (IntKind.i64.wrap ((wrap64 ((wrap64 ((wrap64 (Int.tdiv a1 a0_0)) + 1)) * a0_0)) + (Int.tmod a1 a0_0))) = ji21:=(i64_w _).trans hji21;by_cases c22 : 0 ≤ (ji21)
      ·rw [if_pos c22] at H
       have zf4 : decide (0 ≤ (ji21)) = true:=decide_eq_true c22;clear c22;by_cases c23 : (ji21) < (z0.length : Int)
       ·rw [if_pos c23] at H
        have zf5 : decide ((ji21) < (z0.length : Int)) = true:=decide_eq_true c23;clear c23;by_cases c24 : (rd z0 (ji21)) = 0
        ·rw [if_pos c24] at H
         have m1 : ((rd z0 (ji21)) == 0) = true:=beq_iff_eq.mpr c24;have m2 : ((rd z0 (ji21)) != 0) = false:=bne_eq_false_iff_eq.mpr c24;clear c24
         obtain rfl:=Option.some.inj H
         go_enter Try.func69,Try.ntmps69;go_wp2_with (first | ((with_reducible refine gate_dst (N:=3) rfl ?_);refine box_event ?hg (N:=3) ?hd (cs:=#[.int .i64 a0_0,.slice z3 z0.length c0_1]) (t:=39) ?hr ?_;(case hd => rfl);(case hg => rfl);(case hr => first | (go_simp;done) | (go_simp;rfl));intro z1 hg w25 hbox hb;have z2:=ak (hbox);have z4 : Aside0 (w.heap.size ≤ z1):=gz_;have z5 : Aside0 (w.heap.size ≤ z1):=gz_;replace HB:=ak (below_step hb_ hb);clear hb hbox hg;have zb6:=b20 z2;have zb7:=b21 z2;have zb8:=blk_frozen z2.out 0;have zb9:=blk_frozen z2.out 1) | ((with_reducible refine gate_callee (f:=76) rfl ?_);refine goesL_ (some 39) rfl rfl Try.func76 (by kernel_rfl) rfl #[.int .i64 a0_0,.int .i64 (z0.length : Int),.int .i64 (Int.tmod a1 a0_0),.int .i64 (wrap64 ((wrap64 (Int.tdiv a1 a0_0)) + 1))] rfl ls_ ?_;(with_reducible refine (spec_l12Has.calls a0_0 (z0.length : Int) (Int.tmod a1 a0_0) (wrap64 ((wrap64 (Int.tdiv a1 a0_0)) + 1)) true _ A19.out).mono ?_);rintro e w' ⟨rfl,⟨nd,rfl⟩⟩;refine ⟨_,rfl,?_⟩;have j3 : 0 ≤ ((ji21) : Int):=of_decide_eq_true as_;have j4 : (ji21) < (z0.length : Int):=of_decide_eq_true as_;obtain ⟨m3,e179,z8⟩:=Kd.at_int z6.out (ji21) j3 j4;cases e179;replace z8:=hc_ HB z8;replace j3:=eq_true j3;replace j4:=eq_true j4));go_ret;exact ⟨by first | rfl | (simp [errW_none,errW_some] <;> rfl) | (simp only [← hji21];first | rfl | (simp [errW_none,errW_some] <;> rfl)) | (simp [*,errW_none,errW_some] <;> rfl),hb_⟩
        ·rw [if_neg c24] at H
         have m1 : ((rd z0 (ji21)) == 0) = false:=beq_eq_false_iff_ne.mpr c24;have m2 : ((rd z0 (ji21)) != 0) = true:=bne_iff_ne.mpr c24
         obtain rfl:=Option.some.inj H
         go_enter Try.func69,Try.ntmps69;go_wp2_with (first | ((with_reducible refine gate_dst (N:=3) rfl ?_);refine box_event ?hg (N:=3) ?hd (cs:=#[.int .i64 a0_0,.slice z3 z0.length c0_1]) (t:=39) ?hr ?_;(case hd => rfl);(case hg => rfl);(case hr => first | (go_simp;done) | (go_simp;rfl));intro z1 hg w27 hbox hb;have z2:=ak (hbox);have z4 : Aside0 (w.heap.size ≤ z1):=gz_;have z5 : Aside0 (w.heap.size ≤ z1):=gz_;replace HB:=ak (below_step hb_ hb);clear hb hbox hg;have zc0:=b20 z2;have zc1:=b21 z2;have zc2:=blk_frozen z2.out 0;have zc3:=blk_frozen z2.out 1) | ((with_reducible refine gate_callee (f:=76) rfl ?_);refine goesL_ (some 39) rfl rfl Try.func76 (by kernel_rfl) rfl #[.int .i64 a0_0,.int .i64 (z0.length : Int),.int .i64 (Int.tmod a1 a0_0),.int .i64 (wrap64 ((wrap64 (Int.tdiv a1 a0_0)) + 1))] rfl ls_ ?_;(with_reducible refine (spec_l12Has.calls a0_0 (z0.length : Int) (Int.tmod a1 a0_0) (wrap64 ((wrap64 (Int.tdiv a1 a0_0)) + 1)) true _ A19.out).mono ?_);rintro e w' ⟨rfl,⟨nd,rfl⟩⟩;refine ⟨_,rfl,?_⟩;have j3 : 0 ≤ ((ji21) : Int):=of_decide_eq_true as_;have j4 : (ji21) < (z0.length : Int):=of_decide_eq_true as_;obtain ⟨m3,e179,z8⟩:=Kd.at_int z6.out (ji21) j3 j4;cases e179;replace z8:=hc_ HB z8;replace j3:=eq_true j3;replace j4:=eq_true j4));go_ret;exact ⟨by first | rfl | (simp [errW_none,errW_some] <;> rfl) | (simp only [← hji21];first | rfl | (simp [errW_none,errW_some] <;> rfl)) | (simp [*,errW_none,errW_some] <;> rfl),hb_⟩
       ·rw [if_neg c23] at H
        exact absurd H (by simp)
      ·rw [if_neg c22] at H
       exact absurd H (by simp)
     ·replace c20:=Bool.eq_false_iff.mpr c20
      subst c20;rw [if_neg (show ¬ (false = true) by decide)] at H
      obtain rfl:=Option.some.inj H
      go_enter Try.func69,Try.ntmps69;go_wp2_with (first | ((with_reducible refine gate_dst (N:=3) rfl ?_);refine box_event ?hg (N:=3) ?hd (cs:=#[.int .i64 a0_0,.slice z3 z0.length c0_1]) (t:=39) ?hr ?_;(case hd => rfl);(case hg => rfl);(case hr => first | (go_simp;done) | (go_simp;rfl));intro z1 hg w29 hbox hb;have z2:=ak (hbox);have z4 : Aside0 (w.heap.size ≤ z1):=gz_;have z5 : Aside0 (w.heap.size ≤ z1):=gz_;replace HB:=ak (below_step hb_ hb);clear hb hbox hg;have zc4:=b20 z2;have zc5:=b21 z2;have zc6:=blk_frozen z2.out 0;have zc7:=blk_frozen z2.out 1) | ((with_reducible refine gate_callee (f:=76) rfl ?_);refine goesL_ (some 39) rfl rfl Try.func76 (by kernel_rfl) rfl #[.int .i64 a0_0,.int .i64 (z0.length : Int),.int .i64 (Int.tmod a1 a0_0),.int .i64 (wrap64 ((wrap64 (Int.tdiv a1 a0_0)) + 1))] rfl ls_ ?_;(with_reducible refine (spec_l12Has.calls a0_0 (z0.length : Int) (Int.tmod a1 a0_0) (wrap64 ((wrap64 (Int.tdiv a1 a0_0)) + 1)) false _ A19.out).mono ?_);rintro e w' ⟨rfl,⟨nd,rfl⟩⟩;refine ⟨_,rfl,?_⟩));go_ret;exact ⟨er_,hb_⟩
    ·rw [if_neg c18] at H
     have r9 : (a2 == 1) = false:=beq_eq_false_iff_ne.mpr c18;have m0 : (a2 != 1) = true:=bne_iff_ne.mpr c18;by_cases c31 : a2 = 2
     ·rw [if_pos c31] at H
      have m4 : (a2 == 2) = true:=beq_iff_eq.mpr c31;have m5 : (a2 != 2) = false:=bne_eq_false_iff_eq.mpr c31;clear c31;replace H:=Option.bind_eq_some_iff.mp H;obtain ⟨r1,r4,H⟩:=H;replace H : (if r1 = true then (if 0 ≤ (wrap64 ((wrap64 ((wrap64 (Int.tdiv a1 a0_0)) * a0_0)) + (wrap64 ((Int.tmod a1 a0_0) - 1)))) then (if (wrap64 ((wrap64 ((wrap64 (Int.tdiv a1 a0_0)) * a0_0)) + (wrap64 ((Int.tmod a1 a0_0) - 1)))) < (z0.length : Int) then (if (rd z0 (wrap64 ((wrap64 ((wrap64 (Int.tdiv a1 a0_0)) * a0_0)) + (wrap64 ((Int.tmod a1 a0_0) - 1))))) = 0 then (some (wrap64 ((wrap64 ((wrap64 (Int.tdiv a1 a0_0)) * a0_0)) + (wrap64 ((Int.tmod a1 a0_0) - 1))))) else (some (-1))) else (none)) else (none)) else (some (-1))) = some r:=H;have A32:=Aside0.mk r4;clear r4;by_cases c33 : r1 = true
      ·subst c33
       rw [if_pos rfl] at H;obtain ⟨ji34,hji34⟩ : ∃ j_ : Int,(wrap64 ((wrap64 ((wrap64 (Int.tdiv a1 a0_0)) * a0_0)) + (wrap64 ((Int.tmod a1 a0_0) - 1)))) = j_:=⟨_,rfl⟩;(replace H : (if 0 ≤ (ji34) then (if (ji34) < (z0.length : Int) then (if (rd z0 (ji34)) = 0 then (some ji34) else (some (-1))) else (none)) else (none)) = some r:=by first | (rw [hji34] at H;exact H) | (simp only [hji34] at H ⊢;exact H));(try rw [hji34] at A32);have hji34w : (IntKind.i64.wrap ((wrap64 ((wrap64 (Int.tdiv a1 a0_0)) * a0_0)) + (wrap64 ((Int.tmod a1 a0_0) - 1)))) = ji34:=(i64_w _).trans hji34;by_cases c35 : 0 ≤ (ji34)
       ·rw [if_pos c35] at H
        have zf6 : decide (0 ≤ (ji34)) = true:=decide_eq_true c35;clear c35;by_cases c36 : (ji34) < (z0.length : Int)
        ·rw [if_pos c36] at H
         have zf7 : decide ((ji34) < (z0.length : Int)) = true:=decide_eq_true c36;clear c36;by_cases c37 : (rd z0 (ji34)) = 0
         ·rw [if_pos c37] at H
          have m6 : ((rd z0 (ji34)) == 0) = true:=beq_iff_eq.mpr c37;have m7 : ((rd z0 (ji34)) != 0) = false:=bne_eq_false_iff_eq.mpr c37;clear c37
          obtain rfl:=Option.some.inj H
          go_enter Try.func69,Try.ntmps69;go_wp2_with (first | ((with_reducible refine gate_dst (N:=3) rfl ?_);refine box_event ?hg (N:=3) ?hd (cs:=#[.int .i64 a0_0,.slice z3 z0.length c0_1]) (t:=39) ?hr ?_;(case hd => rfl);(case hg => rfl);(case hr => first | (go_simp;done) | (go_simp;rfl));intro z1 hg w38 hbox hb;have z2:=ak (hbox);have z4 : Aside0 (w.heap.size ≤ z1):=gz_;have z5 : Aside0 (w.heap.size ≤ z1):=gz_;replace HB:=ak (below_step hb_ hb);clear hb hbox hg;have zc8:=b20 z2;have zc9:=b21 z2;have zd0:=blk_frozen z2.out 0;have zd1:=blk_frozen z2.out 1) | ((with_reducible refine gate_callee (f:=76) rfl ?_);refine goesL_ (some 39) rfl rfl Try.func76 (by kernel_rfl) rfl #[.int .i64 a0_0,.int .i64 (z0.length : Int),.int .i64 (wrap64 ((Int.tmod a1 a0_0) - 1)),.int .i64 (wrap64 (Int.tdiv a1 a0_0))] rfl ls_ ?_;(with_reducible refine (spec_l12Has.calls a0_0 (z0.length : Int) (wrap64 ((Int.tmod a1 a0_0) - 1)) (wrap64 (Int.tdiv a1 a0_0)) true _ A32.out).mono ?_);rintro e w' ⟨rfl,⟨nd,rfl⟩⟩;refine ⟨_,rfl,?_⟩;have j5 : 0 ≤ ((ji34) : Int):=of_decide_eq_true as_;have j6 : (ji34) < (z0.length : Int):=of_decide_eq_true as_;obtain ⟨m8,e181,z9⟩:=Kd.at_int z6.out (ji34) j5 j6;cases e181;replace z9:=hc_ HB z9;replace j5:=eq_true j5;replace j6:=eq_true j6));go_ret;exact ⟨by first | rfl | (simp [errW_none,errW_some] <;> rfl) | (simp only [← hji34];first | rfl | (simp [errW_none,errW_some] <;> rfl)) | (simp [*,errW_none,errW_some] <;> rfl),hb_⟩
         ·rw [if_neg c37] at H
          have m6 : ((rd z0 (ji34)) == 0) = false:=beq_eq_false_iff_ne.mpr c37;have m7 : ((rd z0 (ji34)) != 0) = true:=bne_iff_ne.mpr c37
          obtain rfl:=Option.some.inj H
          go_enter Try.func69,Try.ntmps69;go_wp2_with (first | ((with_reducible refine gate_dst (N:=3) rfl ?_);refine box_event ?hg (N:=3) ?hd (cs:=#[.int .i64 a0_0,.slice z3 z0.length c0_1]) (t:=39) ?hr ?_;(case hd => rfl);(case hg => rfl);(case hr => first | (go_simp;done) | (go_simp;rfl));intro z1 hg w40 hbox hb;have z2:=ak (hbox);have z4 : Aside0 (w.heap.size ≤ z1):=gz_;have z5 : Aside0 (w.heap.size ≤ z1):=gz_;replace HB:=ak (below_step hb_ hb);clear hb hbox hg;have zd2:=b20 z2;have zd3:=b21 z2;have zd4:=blk_frozen z2.out 0;have zd5:=blk_frozen z2.out 1) | ((with_reducible refine gate_callee (f:=76) rfl ?_);refine goesL_ (some 39) rfl rfl Try.func76 (by kernel_rfl) rfl #[.int .i64 a0_0,.int .i64 (z0.length : Int),.int .i64 (wrap64 ((Int.tmod a1 a0_0) - 1)),.int .i64 (wrap64 (Int.tdiv a1 a0_0))] rfl ls_ ?_;(with_reducible refine (spec_l12Has.calls a0_0 (z0.length : Int) (wrap64 ((Int.tmod a1 a0_0) - 1)) (wrap64 (Int.tdiv a1 a0_0)) true _ A32.out).mono ?_);rintro e w' ⟨rfl,⟨nd,rfl⟩⟩;refine ⟨_,rfl,?_⟩;have j5 : 0 ≤ ((ji34) : Int):=of_decide_eq_true as_;have j6 : (ji34) < (z0.length : Int):=of_decide_eq_true as_;obtain ⟨m8,e181,z9⟩:=Kd.at_int z6.out (ji34) j5 j6;cases e181;replace z9:=hc_ HB z9;replace j5:=eq_true j5;replace j6:=eq_true j6));go_ret;exact ⟨by first | rfl | (simp [errW_none,errW_some] <;> rfl) | (simp only [← hji34];first | rfl | (simp [errW_none,errW_some] <;> rfl)) | (simp [*,errW_none,errW_some] <;> rfl),hb_⟩
        ·rw [if_neg c36] at H
         exact absurd H (by simp)
       ·rw [if_neg c35] at H
        exact absurd H (by simp)
      ·replace c33:=Bool.eq_false_iff.mpr c33
       subst c33;rw [if_neg (show ¬ (false = true) by decide)] at H
       obtain rfl:=Option.some.inj H
       go_enter Try.func69,Try.ntmps69;go_wp2_with (first | ((with_reducible refine gate_dst (N:=3) rfl ?_);refine box_event ?hg (N:=3) ?hd (cs:=#[.int .i64 a0_0,.slice z3 z0.length c0_1]) (t:=39) ?hr ?_;(case hd => rfl);(case hg => rfl);(case hr => first | (go_simp;done) | (go_simp;rfl));intro z1 hg w42 hbox hb;have z2:=ak (hbox);have z4 : Aside0 (w.heap.size ≤ z1):=gz_;have z5 : Aside0 (w.heap.size ≤ z1):=gz_;replace HB:=ak (below_step hb_ hb);clear hb hbox hg;have zd6:=b20 z2;have zd7:=b21 z2;have zd8:=blk_frozen z2.out 0;have zd9:=blk_frozen z2.out 1) | ((with_reducible refine gate_callee (f:=76) rfl ?_);refine goesL_ (some 39) rfl rfl Try.func76 (by kernel_rfl) rfl #[.int .i64 a0_0,.int .i64 (z0.length : Int),.int .i64 (wrap64 ((Int.tmod a1 a0_0) - 1)),.int .i64 (wrap64 (Int.tdiv a1 a0_0))] rfl ls_ ?_;(with_reducible refine (spec_l12Has.calls a0_0 (z0.length : Int) (wrap64 ((Int.tmod a1 a0_0) - 1)) (wrap64 (Int.tdiv a1 a0_0)) false _ A32.out).mono ?_);rintro e w' ⟨rfl,⟨nd,rfl⟩⟩;refine ⟨_,rfl,?_⟩));go_ret;exact ⟨er_,hb_⟩
     ·rw [if_neg c31] at H
      have m4 : (a2 == 2) = false:=beq_eq_false_iff_ne.mpr c31;have m5 : (a2 != 2) = true:=bne_iff_ne.mpr c31;replace H:=Option.bind_eq_some_iff.mp H;obtain ⟨r2,r5,H⟩:=H;replace H : (if r2 = true then (if 0 ≤ (wrap64 ((wrap64 ((wrap64 ((wrap64 (Int.tdiv a1 a0_0)) - 1)) * a0_0)) + (Int.tmod a1 a0_0))) then (if (wrap64 ((wrap64 ((wrap64 ((wrap64 (Int.tdiv a1 a0_0)) - 1)) * a0_0)) + (Int.tmod a1 a0_0))) < (z0.length : Int) then (if (rd z0 (wrap64 ((wrap64 ((wrap64 ((wrap64 (Int.tdiv a1 a0_0)) - 1)) * a0_0)) + (Int.tmod a1 a0_0)))) = 0 then (some (wrap64 ((wrap64 ((wrap64 ((wrap64 (Int.tdiv a1 a0_0)) - 1)) * a0_0)) + (Int.tmod a1 a0_0)))) else (some (-1))) else (none)) else (none)) else (some (-1))) = some r:=H;have A44:=Aside0.mk r5;clear r5;by_cases c45 : r2 = true
      ·subst c45
       rw [if_pos rfl] at H;obtain ⟨ji46,hji46⟩ : ∃ j_ : Int,(wrap64 ((wrap64 ((wrap64 ((wrap64 (Int.tdiv a1 a0_0)) - 1)) * a0_0)) + (Int.tmod a1 a0_0))) = j_:=⟨_,rfl⟩;(replace H : (if 0 ≤ (ji46) then (if (ji46) < (z0.length : Int) then (if (rd z0 (ji46)) = 0 then (some ji46) else (some (-1))) else (none)) else (none)) = some r:=by first | (rw [hji46] at H;exact H) | (simp only [hji46] at H ⊢;exact H));(try rw [hji46] at A44);have hji46w : (IntKind.i64.wrap ((wrap64 ((wrap64 ((wrap64 (Int.tdiv a1 a0_0)) - 1)) * a0_0)) + (Int.tmod a1 a0_0))) = ji46:=(i64_w _).trans hji46;by_cases c47 : 0 ≤ (ji46)
       ·rw [if_pos c47] at H
        have zf8 : decide (0 ≤ (ji46)) = true:=decide_eq_true c47;clear c47;by_cases c48 : (ji46) < (z0.length : Int)
        ·rw [if_pos c48] at H
         have zf9 : decide ((ji46) < (z0.length : Int)) = true:=decide_eq_true c48;clear c48;by_cases c49 : (rd z0 (ji46)) = 0
         ·rw [if_pos c49] at H
          have m9 : ((rd z0 (ji46)) == 0) = true:=beq_iff_eq.mpr c49;have za0 : ((rd z0 (ji46)) != 0) = false:=bne_eq_false_iff_eq.mpr c49;clear c49
          obtain rfl:=Option.some.inj H
          go_enter Try.func69,Try.ntmps69;go_wp2_with (first | ((with_reducible refine gate_dst (N:=3) rfl ?_);refine box_event ?hg (N:=3) ?hd (cs:=#[.int .i64 a0_0,.slice z3 z0.length c0_1]) (t:=39) ?hr ?_;(case hd => rfl);(case hg => rfl);(case hr => first | (go_simp;done) | (go_simp;rfl));intro z1 hg w50 hbox hb;have z2:=ak (hbox);have z4 : Aside0 (w.heap.size ≤ z1):=gz_;have z5 : Aside0 (w.heap.size ≤ z1):=gz_;replace HB:=ak (below_step hb_ hb);clear hb hbox hg;have ze0:=b20 z2;have ze1:=b21 z2;have ze2:=blk_frozen z2.out 0;have ze3:=blk_frozen z2.out 1) | ((with_reducible refine gate_callee (f:=76) rfl ?_);refine goesL_ (some 39) rfl rfl Try.func76 (by kernel_rfl) rfl #[.int .i64 a0_0,.int .i64 (z0.length : Int),.int .i64 (Int.tmod a1 a0_0),.int .i64 (wrap64 ((wrap64 (Int.tdiv a1 a0_0)) - 1))] rfl ls_ ?_;(with_reducible refine (spec_l12Has.calls a0_0 (z0.length : Int) (Int.tmod a1 a0_0) (wrap64 ((wrap64 (Int.tdiv a1 a0_0)) - 1)) true _ A44.out).mono ?_);rintro e w' ⟨rfl,⟨nd,rfl⟩⟩;refine ⟨_,rfl,?_⟩;have j7 : 0 ≤ ((ji46) : Int):=of_decide_eq_true as_;have j8 : (ji46) < (z0.length : Int):=of_decide_eq_true as_;obtain ⟨za1,e183,j0⟩:=Kd.at_int z6.out (ji46) j7 j8;cases e183;replace j0:=hc_ HB j0;replace j7:=eq_true j7;replace j8:=eq_true j8));go_ret;exact ⟨by first | rfl | (simp [errW_none,errW_some] <;> rfl) | (simp only [← hji46];first | rfl | (simp [errW_none,errW_some] <;> rfl)) | (simp [*,errW_none,errW_some] <;> rfl),hb_⟩
         ·rw [if_neg c49] at H
          have m9 : ((rd z0 (ji46)) == 0) = false:=beq_eq_false_iff_ne.mpr c49;have za0 : ((rd z0 (ji46)) != 0) = true:=bne_iff_ne.mpr c49
          obtain rfl:=Option.some.inj H
          go_enter Try.func69,Try.ntmps69;go_wp2_with (first | ((with_reducible refine gate_dst (N:=3) rfl ?_);refine box_event ?hg (N:=3) ?hd (cs:=#[.int .i64 a0_0,.slice z3 z0.length c0_1]) (t:=39) ?hr ?_;(case hd => rfl);(case hg => rfl);(case hr => first | (go_simp;done) | (go_simp;rfl));intro z1 hg w52 hbox hb;have z2:=ak (hbox);have z4 : Aside0 (w.heap.size ≤ z1):=gz_;have z5 : Aside0 (w.heap.size ≤ z1):=gz_;replace HB:=ak (below_step hb_ hb);clear hb hbox hg;have ze4:=b20 z2;have ze5:=b21 z2;have ze6:=blk_frozen z2.out 0;have ze7:=blk_frozen z2.out 1) | ((with_reducible refine gate_callee (f:=76) rfl ?_);refine goesL_ (some 39) rfl rfl Try.func76 (by kernel_rfl) rfl #[.int .i64 a0_0,.int .i64 (z0.length : Int),.int .i64 (Int.tmod a1 a0_0),.int .i64 (wrap64 ((wrap64 (Int.tdiv a1 a0_0)) - 1))] rfl ls_ ?_;(with_reducible refine (spec_l12Has.calls a0_0 (z0.length : Int) (Int.tmod a1 a0_0) (wrap64 ((wrap64 (Int.tdiv a1 a0_0)) - 1)) true _ A44.out).mono ?_);rintro e w' ⟨rfl,⟨nd,rfl⟩⟩;refine ⟨_,rfl,?_⟩;have j7 : 0 ≤ ((ji46) : Int):=of_decide_eq_true as_;have j8 : (ji46) < (z0.length : Int):=of_decide_eq_true as_;obtain ⟨za1,e183,j0⟩:=Kd.at_int z6.out (ji46) j7 j8;cases e183;replace j0:=hc_ HB j0;replace j7:=eq_true j7;replace j8:=eq_true j8));go_ret;exact ⟨by first | rfl | (simp [errW_none,errW_some] <;> rfl) | (simp only [← hji46];first | rfl | (simp [errW_none,errW_some] <;> rfl)) | (simp [*,errW_none,errW_some] <;> rfl),hb_⟩
        ·rw [if_neg c48] at H
         exact absurd H (by simp)
       ·rw [if_neg c47] at H
        exact absurd H (by simp)
      ·replace c45:=Bool.eq_false_iff.mpr c45
       subst c45;rw [if_neg (show ¬ (false = true) by decide)] at H
       obtain rfl:=Option.some.inj H
       go_enter Try.func69,Try.ntmps69;go_wp2_with (first | ((with_reducible refine gate_dst (N:=3) rfl ?_);refine box_event ?hg (N:=3) ?hd (cs:=#[.int .i64 a0_0,.slice z3 z0.length c0_1]) (t:=39) ?hr ?_;(case hd => rfl);(case hg => rfl);(case hr => first | (go_simp;done) | (go_simp;rfl));intro z1 hg w54 hbox hb;have z2:=ak (hbox);have z4 : Aside0 (w.heap.size ≤ z1):=gz_;have z5 : Aside0 (w.heap.size ≤ z1):=gz_;replace HB:=ak (below_step hb_ hb);clear hb hbox hg;have ze8:=b20 z2;have ze9:=b21 z2;have zf0:=blk_frozen z2.out 0;have zf1:=blk_frozen z2.out 1) | ((with_reducible refine gate_callee (f:=76) rfl ?_);refine goesL_ (some 39) rfl rfl Try.func76 (by kernel_rfl) rfl #[.int .i64 a0_0,.int .i64 (z0.length : Int),.int .i64 (Int.tmod a1 a0_0),.int .i64 (wrap64 ((wrap64 (Int.tdiv a1 a0_0)) - 1))] rfl ls_ ?_;(with_reducible refine (spec_l12Has.calls a0_0 (z0.length : Int) (Int.tmod a1 a0_0) (wrap64 ((wrap64 (Int.tdiv a1 a0_0)) - 1)) false _ A44.out).mono ?_);rintro e w' ⟨rfl,⟨nd,rfl⟩⟩;refine ⟨_,rfl,?_⟩));go_ret;exact ⟨er_,hb_⟩

end Go.Proofs.Ytcldlljnaijmhaa.Pr
namespace Go.Proofs.Ytcldlljnaijmhaa.Pr
open Go.RowKit Go.Proofs.YtcldlljnaijmhaaW.PrintWords Go.Proofs.YtcldlljnaijmhaaW.PrintLast Go.Proofs.YtcldlljnaijmhaaW.PrintMore
attribute [local go_sem] max2_int min2_int max_two min_two max_three min_three max_four min_four
set_option linter.unusedVariables false
set_option linter.unusedSimpArgs false

def spec_l20Next.T2 : Bool × List (List Nat × List Nat):=(true,[([],[]),([],[]),([0,1],[0,1]),([],[]),([],[]),([3,4,2],[3,4]),([],[]),([],[]),([],[]),([7,8,5],[7,8]),([],[]),([],[]),([10,11,9],[10,11]),([2,5,6,9,12],[2,5,6,9,12]),([13],[13]),([],[])])
def spec_l20Next.B2 : List Nat:=[0,0,3,0,0,31,0,0,0,447,0,0,4031,8191,16383,0]
theorem spec_l20Next.tab2 : rtab .any (opsOf Try.f57 2) = spec_l20Next.T2:=by kernel_rfl
theorem spec_l20Next.bits2 : waitsOk spec_l20Next.T2.2 spec_l20Next.B2 = true:=by kernel_rfl
set_option maxHeartbeats 8000000 in
set_option maxRecDepth 100000 in
theorem spec_l20Next.calls (k : Nat) (a0_0 : Int) (z8 : Option Addr) (c0_1 : Nat) (z3 : List Int) (a1 : Int) (r : List Int) (w : World) (hr0_1 : Kd.C (Kd.int .i64) w z8 z3.length z3) (hc0_1 : z3.length ≤ c0_1) (h : spec_l20Next.f k a0_0 z3 a1 = some r) :
   Calls Try.prog 57 #[.agg #[.int .i64 a0_0,.slice z8 z3.length c0_1],.int .i64 a1] w fun e w' => ∃ v0_ : Value,e = .returned (v0_) ∧ Kd.R (Kd.int .i64) 3 w' w.heap.size (fun _ => True) v0_ r ∧ Below w.heap.size w w':=by
  have m9:=Try.underlying39;have j8:=Aside0.mk hr0_1;have j9:=Aside0.mk hc0_1;clear hr0_1 hc0_1;have HB:=ak (Below.refl w.heap.size w);have H : ((spec_l12Next.f a0_0 z3 a1 3).bind fun z7 => ((spec_l12Next.f a0_0 z3 a1 2).bind fun z6 => ((spec_l12Next.f a0_0 z3 a1 0).bind fun z5 => ((spec_l12Next.f a0_0 z3 a1 1).bind fun z4 => ((some (([z7,z6,a1,z5,z4] : List Int) : List Int)).bind fun z1 => (spec_l20Next.l0 k ([] : List Int) z1 (z1.length : Int) 0)))))) = some r:=h;clear h;replace H:=Option.bind_eq_some_iff.mp H;obtain ⟨z7,A30,H⟩:=H;replace H : ((spec_l12Next.f a0_0 z3 a1 2).bind fun z6 => ((spec_l12Next.f a0_0 z3 a1 0).bind fun z5 => ((spec_l12Next.f a0_0 z3 a1 1).bind fun z4 => ((some (([z7,z6,a1,z5,z4] : List Int) : List Int)).bind fun z1 => (spec_l20Next.l0 k ([] : List Int) z1 (z1.length : Int) 0))))) = some r:=H;have A3:=Aside0.mk A30;clear A30;replace H:=Option.bind_eq_some_iff.mp H;obtain ⟨z6,A40,H⟩:=H;replace H : ((spec_l12Next.f a0_0 z3 a1 0).bind fun z5 => ((spec_l12Next.f a0_0 z3 a1 1).bind fun z4 => ((some (([z7,z6,a1,z5,z4] : List Int) : List Int)).bind fun z1 => (spec_l20Next.l0 k ([] : List Int) z1 (z1.length : Int) 0)))) = some r:=H;have A4:=Aside0.mk A40;clear A40;replace H:=Option.bind_eq_some_iff.mp H;obtain ⟨z5,A50,H⟩:=H;replace H : ((spec_l12Next.f a0_0 z3 a1 1).bind fun z4 => ((some (([z7,z6,a1,z5,z4] : List Int) : List Int)).bind fun z1 => (spec_l20Next.l0 k ([] : List Int) z1 (z1.length : Int) 0))) = some r:=H;have A5:=Aside0.mk A50;clear A50;replace H:=Option.bind_eq_some_iff.mp H;obtain ⟨z4,A60,H⟩:=H;replace H : ((some (([z7,z6,a1,z5,z4] : List Int) : List Int)).bind fun z1 => (spec_l20Next.l0 k ([] : List Int) z1 (z1.length : Int) 0)) = some r:=H;have A6:=Aside0.mk A60;clear A60;obtain ⟨z1,j6⟩ : ∃ y_ : List Int,y_ = (([z7,z6,a1,z5,z4] : List Int)):=⟨_,rfl⟩;(replace H : (spec_l20Next.l0 k ([] : List Int) z1 (z1.length : Int) 0) = some r:=by first | (rw [j6];with_reducible exact H) | (have H2_:=(Option.bind_some _ _).symm.trans H;rw [j6];with_reducible exact H2_) | (have H2_:=(Option.bind_some _ _).symm.trans H;with_reducible exact H2_) | with_reducible exact H | (rw [j6];exact H) | exact H);have r3:=Aside0.mk j6;clear j6;have H':=Aside0.mk H;clear H;go_enter Try.func57,Try.ntmps57;(try go_wp2_with (first | ((with_reducible refine gate_dst (N:=2) rfl ?_);refine box_event ?hg (N:=2) ?hd (cs:=#[.int .i64 a0_0,.slice z8 z3.length c0_1]) (t:=39) ?hr ?_;(case hd => rfl);(case hg => rfl);(case hr => first | (go_simp;done) | (go_simp;rfl));intro j2 hg w7 hbox hb;have z0:=ak (hbox);have m5 : Aside0 (w.heap.size ≤ j2):=gz_;have m6 : Aside0 (w.heap.size ≤ j2):=gz_;replace HB:=ak (below_step hb_ hb);clear hb hbox hg)));replace z0:=ak (blk_drew z0.out);replace HB:=ak (below_drew1 HB.out);refine start_ (n:=16) (S:=fun w' => w'.cell? ⟨j2,0,none⟩ = some (.int .i64 a0_0) ∧ w'.cell? ⟨j2,1,none⟩ = some (.slice z8 z3.length c0_1)) (ds:=[]) (bm 16 0) (by kernel_rfl) rfl rfl ⟨(blk_cell z0.out 0).trans rfl,(blk_cell z0.out 1).trans rfl⟩ (fun hHeld => ?_);refine with_tabW spec_l20Next.tab2 spec_l20Next.bits2 (fun HT_ HW_ => ?_);generalize w7.drew = w8 at z0 HB hHeld ⊢;refine pure_ (i:=1) (N:=some 9) (v:=?_) (a':=?_) (bm 16 2) rfl rfl (any_of HT_.out (by kernel_rfl)) (fun _ _ _ h => h) (Or.inl ⟨by rfl,?_⟩) ?_ ?_;rotate_left;(intro w';go_simp;with_reducible rfl);rotate_left;(simp only [Act.put,List.setIfInBounds_toArray,List.set_cons_zero,List.set_cons_succ,i64_w,i32_w];rfl)
  refine pure_ (i:=4) (N:=some 12) (v:=?_) (a':=?_) (bm 16 18) rfl rfl (any_of HT_.out (by kernel_rfl)) (fun _ _ _ h => h) (Or.inl ⟨by rfl,?_⟩) ?_ ?_;rotate_left;(intro w';go_simp;with_reducible rfl);rotate_left;(simp only [Act.put,List.setIfInBounds_toArray,List.set_cons_zero,List.set_cons_succ,i64_w,i32_w];rfl)
  refine pure_ (i:=6) (N:=some 14) (v:=?_) (a':=?_) (bm 16 82) rfl rfl (any_of HT_.out (by kernel_rfl)) (fun _ _ _ h => h) (Or.inl ⟨by rfl,?_⟩) ?_ ?_;rotate_left;(intro w';go_simp;with_reducible rfl);rotate_left;(simp only [Act.put,List.setIfInBounds_toArray,List.set_cons_zero,List.set_cons_succ,i64_w,i32_w];rfl)
  refine pure_ (i:=8) (N:=some 16) (v:=?_) (a':=?_) (bm 16 338) rfl rfl (any_of HT_.out (by kernel_rfl)) (fun _ _ _ h => h) (Or.inl ⟨by rfl,?_⟩) ?_ ?_;rotate_left;(intro w';go_simp;with_reducible rfl);rotate_left;(simp only [Act.put,List.setIfInBounds_toArray,List.set_cons_zero,List.set_cons_succ,i64_w,i32_w];rfl)
  refine pure_ (i:=11) (N:=some 19) (v:=?_) (a':=?_) (bm 16 2386) rfl rfl (any_of HT_.out (by kernel_rfl)) (fun _ _ _ h => h) (Or.inl ⟨by rfl,?_⟩) ?_ ?_;rotate_left;(intro w';go_simp;with_reducible rfl);rotate_left;(simp only [Act.put,List.setIfInBounds_toArray,List.set_cons_zero,List.set_cons_succ,i64_w,i32_w];rfl)
  refine pure_ (i:=15) (N:=some 23) (v:=?_) (a':=?_) (bm 16 35154) rfl rfl (any_of HT_.out (by kernel_rfl)) (fun _ _ _ h => h) (Or.inl ⟨by rfl,?_⟩) ?_ ?_;rotate_left;(intro w';go_simp;with_reducible rfl);rotate_left;(simp only [Act.put,List.setIfInBounds_toArray,List.set_cons_zero,List.set_cons_succ,i64_w,i32_w];rfl)
  refine take_ (i:=0) (N:=some 8) (v:=?_) (a':=?_) (bm 16 35155) rfl rfl (take_ofW HT_.out HW_.out (by kernel_rfl)) (fun _ _ _ h => h) (Or.inl ⟨by rfl,?_⟩) hHeld ?_ ?_;rotate_left;(rintro w' ⟨s0,s1⟩;go_simp;with_reducible rfl);rotate_left;(simp only [Act.put,List.setIfInBounds_toArray,List.set_cons_zero,List.set_cons_succ,i64_w,i32_w];rfl)
  refine take_ (i:=3) (N:=some 11) (v:=?_) (a':=?_) (bm 16 35163) rfl rfl (take_ofW HT_.out HW_.out (by kernel_rfl)) (fun _ _ _ h => h) (Or.inl ⟨by rfl,?_⟩) hHeld ?_ ?_;rotate_left;(rintro w' ⟨s0,s1⟩;go_simp;with_reducible rfl);rotate_left;(simp only [Act.put,List.setIfInBounds_toArray,List.set_cons_zero,List.set_cons_succ,i64_w,i32_w];rfl)
  refine take_ (i:=7) (N:=some 15) (v:=?_) (a':=?_) (bm 16 35291) rfl rfl (take_ofW HT_.out HW_.out (by kernel_rfl)) (fun _ _ _ h => h) (Or.inl ⟨by rfl,?_⟩) hHeld ?_ ?_;rotate_left;(rintro w' ⟨s0,s1⟩;go_simp;with_reducible rfl);rotate_left;(simp only [Act.put,List.setIfInBounds_toArray,List.set_cons_zero,List.set_cons_succ,i64_w,i32_w];rfl)
  refine take_ (i:=10) (N:=some 18) (v:=?_) (a':=?_) (bm 16 36315) rfl rfl (take_ofW HT_.out HW_.out (by kernel_rfl)) (fun _ _ _ h => h) (Or.inl ⟨by rfl,?_⟩) hHeld ?_ ?_;rotate_left;(rintro w' ⟨s0,s1⟩;go_simp;with_reducible rfl);rotate_left;(simp only [Act.put,List.setIfInBounds_toArray,List.set_cons_zero,List.set_cons_succ,i64_w,i32_w];rfl)
  refine one_ (i:=2) (N:=some 10) (bm 16 36319) rfl rfl (one_of HT_.out (by kernel_rfl)) (by decide) (fun K hK => ?_);refine goes_ Try.func69 (by kernel_rfl) rfl #[.agg #[.int .i64 a0_0,.slice z8 z3.length c0_1],.int .i64 a1,.int .i64 3] (by rfl) rfl rfl ls_ ?_
  with_reducible refine (spec_l12Next.calls a0_0 _ _ z3 a1 3 z7 _ ?z9 ?j0 A3.out).mono ?_
  (case z9 => exact cb_ j8.out);(case j0 => exact j9.out);rintro e w9 ⟨rfl,hb⟩;refine ⟨_,rfl,?_⟩;replace z0:=bb_ z0 hb;replace HB:=ak (below_step hb_ hb);refine hK.out _ _ ⟨(blk_cell z0.out 0).trans rfl,(blk_cell z0.out 1).trans rfl⟩ (fun hHeld => ?_);clear hK K;refine norm_ (a':=?_) ?_ ?_;rotate_left
  ·show Act.put _ (some 10) _ = _
   simp only [Act.put,List.setIfInBounds_toArray,List.set_cons_zero,List.set_cons_succ,i64_w,i32_w]
   rfl
  refine one_ (i:=5) (N:=some 13) (bm 16 36351) rfl rfl (one_of HT_.out (by kernel_rfl)) (by decide) (fun K hK => ?_);refine goes_ Try.func69 (by kernel_rfl) rfl #[.agg #[.int .i64 a0_0,.slice z8 z3.length c0_1],.int .i64 a1,.int .i64 2] (by rfl) rfl rfl ls_ ?_
  with_reducible refine (spec_l12Next.calls a0_0 _ _ z3 a1 2 z6 _ ?z9 ?j0 A4.out).mono ?_
  (case z9 => exact cb_ j8.out);(case j0 => exact j9.out);rintro e w10 ⟨rfl,hb⟩;refine ⟨_,rfl,?_⟩;replace z0:=bb_ z0 hb;replace HB:=ak (below_step hb_ hb);refine hK.out _ _ ⟨(blk_cell z0.out 0).trans rfl,(blk_cell z0.out 1).trans rfl⟩ (fun hHeld => ?_);clear hK K;refine norm_ (a':=?_) ?_ ?_;rotate_left
  ·show Act.put _ (some 13) _ = _
   simp only [Act.put,List.setIfInBounds_toArray,List.set_cons_zero,List.set_cons_succ,i64_w,i32_w]
   rfl
  refine one_ (i:=9) (N:=some 17) (bm 16 36863) rfl rfl (one_of HT_.out (by kernel_rfl)) (by decide) (fun K hK => ?_);refine goes_ Try.func69 (by kernel_rfl) rfl #[.agg #[.int .i64 a0_0,.slice z8 z3.length c0_1],.int .i64 a1,.int .i64 0] (by rfl) rfl rfl ls_ ?_
  with_reducible refine (spec_l12Next.calls a0_0 _ _ z3 a1 0 z5 _ ?z9 ?j0 A5.out).mono ?_
  (case z9 => exact cb_ j8.out);(case j0 => exact j9.out);rintro e w11 ⟨rfl,hb⟩;refine ⟨_,rfl,?_⟩;replace z0:=bb_ z0 hb;replace HB:=ak (below_step hb_ hb);refine hK.out _ _ ⟨(blk_cell z0.out 0).trans rfl,(blk_cell z0.out 1).trans rfl⟩ (fun hHeld => ?_);clear hK K;refine norm_ (a':=?_) ?_ ?_;rotate_left
  ·show Act.put _ (some 17) _ = _
   simp only [Act.put,List.setIfInBounds_toArray,List.set_cons_zero,List.set_cons_succ,i64_w,i32_w]
   rfl
  refine one_ (i:=12) (N:=some 20) (bm 16 40959) rfl rfl (one_of HT_.out (by kernel_rfl)) (by decide) (fun K hK => ?_);refine goes_ Try.func69 (by kernel_rfl) rfl #[.agg #[.int .i64 a0_0,.slice z8 z3.length c0_1],.int .i64 a1,.int .i64 1] (by rfl) rfl rfl ls_ ?_
  with_reducible refine (spec_l12Next.calls a0_0 _ _ z3 a1 1 z4 _ ?z9 ?j0 A6.out).mono ?_
  (case z9 => exact cb_ j8.out);(case j0 => exact j9.out);rintro e w12 ⟨rfl,hb⟩;refine ⟨_,rfl,?_⟩;replace z0:=bb_ z0 hb;replace HB:=ak (below_step hb_ hb);refine hK.out _ _ ⟨(blk_cell z0.out 0).trans rfl,(blk_cell z0.out 1).trans rfl⟩ (fun hHeld => ?_);clear hK K;refine norm_ (a':=?_) ?_ ?_;rotate_left
  ·show Act.put _ (some 20) _ = _
   simp only [Act.put,List.setIfInBounds_toArray,List.set_cons_zero,List.set_cons_succ,i64_w,i32_w]
   rfl
  refine one_ (i:=13) (N:=some 21) (bm 16 49151) rfl rfl (one_of HT_.out (by kernel_rfl)) (by decide) (fun K hK => ?_);refine Kd.R_lit_step (Kd.int .i64) _ 3 ?hg (N:=21) ?hd (xs:=([z7,z6,a1,z5,z4] : List Int)) (inner:=[.int .i64 z7,.int .i64 z6,.int .i64 a1,.int .i64 z5,.int .i64 z4]) (ok:=fun _ => True) (okp:=fun _ => True) ?hr ?hp (fun _ hk => hk) trivial (Below.refl _ _) (Nat.le_refl _) (by simp) ?_;(case hd => rfl);(case hg => rfl);(case hr => first | (go_simp;done) | (go_simp;rfl));(case hp => exact (Reps.one (show Kd.M (Kd.int .i64) _ _ _ z7 [.int .i64 z7] from rfl) (Reps.one (show Kd.M (Kd.int .i64) _ _ _ z6 [.int .i64 z6] from rfl) (Reps.one (show Kd.M (Kd.int .i64) _ _ _ a1 [.int .i64 a1] from rfl) (Reps.one (show Kd.M (Kd.int .i64) _ _ _ z5 [.int .i64 z5] from rfl) (Reps.one (show Kd.M (Kd.int .i64) _ _ _ z4 [.int .i64 z4] from rfl) (Reps.none _ _)))))));intro za0 w13 r0 hb hg_ hnew_;clear hg_ hnew_;(first | rw [← r3.out] at r0 | (simp only [Int.reduceToNat] at r0;rw [← r3.out] at r0));have r4:=ak (Kd.R_lower r0 (below_size hb_));replace z0:=bb_ z0 hb;replace HB:=ak (below_step hb_ hb);clear hb r0;obtain ⟨r7,r2,r8⟩:=Kd.R_slice r4.out;(first | subst r8 | (injection r8 with f1_ f2_ f3_;have f4_:=f1_.symm;have f5_:=f3_.symm;clear f1_ f2_ f3_;subst f4_;subst f5_));refine hK.out _ _ ⟨(blk_cell z0.out 0).trans rfl,(blk_cell z0.out 1).trans rfl⟩ (fun hHeld => ?_);clear hK K;refine norm_ (a':=?_) ?_ ?_;rotate_left
  ·show Act.put _ (some 21) _ = _
   simp only [Act.put,List.setIfInBounds_toArray,List.set_cons_zero,List.set_cons_succ,i64_w,i32_w]
   rfl
  refine pure_ (i:=14) (N:=some 22) (v:=?_) (a':=?_) (bm 16 65535) rfl rfl (any_of HT_.out (by kernel_rfl)) (fun _ _ _ h => h) (Or.inl ⟨by rfl,?_⟩) ?_ ?_;rotate_left;(intro w';go_simp;with_reducible rfl);rotate_left;(simp only [Act.put,List.setIfInBounds_toArray,List.set_cons_zero,List.set_cons_succ,i64_w,i32_w];rfl)
  refine done_ (done_of HT_.out (by kernel_rfl)) ?_;(try go_wp2)
  go_loopg [5,23] k (fun kq v5 v23 w' => ∃ (j3 : List Int) (z2 : Int),v23 = .int .i64 z2 ∧ Aside0 (spec_l20Next.l0 kq j3 z1 (z1.length : Int) z2 = some r) ∧ Aside0 (kq ≤ k) ∧ Aside0 (Kd.R (Kd.int .i64) 3 w' w.heap.size (fun k_ => some k_ ≠ ((.slice r7 z1.length r2) : Value).ownBlock) v5 j3) ∧ Aside0 (Kd.R (Kd.int .i64) 3 w' w.heap.size (fun k_ => some k_ ≠ (v5 : Value).ownBlock) (.slice r7 z1.length r2) z1) ∧ Aside0 (w'.heap[j2]? = some (.cells #[.int .i64 a0_0,(.slice z8 z3.length c0_1)] 39 (0,0))) ∧ Aside0 (Below w.heap.size w w'))
  case atStart => exact ⟨(([] : List Int)),(0),es_,H',⟨Nat.le_refl _⟩,⟨by first | exact Kd.R_nil _ _ _ _ _ | exact Kd.N_nil _ _ _ _ _ | exact Kd.V_nil _ _ _ _ _ | exact Kd.Q_nil _ _ _ _ _ | exact Kd.S_nil _ _ _ _ _⟩,⟨by (with_reducible repeat (first | apply Kd.R_alloc | apply Kd.R_drewN | apply Kd.R_drew));exact Kd.R_mono r4.out (fun _ hk => (by simp [Value.ownBlock]))⟩,⟨bk_ z0.out⟩,⟨hb_⟩⟩
  case round =>
   clear H';obtain ⟨j3,z2,rfl,HA,HK1,r1,j1,z0,HB⟩:=hrel
   cases gk with
   | zero => exact absurd HA.out (by simp [spec_l20Next.l0])
   | succ k1 =>
    have H:=HA.out;clear HA;simp only [spec_l20Next.l0] at H;by_cases c16 : z2 < (z1.length : Int)
    ·rw [if_pos c16] at H
     have m0 : decide (z2 < (z1.length : Int)) = true:=decide_eq_true c16;clear c16;by_cases c17 : 0 ≤ z2
     ·rw [if_pos c17] at H
      have m7 : decide (0 ≤ z2) = true:=decide_eq_true c17;clear c17;by_cases c18 : z2 < (z1.length : Int)
      ·rw [if_pos c18] at H
       have m8 : decide (z2 < (z1.length : Int)) = true:=decide_eq_true c18;clear c18;by_cases c19 : (rd z1 z2) ≥ 0
       ·rw [if_pos c19] at H
        have m1 : decide (0 ≤ (rd z1 z2)) = true:=decide_eq_true c19;clear c19;by_cases c20 : j3.length < 17592186044416
        ·rw [if_pos c20] at H
         have m2:=Aside0.mk c20;clear c20;obtain ⟨r9,j7⟩ : ∃ y_ : List Int,y_ = (j3 ++ [rd z1 z2]):=⟨_,rfl⟩;(replace H : (spec_l20Next.l0 k1 r9 z1 (z1.length : Int) (wrap64 (z2 + 1))) = some r:=by first | (rw [j7];with_reducible exact H) | (have H2_:=(Option.bind_some _ _).symm.trans H;rw [j7];with_reducible exact H2_) | (have H2_:=(Option.bind_some _ _).symm.trans H;with_reducible exact H2_) | with_reducible exact H | (rw [j7];exact H) | exact H);have m3:=Aside0.mk j7;clear j7;have H':=Aside0.mk H;clear H;have j4 : 0 ≤ (z2 : Int):=of_decide_eq_true as_;have j5 : z2 < (z1.length : Int):=of_decide_eq_true as_;obtain ⟨r5,e192,r6⟩:=Kd.at_int (Kd.R_reads' j1.out).2.2 z2 j4 j5;cases e192;replace j4:=eq_true j4;replace j5:=eq_true j5;go_wp2_with (first | ((with_reducible refine gate_builtin (b:=.append) (xs:=#[.tmp 29,.tmp 31]) rfl ?_);at_builtin;refine Kd.R_append (Kd.int .i64) (w0:=w) w.heap.size rfl (.tmp 29) (.tmp 31) 22 3 (.int .i64 0) 8 rfl Try.underlying22 info3 rfl (by decide) (by omega) u5 j3 (rd z1 z2) [.int .i64 (rd z1 z2)] (fun k_ => some k_ ≠ (.slice (some r5) z1.length r2 : Value).ownBlock) (fun _ => False) rfl rfl ?aP (fun _ hk => hk.elim) ?aF ?aO ?aB ?aS ?aL ?_;(case aP => exact rfl);(case aB => exact hb_);(case aF => exact (fun k_ hk => Kd.fresh' (Kd.R_lt (ra_ j1.out)) k_ hk));(case aO => exact (ra_ r1.out));(case aS => exact (below_size hb_));(case aL => have:=m2.out;omega);intro za1 w21 ho hb hg hat;rw [← m3.out] at ho;replace j1:=ak (Kd.R_after (ok:=(fun _ => True)) (by (with_reducible repeat (first | apply Kd.R_alloc | apply Kd.R_drewN | apply Kd.R_drew));exact Kd.R_mono j1.out (fun _ hk => ⟨trivial,hk⟩)) hg hat);replace z0:=ak (blk_grown (g:=j2) (o:=.cells #[.int .i64 a0_0,.slice z8 z3.length c0_1] 39 (0,0)) (bk_ z0.out) hg (Kd.R_ne r1.out z0.out (by decide)));have m4:=ak (ho);replace HB:=ak (hb);clear r1;clear ho hb hg hat));go_roundg k1
         case measure => have:=HK1.out;omega
         case rel => exact ⟨(r9),(wrap64 (z2 + 1)),es_,H',⟨by have:=HK1.out;omega⟩,⟨ra_ m4.out⟩,⟨by (with_reducible repeat (first | apply Kd.R_alloc | apply Kd.R_drewN | apply Kd.R_drew));exact Kd.R_mono j1.out (fun _ hk => hk.2)⟩,⟨bk_ z0.out⟩,⟨hb_⟩⟩
        ·rw [if_neg c20] at H
         exact absurd H (by simp)
       ·rw [if_neg c19] at H
        have m1 : decide (0 ≤ (rd z1 z2)) = false:=decide_eq_false c19;clear c19;have H':=Aside0.mk H;clear H;have j4 : 0 ≤ (z2 : Int):=of_decide_eq_true as_;have j5 : z2 < (z1.length : Int):=of_decide_eq_true as_;obtain ⟨r5,e192,r6⟩:=Kd.at_int (Kd.R_reads' j1.out).2.2 z2 j4 j5;cases e192;replace j4:=eq_true j4;replace j5:=eq_true j5;go_wp2;go_roundg k1
        case measure => have:=HK1.out;omega
        case rel => exact ⟨(j3),(wrap64 (z2 + 1)),es_,H',⟨by have:=HK1.out;omega⟩,⟨ra_ r1.out⟩,⟨ra_ j1.out⟩,⟨bk_ z0.out⟩,⟨hb_⟩⟩
      ·rw [if_neg c18] at H
       exact absurd H (by simp)
     ·rw [if_neg c17] at H
      exact absurd H (by simp)
    ·rw [if_neg c16] at H
     have m0 : decide (z2 < (z1.length : Int)) = false:=decide_eq_false c16;clear c16
     obtain rfl:=Option.some.inj H
     go_wp2;go_ret;exact ⟨_,er_,by (with_reducible repeat (first | apply Kd.R_alloc | apply Kd.R_drewN | apply Kd.R_drew));exact Kd.R_mono r1.out (fun _ hk => trivial),hb_⟩

end Go.Proofs.Ytcldlljnaijmhaa.Pr
namespace Go.Proofs.Ytcldlljnaijmhaa.Pr
open Go.RowKit Go.Proofs.YtcldlljnaijmhaaW.PrintWords Go.Proofs.YtcldlljnaijmhaaW.PrintLast Go.Proofs.YtcldlljnaijmhaaW.PrintMore
attribute [local go_sem] max2_int min2_int max_two min_two max_three min_three max_four min_four
set_option linter.unusedVariables false
set_option linter.unusedSimpArgs false

set_option maxHeartbeats 8000000 in
set_option maxRecDepth 100000 in
theorem spec_l20Hits.calls (A0 : Option Addr) (c0 : Nat) (l0 : List Int) (a1 : Int) (a2 : Int) (a3 : Int) (r : Bool) (w : World) (hr0 : Kd.C (Kd.int .i64) w A0 l0.length l0) (hc0 : l0.length ≤ c0) (h : spec_l20Hits.f l0 a1 a2 a3 = some r) :
   Calls Try.prog 51 #[.slice A0 l0.length c0,.int .i64 a1,.int .i64 a2,.int .i64 a3] w fun e w' => e = .returned (.bool r) ∧ Drawn0 w w':=by
  have HR0:=Aside0.mk hr0;have HC0:=Aside0.mk hc0;clear hr0 hc0;have H : (if 0 ≤ a1 then (if a1 < (l0.length : Int) then (if (rd l0 a1) = a3 then (some true) else (if a1 > 0 then (if 0 ≤ (wrap64 (a1 - 1)) then (if (wrap64 (a1 - 1)) < (l0.length : Int) then (if (rd l0 (wrap64 (a1 - 1))) = a3 then (some ((rd l0 a1) == a2)) else (some false)) else (none)) else (none)) else (some false))) else (none)) else (none)) = some r:=h;clear h;by_cases c5 : 0 ≤ a1
  ·rw [if_pos c5] at H
   have j9 : decide (0 ≤ a1) = true:=decide_eq_true c5;clear c5;by_cases c6 : a1 < (l0.length : Int)
   ·rw [if_pos c6] at H
    have r0 : decide (a1 < (l0.length : Int)) = true:=decide_eq_true c6;clear c6;by_cases c7 : (rd l0 a1) = a3
    ·rw [if_pos c7] at H
     have j3 : ((rd l0 a1) == a3) = true:=beq_iff_eq.mpr c7;have j4 : ((rd l0 a1) != a3) = false:=bne_eq_false_iff_eq.mpr c7;clear c7
     obtain rfl:=Option.some.inj H
     have z0 : 0 ≤ (a1 : Int):=of_decide_eq_true as_;have z1 : a1 < (l0.length : Int):=of_decide_eq_true as_;obtain ⟨z2,e147,z5⟩:=Kd.at_int HR0.out a1 z0 z1;cases e147;replace z0:=eq_true z0;replace z1:=eq_true z1;go_enter Try.func51,Try.ntmps51;go_wp2;go_ret;exact ⟨es_,by repeat (first | exact Drawn0.refl _ | apply Drawn0.step)⟩
    ·rw [if_neg c7] at H
     have j3 : ((rd l0 a1) == a3) = false:=beq_eq_false_iff_ne.mpr c7;have j4 : ((rd l0 a1) != a3) = true:=bne_iff_ne.mpr c7;by_cases c8 : a1 > 0
     ·rw [if_pos c8] at H
      have j5 : decide (0 < a1) = true:=decide_eq_true c8;clear c8;obtain ⟨ji9,hji9⟩ : ∃ j_ : Int,(wrap64 (a1 - 1)) = j_:=⟨_,rfl⟩;(replace H : (if 0 ≤ (ji9) then (if (ji9) < (l0.length : Int) then (if (rd l0 (ji9)) = a3 then (some ((rd l0 a1) == a2)) else (some false)) else (none)) else (none)) = some r:=by first | (rw [hji9] at H;exact H) | (simp only [hji9] at H ⊢;exact H));have hji9w : (IntKind.i64.wrap (a1 - 1)) = ji9:=(i64_w _).trans hji9;by_cases c10 : 0 ≤ (ji9)
      ·rw [if_pos c10] at H
       have j7 : decide (0 ≤ (ji9)) = true:=decide_eq_true c10;clear c10;by_cases c11 : (ji9) < (l0.length : Int)
       ·rw [if_pos c11] at H
        have j8 : decide ((ji9) < (l0.length : Int)) = true:=decide_eq_true c11;clear c11;by_cases c12 : (rd l0 (ji9)) = a3
        ·rw [if_pos c12] at H
         have j0 : ((rd l0 (ji9)) == a3) = true:=beq_iff_eq.mpr c12;have j1 : ((rd l0 (ji9)) != a3) = false:=bne_eq_false_iff_eq.mpr c12;clear c12
         obtain rfl:=Option.some.inj H
         have z0 : 0 ≤ (a1 : Int):=of_decide_eq_true as_;have z1 : a1 < (l0.length : Int):=of_decide_eq_true as_;obtain ⟨z2,e147,z5⟩:=Kd.at_int HR0.out a1 z0 z1;cases e147;replace z0:=eq_true z0;replace z1:=eq_true z1;have z3 : 0 ≤ ((ji9) : Int):=of_decide_eq_true as_;have z4 : (ji9) < (l0.length : Int):=of_decide_eq_true as_;obtain ⟨z6,e148,z9⟩:=Kd.at_int HR0.out (ji9) z3 z4
         obtain rfl : z2 = z6:=(by injection e148)
         replace z3:=eq_true z3;replace z4:=eq_true z4;have z7 : 0 ≤ (a1 : Int):=of_decide_eq_true as_;have z8 : a1 < (l0.length : Int):=of_decide_eq_true as_;obtain ⟨j2,e149,j6⟩:=Kd.at_int HR0.out a1 z7 z8
         obtain rfl : z2 = j2:=(by injection e149)
         replace z7:=eq_true z7;replace z8:=eq_true z8;go_enter Try.func51,Try.ntmps51;go_wp2;go_ret;exact ⟨by first | rfl | (simp;done) | (simp only [← hji9] <;> (first | rfl | simp)) | (simp [*];done),by repeat (first | exact Drawn0.refl _ | apply Drawn0.step)⟩
        ·rw [if_neg c12] at H
         have j0 : ((rd l0 (ji9)) == a3) = false:=beq_eq_false_iff_ne.mpr c12;have j1 : ((rd l0 (ji9)) != a3) = true:=bne_iff_ne.mpr c12
         obtain rfl:=Option.some.inj H
         have z0 : 0 ≤ (a1 : Int):=of_decide_eq_true as_;have z1 : a1 < (l0.length : Int):=of_decide_eq_true as_;obtain ⟨z2,e147,z5⟩:=Kd.at_int HR0.out a1 z0 z1;cases e147;replace z0:=eq_true z0;replace z1:=eq_true z1;have z3 : 0 ≤ ((ji9) : Int):=of_decide_eq_true as_;have z4 : (ji9) < (l0.length : Int):=of_decide_eq_true as_;obtain ⟨z6,e148,z9⟩:=Kd.at_int HR0.out (ji9) z3 z4
         obtain rfl : z2 = z6:=(by injection e148)
         replace z3:=eq_true z3;replace z4:=eq_true z4;go_enter Try.func51,Try.ntmps51;go_wp2;go_ret;exact ⟨by first | rfl | (simp;done) | (simp only [← hji9] <;> (first | rfl | simp)) | (simp [*];done),by repeat (first | exact Drawn0.refl _ | apply Drawn0.step)⟩
       ·rw [if_neg c11] at H
        exact absurd H (by simp)
      ·rw [if_neg c10] at H
       exact absurd H (by simp)
     ·rw [if_neg c8] at H
      have j5 : decide (0 < a1) = false:=decide_eq_false c8;clear c8
      obtain rfl:=Option.some.inj H
      have z0 : 0 ≤ (a1 : Int):=of_decide_eq_true as_;have z1 : a1 < (l0.length : Int):=of_decide_eq_true as_;obtain ⟨z2,e147,z5⟩:=Kd.at_int HR0.out a1 z0 z1;cases e147;replace z0:=eq_true z0;replace z1:=eq_true z1;go_enter Try.func51,Try.ntmps51;go_wp2;go_ret;exact ⟨es_,by repeat (first | exact Drawn0.refl _ | apply Drawn0.step)⟩
   ·rw [if_neg c6] at H
    exact absurd H (by simp)
  ·rw [if_neg c5] at H
   exact absurd H (by simp)

end Go.Proofs.Ytcldlljnaijmhaa.Pr
