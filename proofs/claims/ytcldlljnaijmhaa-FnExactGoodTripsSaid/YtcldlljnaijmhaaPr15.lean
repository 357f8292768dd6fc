-- Written by this session's own print (wip/tools/mkmp.py) out of the translation. Lean checks it.
import Derived.Test.YtcldlljnaijmhaaPr0
import Derived.Test.YtcldlljnaijmhaaPr13
import Derived.Test.YtcldlljnaijmhaaPr14
import Derived.Test.YtcldlljnaijmhaaPrd1
namespace Go.Proofs.Ytcldlljnaijmhaa.Pr
open Go.RowKit Go.Proofs.YtcldlljnaijmhaaW.PrintWords Go.Proofs.YtcldlljnaijmhaaW.PrintLast Go.Proofs.YtcldlljnaijmhaaW.PrintMore
attribute [local go_sem] max2_int min2_int max_two min_two max_three min_three max_four min_four   -- for this text's walks alone
set_option linter.unusedVariables false
set_option linter.unusedSimpArgs false

set_option maxHeartbeats 8000000 in
set_option maxRecDepth 100000 in
theorem impl_GoodTrips.calls (k : Nat) (a0_0 : Int) (A0_1 : Option Addr) (c0_1 : Nat) (l0_1 : List Int) (A1 : Option Addr) (c1 : Nat) (l1 : List (S49)) (r : Bool) (w : World) (hr0_1 : Kd.C (Kd.int .i64) w A0_1 l0_1.length l0_1) (hc0_1 : l0_1.length ≤ c0_1) (hr1 : Kd.C k49 w A1 l1.length l1) (hc1 : l1.length ≤ c1) (h : impl_GoodTrips.f k a0_0 l0_1 l1 = some r) :
   Calls Try.prog 28 #[.agg #[.int .i64 a0_0, .slice A0_1 l0_1.length c0_1], .slice A1 l1.length c1] w fun e w' => e = .returned (.bool r) ∧ Below w.heap.size w w' := by
  have hu39 := Try.underlying39
  have hu49 := Try.underlying49
  have HR0_1 := Aside0.mk hr0_1
  have HC0_1 := Aside0.mk hc0_1
  clear hr0_1 hc0_1
  have HR1 := Aside0.mk hr1
  have HC1 := Aside0.mk hc1
  clear hr1 hc1
  have HB := Aside0.mk (Below.refl w.heap.size w)
  have H : ((impl_GoodCells.f k a0_0 l0_1).bind fun t258 => (if t258 = true then (impl_GoodTrips.j0 k l1 (decide ((l1.length : Int) > 5)) a0_0 l0_1) else (impl_GoodTrips.j0 k l1 true a0_0 l0_1))) = some r := h
  clear h
  have HC3 := Aside0.mk H
  clear H
  go_enter Try.func28, Try.ntmps28
  go_upto_region 1 with (first | ((with_reducible refine gate_dst (N := 2) rfl ?_); (try (refine gate_guard (by rfl) ?_; dsimp only)); refine box_event ?hg (N := 2) ?hd (cs := #[.int .i64 a0_0, .slice A0_1 l0_1.length c0_1]) (t := 39) ?hr ?_; (case hd => rfl); (case hg => rfl); (case hr => first | (go_simp; done) | (go_simp; rfl)); intro gb257 hg w4 hbox hb; have n0_ := Aside0.mk (below_step hb_ hb); have n1_ := Aside0.mk (hbox); have n2_ : Aside0 (w.heap.size ≤ gb257) := gz_; have n3_ : Aside0 (w.heap.size ≤ gb257) := gz_; clear HB; have HB := n0_; have BK257 := n1_; have GW257 := n2_; have GE257 := n3_; clear n0_ n1_ n2_ n3_; clear hb hbox hg))
  (try simp only [Act.put, List.setIfInBounds_toArray, List.set_cons_zero, List.set_cons_succ])
  go_cut [16] (fun v16 wc => ∃ (kq : Nat) (x16_2 : Bool), v16 = .bool x16_2 ∧ Aside0 (impl_GoodTrips.j0 kq l1 x16_2 a0_0 l0_1 = some r) ∧ Aside0 (kq ≤ k) ∧ Aside0 (wc.heap[gb257]? = some (.cells #[.int .i64 a0_0, (.slice A0_1 l0_1.length c0_1)] 39 (0, 0))) ∧ Aside0 (Below w.heap.size w wc))
  case first =>
   have H := HC3.out
   clear HC3
   replace H := Option.bind_eq_some_iff.mp H
   obtain ⟨t258, A50, H⟩ := H
   replace H : (if t258 = true then (impl_GoodTrips.j0 k l1 (decide ((l1.length : Int) > 5)) a0_0 l0_1) else (impl_GoodTrips.j0 k l1 true a0_0 l0_1)) = some r := H
   have A5 := Aside0.mk A50
   clear A50
   by_cases c6 : t258 = true
   ·subst c6
    rw [if_pos rfl] at H
    have H' := Aside0.mk H
    clear H
    have hcz7_0 : w4.cell? ⟨gb257, 0, none⟩ = some (.int .i64 a0_0) := (blk_cell BK257.out 0).trans rfl
    have hcz7_1 : w4.cell? ⟨gb257, 1, none⟩ = some (.slice A0_1 l0_1.length c0_1) := (blk_cell BK257.out 1).trans rfl
    have hfz7_0 := blk_frozen BK257.out 0
    have hfz7_1 := blk_frozen BK257.out 1
    go_wp2_with (first | ((with_reducible refine gate_callee (f := 54) rfl ?_); refine goesL_ (some 10) rfl rfl Try.func54 (by kernel_rfl) rfl #[.agg #[.int .i64 a0_0, .slice A0_1 l0_1.length c0_1]] rfl ls_ ?_; (with_reducible refine (impl_GoodCells.calls k a0_0 _ _ l0_1 true _ ?side1 ?side2 A5.out).mono ?_); (case side1 => exact cb_ HR0_1.out); (case side2 => exact HC0_1.out); rintro e w8 ⟨rfl, hb⟩; refine ⟨_, rfl, ?_⟩; have n0_ := bb_ BK257 hb; have n1_ := Aside0.mk (below_step hb_ hb); clear BK257; clear HB; have BK257 := n0_; have HB := n1_; clear n0_ n1_; (try clear hb); (try clear hb2); (try clear hk); (try clear hi)))
    go_meet
    case rel => exact ⟨_, (decide ((l1.length : Int) > 5)), es_, H', ⟨by first | omega | exact Nat.le_refl _⟩, ⟨bk_ BK257.out⟩, ⟨hb_⟩⟩
   ·replace c6 := Bool.eq_false_iff.mpr c6
    subst c6
    rw [if_neg (show ¬ (false = true) by decide)] at H
    have H' := Aside0.mk H
    clear H
    have hcz9_0 : w4.cell? ⟨gb257, 0, none⟩ = some (.int .i64 a0_0) := (blk_cell BK257.out 0).trans rfl
    have hcz9_1 : w4.cell? ⟨gb257, 1, none⟩ = some (.slice A0_1 l0_1.length c0_1) := (blk_cell BK257.out 1).trans rfl
    have hfz9_0 := blk_frozen BK257.out 0
    have hfz9_1 := blk_frozen BK257.out 1
    go_wp2_with (first | ((with_reducible refine gate_callee (f := 54) rfl ?_); refine goesL_ (some 10) rfl rfl Try.func54 (by kernel_rfl) rfl #[.agg #[.int .i64 a0_0, .slice A0_1 l0_1.length c0_1]] rfl ls_ ?_; (with_reducible refine (impl_GoodCells.calls k a0_0 _ _ l0_1 false _ ?side1 ?side2 A5.out).mono ?_); (case side1 => exact cb_ HR0_1.out); (case side2 => exact HC0_1.out); rintro e w10 ⟨rfl, hb⟩; refine ⟨_, rfl, ?_⟩; have n0_ := bb_ BK257 hb; have n1_ := Aside0.mk (below_step hb_ hb); clear BK257; clear HB; have BK257 := n0_; have HB := n1_; clear n0_ n1_; (try clear hb); (try clear hb2); (try clear hk); (try clear hi)))
    go_meet
    case rel => exact ⟨_, (true), es_, H', ⟨by first | omega | exact Nat.le_refl _⟩, ⟨bk_ BK257.out⟩, ⟨hb_⟩⟩
  case rest =>
   clear HC3
   try clear c1
   try clear c2
   try clear p2
   try clear c5
   try clear c6
   try clear hcz7_0
   try clear hcz7_1
   try clear hcz9_0
   try clear hcz9_1
   try clear hfz7_0
   try clear hfz7_1
   try clear hfz9_0
   try clear hfz9_1
   obtain ⟨kq, x16_2, rfl, HA, HJ2, BK257, HB⟩ := hcut
   cases kq with
   | zero => exact absurd HA.out (by simp [impl_GoodTrips.j0])
   | succ kj2 =>
    have H := HA.out
    clear HA
    simp only [impl_GoodTrips.j0] at H
    by_cases c11 : x16_2 = true
    ·subst c11
     rw [if_pos rfl] at H
     obtain rfl := Option.some.inj H
     go_wp2
     go_ret
     exact ⟨er_, hb_⟩
    ·replace c11 := Bool.eq_false_iff.mpr c11
     subst c11
     rw [if_neg (show ¬ (false = true) by decide)] at H
     have H' := Aside0.mk H
     clear H
     go_wp2
     go_loopg [19] kj2 (fun kq v19 w' => ∃ (x19_2 : Int), v19 = .int .i64 x19_2 ∧ Aside0 (impl_GoodTrips.l0 kq l1 l1 (l1.length : Int) x19_2 a0_0 l0_1 = some r) ∧ Aside0 (kq ≤ kj2) ∧ Aside0 (w'.heap[gb257]? = some (.cells #[.int .i64 a0_0, (.slice A0_1 l0_1.length c0_1)] 39 (0, 0))) ∧ Aside0 (Below w.heap.size w w'))
     case atStart => exact ⟨(0), es_, H', ⟨Nat.le_refl _⟩, ⟨bk_ BK257.out⟩, ⟨hb_⟩⟩
     case round =>
      clear H'
      try clear c1
      try clear c2
      try clear p2
      try clear c5
      try clear c6
      try clear c11
      try clear hcz7_0
      try clear hcz7_1
      try clear hcz9_0
      try clear hcz9_1
      try clear hfz7_0
      try clear hfz7_1
      try clear hfz9_0
      try clear hfz9_1
      try clear p2
      obtain ⟨x19_2, rfl, HA, HK2, BK257, HB⟩ := hrel
      cases gk with
      | zero => exact absurd HA.out (by simp [impl_GoodTrips.l0])
      | succ k2 =>
       have H := HA.out
       clear HA
       simp only [impl_GoodTrips.l0] at H
       by_cases c12 : x19_2 < (l1.length : Int)
       ·rw [if_pos c12] at H
        have c12b0 : decide (x19_2 < (l1.length : Int)) = true := decide_eq_true c12
        clear c12
        by_cases c13 : 0 ≤ x19_2
        ·rw [if_pos c13] at H
         have c13b0 : decide (0 ≤ x19_2) = true := decide_eq_true c13
         clear c13
         by_cases c14 : x19_2 < (l1.length : Int)
         ·rw [if_pos c14] at H
          have c14b0 : decide (x19_2 < (l1.length : Int)) = true := decide_eq_true c14
          clear c14
          have HC15 := Aside0.mk H
          clear H
          have p259 : 0 ≤ (x19_2 : Int) := of_decide_eq_true as_
          have q259 : x19_2 < (l1.length : Int) := of_decide_eq_true as_
          obtain ⟨ad259, e259, hx259_0, hx259_1⟩ := at_T49 HR1.out x19_2 p259 q259
          cases e259
          replace hx259_0 := hc_ HB hx259_0
          replace hx259_1 := hc_ HB hx259_1
          replace p259 := eq_true p259
          replace q259 := eq_true q259
          go_upto_region 6 with (first | ((with_reducible refine gate_dst (N := 6) rfl ?_); (try (refine gate_guard (by rfl) ?_; dsimp only)); refine box_event ?hg (N := 6) ?hd (cs := #[.int .i64 0, .int .i64 0]) (t := 49) ?hr ?_; (case hd => rfl); (case hg => rfl); (case hr => first | (go_simp; done) | (go_simp; rfl)); intro gb260 hg w16 hbox hb; have n0_ := bb_ BK257 hb; have n1_ := Aside0.mk (below_step hb_ hb); have n2_ := Aside0.mk (hbox); have n3_ : Aside0 (w.heap.size ≤ gb260) := gz_; have n4_ : Aside0 (w.heap.size ≤ gb260) := gz_; have n5_ := Aside0.mk ((by rw [hg]; exact Nat.ne_of_lt (blk_lt (g := gb257) (o := .cells #[.int .i64 a0_0, .slice A0_1 l0_1.length c0_1] 39 (0, 0)) (bk_ BK257.out)) : gb257 ≠ gb260)); have n6_ := Aside0.mk ((by rw [hg]; exact Nat.ne_of_gt (blk_lt (g := gb257) (o := .cells #[.int .i64 a0_0, .slice A0_1 l0_1.length c0_1] 39 (0, 0)) (bk_ BK257.out)) : gb260 ≠ gb257)); clear BK257; clear HB; have BK257 := n0_; have HB := n1_; have BK260 := n2_; have GW260 := n3_; have GE260 := n4_; have NB257_260 := n5_; have NB260_257 := n6_; clear n0_ n1_ n2_ n3_ n4_ n5_ n6_; clear hb hbox hg; have hnb17 := NB260_257.out; have hnc17 := NB257_260.out; have hcz18_0 : w16.cell? ⟨gb260, 0, none⟩ = some (.int .i64 0) := (blk_cell BK260.out 0).trans rfl; have hcz18_1 : w16.cell? ⟨gb260, 1, none⟩ = some (.int .i64 0) := (blk_cell BK260.out 1).trans rfl; have hfz18_0 := blk_frozen BK260.out 0; have hfz18_1 := blk_frozen BK260.out 1))
          (try simp only [Act.put, List.setIfInBounds_toArray, List.set_cons_zero, List.set_cons_succ])
          go_cut [35] (fun v35 wc => ∃ (kq : Nat) (x35_14 : Bool), v35 = .bool x35_14 ∧ Aside0 (impl_GoodTrips.j2 kq l1 x19_2 l1 (l1.length : Int) x19_2 x35_14 a0_0 l0_1 ((rd_T49 l1 x19_2).f0) ((rd_T49 l1 x19_2).f1) = some r) ∧ Aside0 (kq ≤ k2) ∧ Aside0 (wc.heap[gb257]? = some (.cells #[.int .i64 a0_0, (.slice A0_1 l0_1.length c0_1)] 39 (0, 0))) ∧ Aside0 (wc.heap[gb260]? = some (.cells #[.int .i64 ((rd_T49 l1 x19_2).f0), .int .i64 ((rd_T49 l1 x19_2).f1)] 49 (0, 0))) ∧ Aside0 (Below w.heap.size w wc))
          case first =>
           have H := HC15.out
           clear HC15
           replace H := Option.bind_eq_some_iff.mp H
           obtain ⟨t261, A190, H⟩ := H
           replace H : (if t261 = true then ((impl_Cells_free.f a0_0 l0_1 ((rd_T49 l1 x19_2).f1)).bind fun t262 => (impl_GoodTrips.j2 k2 l1 x19_2 l1 (l1.length : Int) x19_2 (!t262) a0_0 l0_1 ((rd_T49 l1 x19_2).f0) ((rd_T49 l1 x19_2).f1))) else (impl_GoodTrips.j2 k2 l1 x19_2 l1 (l1.length : Int) x19_2 true a0_0 l0_1 ((rd_T49 l1 x19_2).f0) ((rd_T49 l1 x19_2).f1))) = some r := H
           have A19 := Aside0.mk A190
           clear A190
           by_cases c20 : t261 = true
           ·subst c20
            rw [if_pos rfl] at H
            replace H := Option.bind_eq_some_iff.mp H
            obtain ⟨t262, A210, H⟩ := H
            replace H : (impl_GoodTrips.j2 k2 l1 x19_2 l1 (l1.length : Int) x19_2 (!t262) a0_0 l0_1 ((rd_T49 l1 x19_2).f0) ((rd_T49 l1 x19_2).f1)) = some r := H
            have A21 := Aside0.mk A210
            clear A210
            have H' := Aside0.mk H
            clear H
            have hnb22 := NB257_260.out
            have hnc22 := NB260_257.out
            have hcz23_0 : w16.cell? ⟨gb257, 0, none⟩ = some (.int .i64 a0_0) := (blk_cell BK257.out 0).trans rfl
            have hcz23_1 : w16.cell? ⟨gb257, 1, none⟩ = some (.slice A0_1 l0_1.length c0_1) := (blk_cell BK257.out 1).trans rfl
            have hfz23_0 := blk_frozen BK257.out 0
            have hfz23_1 := blk_frozen BK257.out 1
            have hcz24_0 : w16.cell? ⟨gb260, 0, none⟩ = some (.int .i64 0) := (blk_cell BK260.out 0).trans rfl
            have hcz24_1 : w16.cell? ⟨gb260, 1, none⟩ = some (.int .i64 0) := (blk_cell BK260.out 1).trans rfl
            have hfz24_0 := blk_frozen BK260.out 0
            have hfz24_1 := blk_frozen BK260.out 1
            go_wp2_with (first | ((with_reducible refine gate_callee (f := 55) rfl ?_); refine goesL_ (some 27) rfl rfl Try.func55 (by kernel_rfl) rfl #[.agg #[.int .i64 a0_0, .slice A0_1 l0_1.length c0_1], .int .i64 ((rd_T49 l1 x19_2).f0)] rfl ls_ ?_; (with_reducible refine (impl_Cells_free.calls a0_0 _ _ l0_1 ((rd_T49 l1 x19_2).f0) true _ ?side1 ?side2 A19.out).mono ?_); (case side1 => exact Kd.C_below HR0_1.out hb_); (case side2 => exact HC0_1.out); rintro e w25 ⟨rfl, hb⟩; refine ⟨_, rfl, ?_⟩; have n0_ := Aside0.mk (blk_below (g := gb257) (o := .cells #[.int .i64 a0_0, .slice A0_1 l0_1.length c0_1] 39 (0, 0)) (by (with_reducible repeat (first | refine blk_drewN ?_ _ | refine blk_drew ?_ | refine blk_alloc ?_ _)); refine blk_far ?_ NB257_260.out _; (with_reducible repeat (first | refine blk_drewN ?_ _ | refine blk_drew ?_ | refine blk_alloc ?_ _)); refine blk_far ?_ NB257_260.out _; (with_reducible repeat (first | refine blk_drewN ?_ _ | refine blk_drew ?_ | refine blk_alloc ?_ _)); exact BK257.out) hb); have n1_ := Aside0.mk (blk_below (g := gb260) (o := .cells #[.int .i64 ((rd_T49 l1 x19_2).f0), .int .i64 ((rd_T49 l1 x19_2).f1)] 49 (0, 0)) (by (with_reducible repeat (first | refine blk_drewN ?_ _ | refine blk_drew ?_ | refine blk_alloc ?_ _)); refine blk_put (cs := #[.int .i64 ((rd_T49 l1 x19_2).f0), .int .i64 0]) ?_ 1 _ rfl; (with_reducible repeat (first | refine blk_drewN ?_ _ | refine blk_drew ?_ | refine blk_alloc ?_ _)); refine blk_put (cs := #[.int .i64 0, .int .i64 0]) ?_ 0 _ rfl; (with_reducible repeat (first | refine blk_drewN ?_ _ | refine blk_drew ?_ | refine blk_alloc ?_ _)); exact BK260.out) hb); have n2_ := Aside0.mk (below_step hb_ hb); clear BK257; clear BK260; clear HB; have BK257 := n0_; have BK260 := n1_; have HB := n2_; clear n0_ n1_ n2_; (try clear hb); (try clear hb2); (try clear hk); (try clear hi); have hcz26_0 : w25.cell? ⟨gb257, 0, none⟩ = some (.int .i64 a0_0) := (blk_cell BK257.out 0).trans rfl; have hcz26_1 : w25.cell? ⟨gb257, 1, none⟩ = some (.slice A0_1 l0_1.length c0_1) := (blk_cell BK257.out 1).trans rfl; have hfz26_0 := blk_frozen BK257.out 0; have hfz26_1 := blk_frozen BK257.out 1; have hcz27_0 : w25.cell? ⟨gb260, 0, none⟩ = some (.int .i64 ((rd_T49 l1 x19_2).f0)) := (blk_cell BK260.out 0).trans rfl; have hcz27_1 : w25.cell? ⟨gb260, 1, none⟩ = some (.int .i64 ((rd_T49 l1 x19_2).f1)) := (blk_cell BK260.out 1).trans rfl; have hfz27_0 := blk_frozen BK260.out 0; have hfz27_1 := blk_frozen BK260.out 1) | (go_at_call 55; (with_reducible refine (impl_Cells_free.calls a0_0 _ _ l0_1 ((rd_T49 l1 x19_2).f1) t262 _ ?side1 ?side2 A21.out).mono ?_); (case side1 => exact cb_ HR0_1.out); (case side2 => exact HC0_1.out); rintro e w28 ⟨rfl, hb⟩; have n0_ := bb_ BK257 hb; have n1_ := bb_ BK260 hb; have n2_ := Aside0.mk (below_step hb_ hb); clear BK257; clear BK260; clear HB; have BK257 := n0_; have BK260 := n1_; have HB := n2_; clear n0_ n1_ n2_; (try clear hb); (try clear hb2); (try clear hk); (try clear hi)))
            go_meet
            case rel => exact ⟨_, (!t262), es_, H', ⟨by have := HJ2.out; have := HK2.out; first | omega | exact Nat.le_refl _⟩, ⟨bk_ BK257.out⟩, ⟨bk_ BK260.out⟩, ⟨hb_⟩⟩
           ·replace c20 := Bool.eq_false_iff.mpr c20
            subst c20
            rw [if_neg (show ¬ (false = true) by decide)] at H
            have H' := Aside0.mk H
            clear H
            have hnb29 := NB257_260.out
            have hnc29 := NB260_257.out
            have hcz30_0 : w16.cell? ⟨gb257, 0, none⟩ = some (.int .i64 a0_0) := (blk_cell BK257.out 0).trans rfl
            have hcz30_1 : w16.cell? ⟨gb257, 1, none⟩ = some (.slice A0_1 l0_1.length c0_1) := (blk_cell BK257.out 1).trans rfl
            have hfz30_0 := blk_frozen BK257.out 0
            have hfz30_1 := blk_frozen BK257.out 1
            have hcz31_0 : w16.cell? ⟨gb260, 0, none⟩ = some (.int .i64 0) := (blk_cell BK260.out 0).trans rfl
            have hcz31_1 : w16.cell? ⟨gb260, 1, none⟩ = some (.int .i64 0) := (blk_cell BK260.out 1).trans rfl
            have hfz31_0 := blk_frozen BK260.out 0
            have hfz31_1 := blk_frozen BK260.out 1
            go_wp2_with (first | ((with_reducible refine gate_callee (f := 55) rfl ?_); refine goesL_ (some 27) rfl rfl Try.func55 (by kernel_rfl) rfl #[.agg #[.int .i64 a0_0, .slice A0_1 l0_1.length c0_1], .int .i64 ((rd_T49 l1 x19_2).f0)] rfl ls_ ?_; (with_reducible refine (impl_Cells_free.calls a0_0 _ _ l0_1 ((rd_T49 l1 x19_2).f0) false _ ?side1 ?side2 A19.out).mono ?_); (case side1 => exact Kd.C_below HR0_1.out hb_); (case side2 => exact HC0_1.out); rintro e w32 ⟨rfl, hb⟩; refine ⟨_, rfl, ?_⟩; have n0_ := Aside0.mk (blk_below (g := gb257) (o := .cells #[.int .i64 a0_0, .slice A0_1 l0_1.length c0_1] 39 (0, 0)) (by (with_reducible repeat (first | refine blk_drewN ?_ _ | refine blk_drew ?_ | refine blk_alloc ?_ _)); refine blk_far ?_ NB257_260.out _; (with_reducible repeat (first | refine blk_drewN ?_ _ | refine blk_drew ?_ | refine blk_alloc ?_ _)); refine blk_far ?_ NB257_260.out _; (with_reducible repeat (first | refine blk_drewN ?_ _ | refine blk_drew ?_ | refine blk_alloc ?_ _)); exact BK257.out) hb); have n1_ := Aside0.mk (blk_below (g := gb260) (o := .cells #[.int .i64 ((rd_T49 l1 x19_2).f0), .int .i64 ((rd_T49 l1 x19_2).f1)] 49 (0, 0)) (by (with_reducible repeat (first | refine blk_drewN ?_ _ | refine blk_drew ?_ | refine blk_alloc ?_ _)); refine blk_put (cs := #[.int .i64 ((rd_T49 l1 x19_2).f0), .int .i64 0]) ?_ 1 _ rfl; (with_reducible repeat (first | refine blk_drewN ?_ _ | refine blk_drew ?_ | refine blk_alloc ?_ _)); refine blk_put (cs := #[.int .i64 0, .int .i64 0]) ?_ 0 _ rfl; (with_reducible repeat (first | refine blk_drewN ?_ _ | refine blk_drew ?_ | refine blk_alloc ?_ _)); exact BK260.out) hb); have n2_ := Aside0.mk (below_step hb_ hb); clear BK257; clear BK260; clear HB; have BK257 := n0_; have BK260 := n1_; have HB := n2_; clear n0_ n1_ n2_; (try clear hb); (try clear hb2); (try clear hk); (try clear hi)))
            go_meet
            case rel => exact ⟨_, (true), es_, H', ⟨by have := HJ2.out; have := HK2.out; first | omega | exact Nat.le_refl _⟩, ⟨bk_ BK257.out⟩, ⟨bk_ BK260.out⟩, ⟨hb_⟩⟩
          case rest =>
           clear HC15
           try clear c1
           try clear c2
           try clear p2
           try clear q2
           try clear hx2
           try clear c5
           try clear c6
           try clear c11
           try clear c12
           try clear c12b0
           try clear c13
           try clear c13b0
           try clear c14
           try clear c14b0
           try clear c17
           try clear c20
           try clear c22
           try clear p25
           try clear q25
           try clear hx25
           try clear c28
           try clear c29
           try clear hcz18_0
           try clear hcz18_1
           try clear hcz23_0
           try clear hcz23_1
           try clear hcz24_0
           try clear hcz24_1
           try clear hcz26_0
           try clear hcz26_1
           try clear hcz27_0
           try clear hcz27_1
           try clear hcz30_0
           try clear hcz30_1
           try clear hcz31_0
           try clear hcz31_1
           try clear hcz7_0
           try clear hcz7_1
           try clear hcz9_0
           try clear hcz9_1
           try clear hfz18_0
           try clear hfz18_1
           try clear hfz23_0
           try clear hfz23_1
           try clear hfz24_0
           try clear hfz24_1
           try clear hfz26_0
           try clear hfz26_1
           try clear hfz27_0
           try clear hfz27_1
           try clear hfz30_0
           try clear hfz30_1
           try clear hfz31_0
           try clear hfz31_1
           try clear hfz7_0
           try clear hfz7_1
           try clear hfz9_0
           try clear hfz9_1
           try clear hx259_0
           try clear hx259_1
           try clear p2
           try clear p259
           try clear q259
           obtain ⟨kq, x35_14, rfl, HA, HJ14, BK257, BK260, HB⟩ := hcut
           cases kq with
           | zero => exact absurd HA.out (by simp [impl_GoodTrips.j2])
           | succ kj14 =>
            have H := HA.out
            clear HA
            simp only [impl_GoodTrips.j2] at H
            by_cases c33 : x35_14 = true
            ·subst c33
             rw [if_pos rfl] at H
             obtain rfl := Option.some.inj H
             go_wp2
             go_ret
             exact ⟨er_, hb_⟩
            ·replace c33 := Bool.eq_false_iff.mpr c33
             subst c33
             rw [if_neg (show ¬ (false = true) by decide)] at H
             by_cases c34 : 0 ≤ x19_2
             ·rw [if_pos c34] at H
              have c34b0 := eq_true c34
              have c34b1 : decide (0 ≤ x19_2) = true := decide_eq_true c34
              clear c34
              by_cases c35 : x19_2 ≤ (l1.length : Int)
              ·rw [if_pos c35] at H
               have c35b0 := eq_true c35
               have c35b1 : decide (x19_2 ≤ (l1.length : Int)) = true := decide_eq_true c35
               clear c35
               obtain ⟨y263, hy263⟩ : ∃ y_ : List (S49), y_ = (l1.take (x19_2 : Int).toNat) := ⟨_, rfl⟩
               replace H : (impl_GoodTrips.l1 kj14 l1 l1 (l1.length : Int) x19_2 y263 (y263.length : Int) 0 a0_0 l0_1 ((rd_T49 l1 x19_2).f0) ((rd_T49 l1 x19_2).f1)) = some r := by first | (rw [hy263]; with_reducible exact H) | (have H2_ := (Option.bind_some _ _).symm.trans H; rw [hy263]; with_reducible exact H2_) | (have H2_ := (Option.bind_some _ _).symm.trans H; with_reducible exact H2_) | with_reducible exact H | (rw [hy263]; exact H) | exact H
               have Ny263 := Aside0.mk hy263
               clear hy263
               have H' := Aside0.mk H
               clear H
               have q36 : (x19_2 : Int) ≤ ((l1.length : Int) : Int) := of_decide_eq_true as_
               obtain ⟨i036, hi036, _, hsz36, _⟩ := info_parts info49
               have hroom36 : l1.length ≤ c1 := HC1.out
               have hC36 : Kd.C k49 _ (some ad259) l1.length l1 := HR1.out
               have hcut36 := cut_to (P := Try.prog) 41 49 .i64 Try.underlying41 hi036 (some ad259) l1.length c1 x19_2 (of_decide_eq_true as_) q36 hroom36
               have hr36 := Kd.C_take (m := (x19_2 : Int).toNat) hC36 (by omega)
               have hy36 : y263.length = (x19_2 : Int).toNat := (by rw [Ny263.out, List.length_take]; omega)
               rw [← Ny263.out] at hr36
               rw [← hy36] at hcut36
               have HR266 := Aside0.mk hr36
               have HC266 := Aside0.mk (show y263.length ≤ c1 from by omega)
               clear hr36 hC36 hroom36 hi036 hsz36
               have KY36 := Aside0.mk hy36
               clear hy36
               replace q36 := eq_true q36
               go_wp2
               go_loopg [40] kj14 (fun kq v40 w' => ∃ (x40_4 : Int), v40 = .int .i64 x40_4 ∧ Aside0 (impl_GoodTrips.l1 kq l1 l1 (l1.length : Int) x19_2 y263 (y263.length : Int) x40_4 a0_0 l0_1 ((rd_T49 l1 x19_2).f0) ((rd_T49 l1 x19_2).f1) = some r) ∧ Aside0 (kq ≤ kj14) ∧ Aside0 (w'.heap[gb257]? = some (.cells #[.int .i64 a0_0, (.slice A0_1 l0_1.length c0_1)] 39 (0, 0))) ∧ Aside0 (w'.heap[gb260]? = some (.cells #[.int .i64 ((rd_T49 l1 x19_2).f0), .int .i64 ((rd_T49 l1 x19_2).f1)] 49 (0, 0))) ∧ Aside0 (Below w.heap.size w w'))
               case atStart => exact ⟨(0), es_, H', ⟨Nat.le_refl _⟩, ⟨bk_ BK257.out⟩, ⟨bk_ BK260.out⟩, ⟨hb_⟩⟩
               case round =>
                clear H'
                try clear c1
                try clear c2
                try clear p2
                try clear q2
                try clear hx2
                try clear c3
                try clear q3
                try clear c5
                try clear c6
                try clear c11
                try clear c12
                try clear c12b0
                try clear c13
                try clear c13b0
                try clear c14
                try clear c14b0
                try clear c17
                try clear c20
                try clear c22
                try clear p25
                try clear q25
                try clear hx25
                try clear c28
                try clear c29
                try clear c33
                try clear c34
                try clear c34b0
                try clear c34b1
                try clear c35
                try clear c35b0
                try clear c35b1
                try clear q36
                try clear hcz18_0
                try clear hcz18_1
                try clear hcz23_0
                try clear hcz23_1
                try clear hcz24_0
                try clear hcz24_1
                try clear hcz26_0
                try clear hcz26_1
                try clear hcz27_0
                try clear hcz27_1
                try clear hcz30_0
                try clear hcz30_1
                try clear hcz31_0
                try clear hcz31_1
                try clear hcz7_0
                try clear hcz7_1
                try clear hcz9_0
                try clear hcz9_1
                try clear hfz18_0
                try clear hfz18_1
                try clear hfz23_0
                try clear hfz23_1
                try clear hfz24_0
                try clear hfz24_1
                try clear hfz26_0
                try clear hfz26_1
                try clear hfz27_0
                try clear hfz27_1
                try clear hfz30_0
                try clear hfz30_1
                try clear hfz31_0
                try clear hfz31_1
                try clear hfz7_0
                try clear hfz7_1
                try clear hfz9_0
                try clear hfz9_1
                try clear hx259_0
                try clear hx259_1
                try clear p2
                try clear p25
                try clear p259
                try clear q2
                try clear q25
                try clear q259
                try clear q36
                obtain ⟨x40_4, rfl, HA, HK4, BK257, BK260, HB⟩ := hrel
                cases gk with
                | zero => exact absurd HA.out (by simp [impl_GoodTrips.l1])
                | succ k4 =>
                 have H := HA.out
                 clear HA
                 simp only [impl_GoodTrips.l1] at H
                 by_cases c37 : x40_4 < (y263.length : Int)
                 ·rw [if_pos c37] at H
                  have c37b0 : decide (x40_4 < (y263.length : Int)) = true := decide_eq_true c37
                  clear c37
                  by_cases c38 : 0 ≤ x40_4
                  ·rw [if_pos c38] at H
                   have c38b0 : decide (0 ≤ x40_4) = true := decide_eq_true c38
                   clear c38
                   by_cases c39 : x40_4 < (y263.length : Int)
                   ·rw [if_pos c39] at H
                    have c39b0 : decide (x40_4 < (y263.length : Int)) = true := decide_eq_true c39
                    clear c39
                    by_cases c40 : ((rd_T49 y263 x40_4).f0) = ((rd_T49 l1 x19_2).f0)
                    ·rw [if_pos c40] at H
                     have c40b0 : (((rd_T49 y263 x40_4).f0) == ((rd_T49 l1 x19_2).f0)) = true := beq_iff_eq.mpr c40
                     have c40b1 : (((rd_T49 y263 x40_4).f0) != ((rd_T49 l1 x19_2).f0)) = false := bne_eq_false_iff_eq.mpr c40
                     clear c40
                     obtain rfl := Option.some.inj H
                     have p267 : 0 ≤ (x40_4 : Int) := of_decide_eq_true as_
                     have q267 : x40_4 < (y263.length : Int) := of_decide_eq_true as_
                     obtain ⟨ad267, e267, hx267_0, hx267_1⟩ := at_T49 HR266.out x40_4 p267 q267
                     obtain rfl : ad259 = ad267 := (by injection e267)
                     replace hx267_0 := hc_ HB hx267_0
                     replace hx267_1 := hc_ HB hx267_1
                     replace p267 := eq_true p267
                     replace q267 := eq_true q267
                     go_wp2_with (first | ((with_reducible refine gate_dst (N := 8) rfl ?_); (try (refine gate_guard (by rfl) ?_; dsimp only)); refine box_event ?hg (N := 8) ?hd (cs := #[.int .i64 0, .int .i64 0]) (t := 49) ?hr ?_; (case hd => rfl); (case hg => rfl); (case hr => first | (go_simp; done) | (go_simp; rfl)); intro gb268 hg w41 hbox hb; have n0_ := bb_ BK257 hb; have n1_ := bb_ BK260 hb; have n2_ := Aside0.mk (below_step hb_ hb); have n3_ := Aside0.mk (hbox); have n4_ : Aside0 (w.heap.size ≤ gb268) := gz_; have n5_ : Aside0 (w.heap.size ≤ gb268) := gz_; have n6_ := Aside0.mk ((by rw [hg]; exact Nat.ne_of_lt (blk_lt (g := gb257) (o := .cells #[.int .i64 a0_0, .slice A0_1 l0_1.length c0_1] 39 (0, 0)) (bk_ BK257.out)) : gb257 ≠ gb268)); have n7_ := Aside0.mk ((by rw [hg]; exact Nat.ne_of_gt (blk_lt (g := gb257) (o := .cells #[.int .i64 a0_0, .slice A0_1 l0_1.length c0_1] 39 (0, 0)) (bk_ BK257.out)) : gb268 ≠ gb257)); have n8_ := Aside0.mk ((by rw [hg]; exact Nat.ne_of_lt (blk_lt (g := gb260) (o := .cells #[.int .i64 ((rd_T49 l1 x19_2).f0), .int .i64 ((rd_T49 l1 x19_2).f1)] 49 (0, 0)) (bk_ BK260.out)) : gb260 ≠ gb268)); have n9_ := Aside0.mk ((by rw [hg]; exact Nat.ne_of_gt (blk_lt (g := gb260) (o := .cells #[.int .i64 ((rd_T49 l1 x19_2).f0), .int .i64 ((rd_T49 l1 x19_2).f1)] 49 (0, 0)) (bk_ BK260.out)) : gb268 ≠ gb260)); clear BK257; clear BK260; clear HB; have BK257 := n0_; have BK260 := n1_; have HB := n2_; have BK268 := n3_; have GW268 := n4_; have GE268 := n5_; have NB257_268 := n6_; have NB268_257 := n7_; have NB260_268 := n8_; have NB268_260 := n9_; clear n0_ n1_ n2_ n3_ n4_ n5_ n6_ n7_ n8_ n9_; clear hb hbox hg; have hnb42 := NB268_257.out; have hnc42 := NB257_268.out; have hnb43 := NB268_260.out; have hnc43 := NB260_268.out; have hcz44_0 : w41.cell? ⟨gb268, 0, none⟩ = some (.int .i64 0) := (blk_cell BK268.out 0).trans rfl; have hcz44_1 : w41.cell? ⟨gb268, 1, none⟩ = some (.int .i64 0) := (blk_cell BK268.out 1).trans rfl; have hfz44_0 := blk_frozen BK268.out 0; have hfz44_1 := blk_frozen BK268.out 1; have hnb45 := NB260_257.out; have hnc45 := NB257_260.out; have hcz46_0 : w41.cell? ⟨gb260, 0, none⟩ = some (.int .i64 ((rd_T49 l1 x19_2).f0)) := (blk_cell BK260.out 0).trans rfl; have hcz46_1 : w41.cell? ⟨gb260, 1, none⟩ = some (.int .i64 ((rd_T49 l1 x19_2).f1)) := (blk_cell BK260.out 1).trans rfl; have hfz46_0 := blk_frozen BK260.out 0; have hfz46_1 := blk_frozen BK260.out 1))
                     go_ret
                     exact ⟨er_, hb_⟩
                    ·rw [if_neg c40] at H
                     have c40b0 : (((rd_T49 y263 x40_4).f0) == ((rd_T49 l1 x19_2).f0)) = false := beq_eq_false_iff_ne.mpr c40
                     have c40b1 : (((rd_T49 y263 x40_4).f0) != ((rd_T49 l1 x19_2).f0)) = true := bne_iff_ne.mpr c40
                     by_cases c47 : ((rd_T49 y263 x40_4).f1) = ((rd_T49 l1 x19_2).f1)
                     ·rw [if_pos c47] at H
                      have c47b0 : (((rd_T49 y263 x40_4).f1) == ((rd_T49 l1 x19_2).f1)) = true := beq_iff_eq.mpr c47
                      have c47b1 : (((rd_T49 y263 x40_4).f1) != ((rd_T49 l1 x19_2).f1)) = false := bne_eq_false_iff_eq.mpr c47
                      clear c47
                      obtain rfl := Option.some.inj H
                      have p267 : 0 ≤ (x40_4 : Int) := of_decide_eq_true as_
                      have q267 : x40_4 < (y263.length : Int) := of_decide_eq_true as_
                      obtain ⟨ad267, e267, hx267_0, hx267_1⟩ := at_T49 HR266.out x40_4 p267 q267
                      obtain rfl : ad259 = ad267 := (by injection e267)
                      replace hx267_0 := hc_ HB hx267_0
                      replace hx267_1 := hc_ HB hx267_1
                      replace p267 := eq_true p267
                      replace q267 := eq_true q267
                      go_wp2_with (first | ((with_reducible refine gate_dst (N := 8) rfl ?_); (try (refine gate_guard (by rfl) ?_; dsimp only)); refine box_event ?hg (N := 8) ?hd (cs := #[.int .i64 0, .int .i64 0]) (t := 49) ?hr ?_; (case hd => rfl); (case hg => rfl); (case hr => first | (go_simp; done) | (go_simp; rfl)); intro gb268 hg w48 hbox hb; have n0_ := bb_ BK257 hb; have n1_ := bb_ BK260 hb; have n2_ := Aside0.mk (below_step hb_ hb); have n3_ := Aside0.mk (hbox); have n4_ : Aside0 (w.heap.size ≤ gb268) := gz_; have n5_ : Aside0 (w.heap.size ≤ gb268) := gz_; have n6_ := Aside0.mk ((by rw [hg]; exact Nat.ne_of_lt (blk_lt (g := gb257) (o := .cells #[.int .i64 a0_0, .slice A0_1 l0_1.length c0_1] 39 (0, 0)) (bk_ BK257.out)) : gb257 ≠ gb268)); have n7_ := Aside0.mk ((by rw [hg]; exact Nat.ne_of_gt (blk_lt (g := gb257) (o := .cells #[.int .i64 a0_0, .slice A0_1 l0_1.length c0_1] 39 (0, 0)) (bk_ BK257.out)) : gb268 ≠ gb257)); have n8_ := Aside0.mk ((by rw [hg]; exact Nat.ne_of_lt (blk_lt (g := gb260) (o := .cells #[.int .i64 ((rd_T49 l1 x19_2).f0), .int .i64 ((rd_T49 l1 x19_2).f1)] 49 (0, 0)) (bk_ BK260.out)) : gb260 ≠ gb268)); have n9_ := Aside0.mk ((by rw [hg]; exact Nat.ne_of_gt (blk_lt (g := gb260) (o := .cells #[.int .i64 ((rd_T49 l1 x19_2).f0), .int .i64 ((rd_T49 l1 x19_2).f1)] 49 (0, 0)) (bk_ BK260.out)) : gb268 ≠ gb260)); clear BK257; clear BK260; clear HB; have BK257 := n0_; have BK260 := n1_; have HB := n2_; have BK268 := n3_; have GW268 := n4_; have GE268 := n5_; have NB257_268 := n6_; have NB268_257 := n7_; have NB260_268 := n8_; have NB268_260 := n9_; clear n0_ n1_ n2_ n3_ n4_ n5_ n6_ n7_ n8_ n9_; clear hb hbox hg; have hnb49 := NB268_257.out; have hnc49 := NB257_268.out; have hnb50 := NB268_260.out; have hnc50 := NB260_268.out; have hcz51_0 : w48.cell? ⟨gb268, 0, none⟩ = some (.int .i64 0) := (blk_cell BK268.out 0).trans rfl; have hcz51_1 : w48.cell? ⟨gb268, 1, none⟩ = some (.int .i64 0) := (blk_cell BK268.out 1).trans rfl; have hfz51_0 := blk_frozen BK268.out 0; have hfz51_1 := blk_frozen BK268.out 1; have hnb52 := NB260_257.out; have hnc52 := NB257_260.out; have hcz53_0 : w48.cell? ⟨gb260, 0, none⟩ = some (.int .i64 ((rd_T49 l1 x19_2).f0)) := (blk_cell BK260.out 0).trans rfl; have hcz53_1 : w48.cell? ⟨gb260, 1, none⟩ = some (.int .i64 ((rd_T49 l1 x19_2).f1)) := (blk_cell BK260.out 1).trans rfl; have hfz53_0 := blk_frozen BK260.out 0; have hfz53_1 := blk_frozen BK260.out 1))
                      go_ret
                      exact ⟨er_, hb_⟩
                     ·rw [if_neg c47] at H
                      have c47b0 : (((rd_T49 y263 x40_4).f1) == ((rd_T49 l1 x19_2).f1)) = false := beq_eq_false_iff_ne.mpr c47
                      have c47b1 : (((rd_T49 y263 x40_4).f1) != ((rd_T49 l1 x19_2).f1)) = true := bne_iff_ne.mpr c47
                      have H' := Aside0.mk H
                      clear H
                      have p267 : 0 ≤ (x40_4 : Int) := of_decide_eq_true as_
                      have q267 : x40_4 < (y263.length : Int) := of_decide_eq_true as_
                      obtain ⟨ad267, e267, hx267_0, hx267_1⟩ := at_T49 HR266.out x40_4 p267 q267
                      obtain rfl : ad259 = ad267 := (by injection e267)
                      replace hx267_0 := hc_ HB hx267_0
                      replace hx267_1 := hc_ HB hx267_1
                      replace p267 := eq_true p267
                      replace q267 := eq_true q267
                      go_wp2_with (first | ((with_reducible refine gate_dst (N := 8) rfl ?_); (try (refine gate_guard (by rfl) ?_; dsimp only)); refine box_event ?hg (N := 8) ?hd (cs := #[.int .i64 0, .int .i64 0]) (t := 49) ?hr ?_; (case hd => rfl); (case hg => rfl); (case hr => first | (go_simp; done) | (go_simp; rfl)); intro gb268 hg w54 hbox hb; have n0_ := bb_ BK257 hb; have n1_ := bb_ BK260 hb; have n2_ := Aside0.mk (below_step hb_ hb); have n3_ := Aside0.mk (hbox); have n4_ : Aside0 (w.heap.size ≤ gb268) := gz_; have n5_ : Aside0 (w.heap.size ≤ gb268) := gz_; have n6_ := Aside0.mk ((by rw [hg]; exact Nat.ne_of_lt (blk_lt (g := gb257) (o := .cells #[.int .i64 a0_0, .slice A0_1 l0_1.length c0_1] 39 (0, 0)) (bk_ BK257.out)) : gb257 ≠ gb268)); have n7_ := Aside0.mk ((by rw [hg]; exact Nat.ne_of_gt (blk_lt (g := gb257) (o := .cells #[.int .i64 a0_0, .slice A0_1 l0_1.length c0_1] 39 (0, 0)) (bk_ BK257.out)) : gb268 ≠ gb257)); have n8_ := Aside0.mk ((by rw [hg]; exact Nat.ne_of_lt (blk_lt (g := gb260) (o := .cells #[.int .i64 ((rd_T49 l1 x19_2).f0), .int .i64 ((rd_T49 l1 x19_2).f1)] 49 (0, 0)) (bk_ BK260.out)) : gb260 ≠ gb268)); have n9_ := Aside0.mk ((by rw [hg]; exact Nat.ne_of_gt (blk_lt (g := gb260) (o := .cells #[.int .i64 ((rd_T49 l1 x19_2).f0), .int .i64 ((rd_T49 l1 x19_2).f1)] 49 (0, 0)) (bk_ BK260.out)) : gb268 ≠ gb260)); clear BK257; clear BK260; clear HB; have BK257 := n0_; have BK260 := n1_; have HB := n2_; have BK268 := n3_; have GW268 := n4_; have GE268 := n5_; have NB257_268 := n6_; have NB268_257 := n7_; have NB260_268 := n8_; have NB268_260 := n9_; clear n0_ n1_ n2_ n3_ n4_ n5_ n6_ n7_ n8_ n9_; clear hb hbox hg; have hnb55 := NB268_257.out; have hnc55 := NB257_268.out; have hnb56 := NB268_260.out; have hnc56 := NB260_268.out; have hcz57_0 : w54.cell? ⟨gb268, 0, none⟩ = some (.int .i64 0) := (blk_cell BK268.out 0).trans rfl; have hcz57_1 : w54.cell? ⟨gb268, 1, none⟩ = some (.int .i64 0) := (blk_cell BK268.out 1).trans rfl; have hfz57_0 := blk_frozen BK268.out 0; have hfz57_1 := blk_frozen BK268.out 1; have hnb58 := NB260_257.out; have hnc58 := NB257_260.out; have hcz59_0 : w54.cell? ⟨gb260, 0, none⟩ = some (.int .i64 ((rd_T49 l1 x19_2).f0)) := (blk_cell BK260.out 0).trans rfl; have hcz59_1 : w54.cell? ⟨gb260, 1, none⟩ = some (.int .i64 ((rd_T49 l1 x19_2).f1)) := (blk_cell BK260.out 1).trans rfl; have hfz59_0 := blk_frozen BK260.out 0; have hfz59_1 := blk_frozen BK260.out 1))
                      go_roundg k4
                      case measure => have := HJ2.out; have := HK2.out; have := HJ14.out; have := HK4.out; omega
                      case rel => exact ⟨(wrap64 (x40_4 + 1)), es_, H', ⟨by have := HJ2.out; have := HK2.out; have := HJ14.out; have := HK4.out; omega⟩, ⟨by (with_reducible repeat (first | refine blk_drewN ?_ _ | refine blk_drew ?_ | refine blk_alloc ?_ _)); refine blk_far ?_ NB257_268.out _; (with_reducible repeat (first | refine blk_drewN ?_ _ | refine blk_drew ?_ | refine blk_alloc ?_ _)); refine blk_far ?_ NB257_268.out _; (with_reducible repeat (first | refine blk_drewN ?_ _ | refine blk_drew ?_ | refine blk_alloc ?_ _)); exact BK257.out⟩, ⟨by (with_reducible repeat (first | refine blk_drewN ?_ _ | refine blk_drew ?_ | refine blk_alloc ?_ _)); refine blk_far ?_ NB260_268.out _; (with_reducible repeat (first | refine blk_drewN ?_ _ | refine blk_drew ?_ | refine blk_alloc ?_ _)); refine blk_far ?_ NB260_268.out _; (with_reducible repeat (first | refine blk_drewN ?_ _ | refine blk_drew ?_ | refine blk_alloc ?_ _)); exact BK260.out⟩, ⟨hb_⟩⟩
                   ·rw [if_neg c39] at H
                    exact absurd H (by simp)
                  ·rw [if_neg c38] at H
                   exact absurd H (by simp)
                 ·rw [if_neg c37] at H
                  have c37b0 : decide (x40_4 < (y263.length : Int)) = false := decide_eq_false c37
                  clear c37
                  have H' := Aside0.mk H
                  clear H
                  go_wp2
                  go_roundg k4
                  case measure => have := HJ2.out; have := HK2.out; have := HJ14.out; have := HK4.out; omega
                  case rel => exact ⟨(wrap64 (x19_2 + 1)), es_, H', ⟨by have := HJ2.out; have := HK2.out; have := HJ14.out; have := HK4.out; omega⟩, ⟨bk_ BK257.out⟩, ⟨hb_⟩⟩
              ·rw [if_neg c35] at H
               exact absurd H (by simp)
             ·rw [if_neg c34] at H
              exact absurd H (by simp)
         ·rw [if_neg c14] at H
          exact absurd H (by simp)
        ·rw [if_neg c13] at H
         exact absurd H (by simp)
       ·rw [if_neg c12] at H
        have c12b0 : decide (x19_2 < (l1.length : Int)) = false := decide_eq_false c12
        clear c12
        obtain rfl := Option.some.inj H
        go_wp2
        go_ret
        exact ⟨er_, hb_⟩

end Go.Proofs.Ytcldlljnaijmhaa.Pr
