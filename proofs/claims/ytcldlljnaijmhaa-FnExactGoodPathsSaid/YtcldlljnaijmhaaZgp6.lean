-- Joined and pruned by wip/tools/prune.py out of this session's own texts (Pr14, Pr15, HdAlong, Prd2, Pr22, HAlong, Pr23)
import Derived.Test.YtcldlljnaijmhaaZgp5
-- Written by this session's own print (wip/tools/mkmp.py) out of the translation. Lean checks it.
namespace Go.Proofs.Ytcldlljnaijmhaa.Pr
open Go.RowKit Go.Proofs.YtcldlljnaijmhaaW.PrintWords Go.Proofs.YtcldlljnaijmhaaW.PrintLast Go.Proofs.YtcldlljnaijmhaaW.PrintMore
attribute [local go_sem] max2_int min2_int max_two min_two max_three min_three max_four min_four   -- for this text's walks alone
set_option linter.unusedVariables false
set_option linter.unusedSimpArgs false

set_option maxHeartbeats 8000000 in
set_option maxRecDepth 100000 in
theorem impl_Cells_free.calls (a0_0 : Int) (A0_1 : Option Addr) (c0_1 : Nat) (l0_1 : List Int) (a1 : Int) (r : Bool) (w : World) (hr0_1 : Kd.C (Kd.int .i64) w A0_1 l0_1.length l0_1) (hc0_1 : l0_1.length ≤ c0_1) (h : impl_Cells_free.f a0_0 l0_1 a1 = some r) :
   Calls Try.prog 55 #[.agg #[.int .i64 a0_0, .slice A0_1 l0_1.length c0_1], .int .i64 a1] w fun e w' => e = .returned (.bool r) ∧ Below w.heap.size w w' := by
  have hu39 := Try.underlying39
  have HR0_1 := Aside0.mk hr0_1
  have HC0_1 := Aside0.mk hc0_1
  clear hr0_1 hc0_1
  have HB := Aside0.mk (Below.refl w.heap.size w)
  have H : (if a1 ≥ 0 then (if a1 < (l0_1.length : Int) then (if 0 ≤ a1 then (some ((rd l0_1 a1) == 0)) else (none)) else (some false)) else (some false)) = some r := h
  clear h
  by_cases c3 : a1 ≥ 0
  ·rw [if_pos c3] at H
   have c3b0 : decide (0 ≤ a1) = true := decide_eq_true c3
   clear c3
   by_cases c4 : a1 < (l0_1.length : Int)
   ·rw [if_pos c4] at H
    have c4b0 : decide (a1 < (l0_1.length : Int)) = true := decide_eq_true c4
    clear c4
    by_cases c5 : 0 ≤ a1
    ·rw [if_pos c5] at H
     have c5b0 : decide (0 ≤ a1) = true := decide_eq_true c5
     clear c5
     obtain rfl := Option.some.inj H
     go_enter Try.func55, Try.ntmps55
     go_wp2_with (first | ((with_reducible refine gate_dst (N := 2) rfl ?_); (try (refine gate_guard (by rfl) ?_; dsimp only)); refine box_event ?hg (N := 2) ?hd (cs := #[.int .i64 a0_0, .slice A0_1 l0_1.length c0_1]) (t := 39) ?hr ?_; (case hd => rfl); (case hg => rfl); (case hr => first | (go_simp; done) | (go_simp; rfl)); intro gb255 hg w6 hbox hb; have n0_ := Aside0.mk (below_step hb_ hb); have n1_ := Aside0.mk (hbox); have n2_ : Aside0 (w.heap.size ≤ gb255) := gz_; have n3_ : Aside0 (w.heap.size ≤ gb255) := gz_; clear HB; have HB := n0_; have BK255 := n1_; have GW255 := n2_; have GE255 := n3_; clear n0_ n1_ n2_ n3_; clear hb hbox hg; have hcz7_0 : w6.cell? ⟨gb255, 0, none⟩ = some (.int .i64 a0_0) := (blk_cell BK255.out 0).trans rfl; have hcz7_1 : w6.cell? ⟨gb255, 1, none⟩ = some (.slice A0_1 l0_1.length c0_1) := (blk_cell BK255.out 1).trans rfl; have hfz7_0 := blk_frozen BK255.out 0; have hfz7_1 := blk_frozen BK255.out 1; have p256 : 0 ≤ (a1 : Int) := of_decide_eq_true as_; have q256 : a1 < (l0_1.length : Int) := of_decide_eq_true as_; obtain ⟨ad256, e256, hx256_0⟩ := Kd.at_int HR0_1.out a1 p256 q256; cases e256; replace hx256_0 := hc_ HB hx256_0; replace p256 := eq_true p256; replace q256 := eq_true q256))
     go_ret
     exact ⟨er_, hb_⟩
    ·rw [if_neg c5] at H
     exact absurd H (by simp)
   ·rw [if_neg c4] at H
    have c4b0 : decide (a1 < (l0_1.length : Int)) = false := decide_eq_false c4
    clear c4
    obtain rfl := Option.some.inj H
    go_enter Try.func55, Try.ntmps55
    go_wp2_with (first | ((with_reducible refine gate_dst (N := 2) rfl ?_); (try (refine gate_guard (by rfl) ?_; dsimp only)); refine box_event ?hg (N := 2) ?hd (cs := #[.int .i64 a0_0, .slice A0_1 l0_1.length c0_1]) (t := 39) ?hr ?_; (case hd => rfl); (case hg => rfl); (case hr => first | (go_simp; done) | (go_simp; rfl)); intro gb255 hg w8 hbox hb; have n0_ := Aside0.mk (below_step hb_ hb); have n1_ := Aside0.mk (hbox); have n2_ : Aside0 (w.heap.size ≤ gb255) := gz_; have n3_ : Aside0 (w.heap.size ≤ gb255) := gz_; clear HB; have HB := n0_; have BK255 := n1_; have GW255 := n2_; have GE255 := n3_; clear n0_ n1_ n2_ n3_; clear hb hbox hg; have hcz9_0 : w8.cell? ⟨gb255, 0, none⟩ = some (.int .i64 a0_0) := (blk_cell BK255.out 0).trans rfl; have hcz9_1 : w8.cell? ⟨gb255, 1, none⟩ = some (.slice A0_1 l0_1.length c0_1) := (blk_cell BK255.out 1).trans rfl; have hfz9_0 := blk_frozen BK255.out 0; have hfz9_1 := blk_frozen BK255.out 1))
    go_ret
    exact ⟨er_, hb_⟩
  ·rw [if_neg c3] at H
   have c3b0 : decide (0 ≤ a1) = false := decide_eq_false c3
   clear c3
   obtain rfl := Option.some.inj H
   go_enter Try.func55, Try.ntmps55
   go_wp2_with (first | ((with_reducible refine gate_dst (N := 2) rfl ?_); (try (refine gate_guard (by rfl) ?_; dsimp only)); refine box_event ?hg (N := 2) ?hd (cs := #[.int .i64 a0_0, .slice A0_1 l0_1.length c0_1]) (t := 39) ?hr ?_; (case hd => rfl); (case hg => rfl); (case hr => first | (go_simp; done) | (go_simp; rfl)); intro gb255 hg w10 hbox hb; have n0_ := Aside0.mk (below_step hb_ hb); have n1_ := Aside0.mk (hbox); have n2_ : Aside0 (w.heap.size ≤ gb255) := gz_; have n3_ : Aside0 (w.heap.size ≤ gb255) := gz_; clear HB; have HB := n0_; have BK255 := n1_; have GW255 := n2_; have GE255 := n3_; clear n0_ n1_ n2_ n3_; clear hb hbox hg))
   go_ret
   exact ⟨er_, hb_⟩

end Go.Proofs.Ytcldlljnaijmhaa.Pr
-- Written by this session's own print (wip/tools/mkmp.py) out of the translation. Lean checks it.
namespace Go.Proofs.Ytcldlljnaijmhaa.Pr
open Go.RowKit Go.Proofs.YtcldlljnaijmhaaW.PrintWords Go.Proofs.YtcldlljnaijmhaaW.PrintLast Go.Proofs.YtcldlljnaijmhaaW.PrintMore
attribute [local go_sem] max2_int min2_int max_two min_two max_three min_three max_four min_four   -- for this text's walks alone
set_option linter.unusedVariables false
set_option linter.unusedSimpArgs false

set_option maxHeartbeats 8000000 in
set_option maxRecDepth 100000 in
theorem impl_GoodTrips.calls (k : Nat) (a0_0 : Int) (A0_1 : Option Addr) (c0_1 : Nat) (l0_1 : List Int) (A1 : Option Addr) (c1 : Nat) (l1 : List (S49)) (r : Bool) (w : World) (hr0_1 : Kd.C (Kd.int .i64) w A0_1 l0_1.length l0_1) (hc0_1 : l0_1.length ≤ c0_1) (hr1 : Kd.C k49 w A1 l1.length l1) (hc1 : l1.length ≤ c1) (h : impl_GoodTrips.f k a0_0 l0_1 l1 = some r) :
   Calls Try.prog 28 #[.agg #[.int .i64 a0_0, .slice A0_1 l0_1.length c0_1], .slice A1 l1.length c1] w fun e w' => e = .returned (.bool r) ∧ Below w.heap.size w w' := by
  have hu39 := Try.underlying39
  have hu49 := Try.underlying49
  have HR0_1 := Aside0.mk hr0_1
  have HC0_1 := Aside0.mk hc0_1
  clear hr0_1 hc0_1
  have HR1 := Aside0.mk hr1
  have HC1 := Aside0.mk hc1
  clear hr1 hc1
  have HB := Aside0.mk (Below.refl w.heap.size w)
  have H : ((impl_GoodCells.f k a0_0 l0_1).bind fun t258 => (if t258 = true then (impl_GoodTrips.j0 k l1 (decide ((l1.length : Int) > 5)) a0_0 l0_1) else (impl_GoodTrips.j0 k l1 true a0_0 l0_1))) = some r := h
  clear h
  have HC3 := Aside0.mk H
  clear H
  go_enter Try.func28, Try.ntmps28
  go_upto_region 1 with (first | ((with_reducible refine gate_dst (N := 2) rfl ?_); (try (refine gate_guard (by rfl) ?_; dsimp only)); refine box_event ?hg (N := 2) ?hd (cs := #[.int .i64 a0_0, .slice A0_1 l0_1.length c0_1]) (t := 39) ?hr ?_; (case hd => rfl); (case hg => rfl); (case hr => first | (go_simp; done) | (go_simp; rfl)); intro gb257 hg w4 hbox hb; have n0_ := Aside0.mk (below_step hb_ hb); have n1_ := Aside0.mk (hbox); have n2_ : Aside0 (w.heap.size ≤ gb257) := gz_; have n3_ : Aside0 (w.heap.size ≤ gb257) := gz_; clear HB; have HB := n0_; have BK257 := n1_; have GW257 := n2_; have GE257 := n3_; clear n0_ n1_ n2_ n3_; clear hb hbox hg))
  (try simp only [Act.put, List.setIfInBounds_toArray, List.set_cons_zero, List.set_cons_succ])
  go_cut [16] (fun v16 wc => ∃ (kq : Nat) (x16_2 : Bool), v16 = .bool x16_2 ∧ Aside0 (impl_GoodTrips.j0 kq l1 x16_2 a0_0 l0_1 = some r) ∧ Aside0 (kq ≤ k) ∧ Aside0 (wc.heap[gb257]? = some (.cells #[.int .i64 a0_0, (.slice A0_1 l0_1.length c0_1)] 39 (0, 0))) ∧ Aside0 (Below w.heap.size w wc))
  case first =>
   have H := HC3.out
   clear HC3
   replace H := Option.bind_eq_some_iff.mp H
   obtain ⟨t258, A50, H⟩ := H
   replace H : (if t258 = true then (impl_GoodTrips.j0 k l1 (decide ((l1.length : Int) > 5)) a0_0 l0_1) else (impl_GoodTrips.j0 k l1 true a0_0 l0_1)) = some r := H
   have A5 := Aside0.mk A50
   clear A50
   by_cases c6 : t258 = true
   ·subst c6
    rw [if_pos rfl] at H
    have H' := Aside0.mk H
    clear H
    have hcz7_0 : w4.cell? ⟨gb257, 0, none⟩ = some (.int .i64 a0_0) := (blk_cell BK257.out 0).trans rfl
    have hcz7_1 : w4.cell? ⟨gb257, 1, none⟩ = some (.slice A0_1 l0_1.length c0_1) := (blk_cell BK257.out 1).trans rfl
    have hfz7_0 := blk_frozen BK257.out 0
    have hfz7_1 := blk_frozen BK257.out 1
    go_wp2_with (first | ((with_reducible refine gate_callee (f := 54) rfl ?_); refine goesL_ (some 10) rfl rfl Try.func54 (by kernel_rfl) rfl #[.agg #[.int .i64 a0_0, .slice A0_1 l0_1.length c0_1]] rfl ls_ ?_; (with_reducible refine (impl_GoodCells.calls k a0_0 _ _ l0_1 true _ ?side1 ?side2 A5.out).mono ?_); (case side1 => exact cb_ HR0_1.out); (case side2 => exact HC0_1.out); rintro e w8 ⟨rfl, hb⟩; refine ⟨_, rfl, ?_⟩; have n0_ := bb_ BK257 hb; have n1_ := Aside0.mk (below_step hb_ hb); clear BK257; clear HB; have BK257 := n0_; have HB := n1_; clear n0_ n1_; (try clear hb); (try clear hb2); (try clear hk); (try clear hi)))
    go_meet
    case rel => exact ⟨_, (decide ((l1.length : Int) > 5)), es_, H', ⟨by first | omega | exact Nat.le_refl _⟩, ⟨bk_ BK257.out⟩, ⟨hb_⟩⟩
   ·replace c6 := Bool.eq_false_iff.mpr c6
    subst c6
    rw [if_neg (show ¬ (false = true) by decide)] at H
    have H' := Aside0.mk H
    clear H
    have hcz9_0 : w4.cell? ⟨gb257, 0, none⟩ = some (.int .i64 a0_0) := (blk_cell BK257.out 0).trans rfl
    have hcz9_1 : w4.cell? ⟨gb257, 1, none⟩ = some (.slice A0_1 l0_1.length c0_1) := (blk_cell BK257.out 1).trans rfl
    have hfz9_0 := blk_frozen BK257.out 0
    have hfz9_1 := blk_frozen BK257.out 1
    go_wp2_with (first | ((with_reducible refine gate_callee (f := 54) rfl ?_); refine goesL_ (some 10) rfl rfl Try.func54 (by kernel_rfl) rfl #[.agg #[.int .i64 a0_0, .slice A0_1 l0_1.length c0_1]] rfl ls_ ?_; (with_reducible refine (impl_GoodCells.calls k a0_0 _ _ l0_1 false _ ?side1 ?side2 A5.out).mono ?_); (case side1 => exact cb_ HR0_1.out); (case side2 => exact HC0_1.out); rintro e w10 ⟨rfl, hb⟩; refine ⟨_, rfl, ?_⟩; have n0_ := bb_ BK257 hb; have n1_ := Aside0.mk (below_step hb_ hb); clear BK257; clear HB; have BK257 := n0_; have HB := n1_; clear n0_ n1_; (try clear hb); (try clear hb2); (try clear hk); (try clear hi)))
    go_meet
    case rel => exact ⟨_, (true), es_, H', ⟨by first | omega | exact Nat.le_refl _⟩, ⟨bk_ BK257.out⟩, ⟨hb_⟩⟩
  case rest =>
   clear HC3
   try clear c1
   try clear c2
   try clear p2
   try clear c5
   try clear c6
   try clear hcz7_0
   try clear hcz7_1
   try clear hcz9_0
   try clear hcz9_1
   try clear hfz7_0
   try clear hfz7_1
   try clear hfz9_0
   try clear hfz9_1
   obtain ⟨kq, x16_2, rfl, HA, HJ2, BK257, HB⟩ := hcut
   cases kq with
   | zero => exact absurd HA.out (by simp [impl_GoodTrips.j0])
   | succ kj2 =>
    have H := HA.out
    clear HA
    simp only [impl_GoodTrips.j0] at H
    by_cases c11 : x16_2 = true
    ·subst c11
     rw [if_pos rfl] at H
     obtain rfl := Option.some.inj H
     go_wp2
     go_ret
     exact ⟨er_, hb_⟩
    ·replace c11 := Bool.eq_false_iff.mpr c11
     subst c11
     rw [if_neg (show ¬ (false = true) by decide)] at H
     have H' := Aside0.mk H
     clear H
     go_wp2
     go_loopg [19] kj2 (fun kq v19 w' => ∃ (x19_2 : Int), v19 = .int .i64 x19_2 ∧ Aside0 (impl_GoodTrips.l0 kq l1 l1 (l1.length : Int) x19_2 a0_0 l0_1 = some r) ∧ Aside0 (kq ≤ kj2) ∧ Aside0 (w'.heap[gb257]? = some (.cells #[.int .i64 a0_0, (.slice A0_1 l0_1.length c0_1)] 39 (0, 0))) ∧ Aside0 (Below w.heap.size w w'))
     case atStart => exact ⟨(0), es_, H', ⟨Nat.le_refl _⟩, ⟨bk_ BK257.out⟩, ⟨hb_⟩⟩
     case round =>
      clear H'
      try clear c1
      try clear c2
      try clear p2
      try clear c5
      try clear c6
      try clear c11
      try clear hcz7_0
      try clear hcz7_1
      try clear hcz9_0
      try clear hcz9_1
      try clear hfz7_0
      try clear hfz7_1
      try clear hfz9_0
      try clear hfz9_1
      try clear p2
      obtain ⟨x19_2, rfl, HA, HK2, BK257, HB⟩ := hrel
      cases gk with
      | zero => exact absurd HA.out (by simp [impl_GoodTrips.l0])
      | succ k2 =>
       have H := HA.out
       clear HA
       simp only [impl_GoodTrips.l0] at H
       by_cases c12 : x19_2 < (l1.length : Int)
       ·rw [if_pos c12] at H
        have c12b0 : decide (x19_2 < (l1.length : Int)) = true := decide_eq_true c12
        clear c12
        by_cases c13 : 0 ≤ x19_2
        ·rw [if_pos c13] at H
         have c13b0 : decide (0 ≤ x19_2) = true := decide_eq_true c13
         clear c13
         by_cases c14 : x19_2 < (l1.length : Int)
         ·rw [if_pos c14] at H
          have c14b0 : decide (x19_2 < (l1.length : Int)) = true := decide_eq_true c14
          clear c14
          have HC15 := Aside0.mk H
          clear H
          have p259 : 0 ≤ (x19_2 : Int) := of_decide_eq_true as_
          have q259 : x19_2 < (l1.length : Int) := of_decide_eq_true as_
          obtain ⟨ad259, e259, hx259_0, hx259_1⟩ := at_T49 HR1.out x19_2 p259 q259
          cases e259
          replace hx259_0 := hc_ HB hx259_0
          replace hx259_1 := hc_ HB hx259_1
          replace p259 := eq_true p259
          replace q259 := eq_true q259
          go_upto_region 6 with (first | ((with_reducible refine gate_dst (N := 6) rfl ?_); (try (refine gate_guard (by rfl) ?_; dsimp only)); refine box_event ?hg (N := 6) ?hd (cs := #[.int .i64 0, .int .i64 0]) (t := 49) ?hr ?_; (case hd => rfl); (case hg => rfl); (case hr => first | (go_simp; done) | (go_simp; rfl)); intro gb260 hg w16 hbox hb; have n0_ := bb_ BK257 hb; have n1_ := Aside0.mk (below_step hb_ hb); have n2_ := Aside0.mk (hbox); have n3_ : Aside0 (w.heap.size ≤ gb260) := gz_; have n4_ : Aside0 (w.heap.size ≤ gb260) := gz_; have n5_ := Aside0.mk ((by rw [hg]; exact Nat.ne_of_lt (blk_lt (g := gb257) (o := .cells #[.int .i64 a0_0, .slice A0_1 l0_1.length c0_1] 39 (0, 0)) (bk_ BK257.out)) : gb257 ≠ gb260)); have n6_ := Aside0.mk ((by rw [hg]; exact Nat.ne_of_gt (blk_lt (g := gb257) (o := .cells #[.int .i64 a0_0, .slice A0_1 l0_1.length c0_1] 39 (0, 0)) (bk_ BK257.out)) : gb260 ≠ gb257)); clear BK257; clear HB; have BK257 := n0_; have HB := n1_; have BK260 := n2_; have GW260 := n3_; have GE260 := n4_; have NB257_260 := n5_; have NB260_257 := n6_; clear n0_ n1_ n2_ n3_ n4_ n5_ n6_; clear hb hbox hg; have hnb17 := NB260_257.out; have hnc17 := NB257_260.out; have hcz18_0 : w16.cell? ⟨gb260, 0, none⟩ = some (.int .i64 0) := (blk_cell BK260.out 0).trans rfl; have hcz18_1 : w16.cell? ⟨gb260, 1, none⟩ = some (.int .i64 0) := (blk_cell BK260.out 1).trans rfl; have hfz18_0 := blk_frozen BK260.out 0; have hfz18_1 := blk_frozen BK260.out 1))
          (try simp only [Act.put, List.setIfInBounds_toArray, List.set_cons_zero, List.set_cons_succ])
          go_cut [35] (fun v35 wc => ∃ (kq : Nat) (x35_14 : Bool), v35 = .bool x35_14 ∧ Aside0 (impl_GoodTrips.j2 kq l1 x19_2 l1 (l1.length : Int) x19_2 x35_14 a0_0 l0_1 ((rd_T49 l1 x19_2).f0) ((rd_T49 l1 x19_2).f1) = some r) ∧ Aside0 (kq ≤ k2) ∧ Aside0 (wc.heap[gb257]? = some (.cells #[.int .i64 a0_0, (.slice A0_1 l0_1.length c0_1)] 39 (0, 0))) ∧ Aside0 (wc.heap[gb260]? = some (.cells #[.int .i64 ((rd_T49 l1 x19_2).f0), .int .i64 ((rd_T49 l1 x19_2).f1)] 49 (0, 0))) ∧ Aside0 (Below w.heap.size w wc))
          case first =>
           have H := HC15.out
           clear HC15
           replace H := Option.bind_eq_some_iff.mp H
           obtain ⟨t261, A190, H⟩ := H
           replace H : (if t261 = true then ((impl_Cells_free.f a0_0 l0_1 ((rd_T49 l1 x19_2).f1)).bind fun t262 => (impl_GoodTrips.j2 k2 l1 x19_2 l1 (l1.length : Int) x19_2 (!t262) a0_0 l0_1 ((rd_T49 l1 x19_2).f0) ((rd_T49 l1 x19_2).f1))) else (impl_GoodTrips.j2 k2 l1 x19_2 l1 (l1.length : Int) x19_2 true a0_0 l0_1 ((rd_T49 l1 x19_2).f0) ((rd_T49 l1 x19_2).f1))) = some r := H
           have A19 := Aside0.mk A190
           clear A190
           by_cases c20 : t261 = true
           ·subst c20
            rw [if_pos rfl] at H
            replace H := Option.bind_eq_some_iff.mp H
            obtain ⟨t262, A210, H⟩ := H
            replace H : (impl_GoodTrips.j2 k2 l1 x19_2 l1 (l1.length : Int) x19_2 (!t262) a0_0 l0_1 ((rd_T49 l1 x19_2).f0) ((rd_T49 l1 x19_2).f1)) = some r := H
            have A21 := Aside0.mk A210
            clear A210
            have H' := Aside0.mk H
            clear H
            have hnb22 := NB257_260.out
            have hnc22 := NB260_257.out
            have hcz23_0 : w16.cell? ⟨gb257, 0, none⟩ = some (.int .i64 a0_0) := (blk_cell BK257.out 0).trans rfl
            have hcz23_1 : w16.cell? ⟨gb257, 1, none⟩ = some (.slice A0_1 l0_1.length c0_1) := (blk_cell BK257.out 1).trans rfl
            have hfz23_0 := blk_frozen BK257.out 0
            have hfz23_1 := blk_frozen BK257.out 1
            have hcz24_0 : w16.cell? ⟨gb260, 0, none⟩ = some (.int .i64 0) := (blk_cell BK260.out 0).trans rfl
            have hcz24_1 : w16.cell? ⟨gb260, 1, none⟩ = some (.int .i64 0) := (blk_cell BK260.out 1).trans rfl
            have hfz24_0 := blk_frozen BK260.out 0
            have hfz24_1 := blk_frozen BK260.out 1
            go_wp2_with (first | ((with_reducible refine gate_callee (f := 55) rfl ?_); refine goesL_ (some 27) rfl rfl Try.func55 (by kernel_rfl) rfl #[.agg #[.int .i64 a0_0, .slice A0_1 l0_1.length c0_1], .int .i64 ((rd_T49 l1 x19_2).f0)] rfl ls_ ?_; (with_reducible refine (impl_Cells_free.calls a0_0 _ _ l0_1 ((rd_T49 l1 x19_2).f0) true _ ?side1 ?side2 A19.out).mono ?_); (case side1 => exact Kd.C_below HR0_1.out hb_); (case side2 => exact HC0_1.out); rintro e w25 ⟨rfl, hb⟩; refine ⟨_, rfl, ?_⟩; have n0_ := Aside0.mk (blk_below (g := gb257) (o := .cells #[.int .i64 a0_0, .slice A0_1 l0_1.length c0_1] 39 (0, 0)) (by (with_reducible repeat (first | refine blk_drewN ?_ _ | refine blk_drew ?_ | refine blk_alloc ?_ _)); refine blk_far ?_ NB257_260.out _; (with_reducible repeat (first | refine blk_drewN ?_ _ | refine blk_drew ?_ | refine blk_alloc ?_ _)); refine blk_far ?_ NB257_260.out _; (with_reducible repeat (first | refine blk_drewN ?_ _ | refine blk_drew ?_ | refine blk_alloc ?_ _)); exact BK257.out) hb); have n1_ := Aside0.mk (blk_below (g := gb260) (o := .cells #[.int .i64 ((rd_T49 l1 x19_2).f0), .int .i64 ((rd_T49 l1 x19_2).f1)] 49 (0, 0)) (by (with_reducible repeat (first | refine blk_drewN ?_ _ | refine blk_drew ?_ | refine blk_alloc ?_ _)); refine blk_put (cs := #[.int .i64 ((rd_T49 l1 x19_2).f0), .int .i64 0]) ?_ 1 _ rfl; (with_reducible repeat (first | refine blk_drewN ?_ _ | refine blk_drew ?_ | refine blk_alloc ?_ _)); refine blk_put (cs := #[.int .i64 0, .int .i64 0]) ?_ 0 _ rfl; (with_reducible repeat (first | refine blk_drewN ?_ _ | refine blk_drew ?_ | refine blk_alloc ?_ _)); exact BK260.out) hb); have n2_ := Aside0.mk (below_step hb_ hb); clear BK257; clear BK260; clear HB; have BK257 := n0_; have BK260 := n1_; have HB := n2_; clear n0_ n1_ n2_; (try clear hb); (try clear hb2); (try clear hk); (try clear hi); have hcz26_0 : w25.cell? ⟨gb257, 0, none⟩ = some (.int .i64 a0_0) := (blk_cell BK257.out 0).trans rfl; have hcz26_1 : w25.cell? ⟨gb257, 1, none⟩ = some (.slice A0_1 l0_1.length c0_1) := (blk_cell BK257.out 1).trans rfl; have hfz26_0 := blk_frozen BK257.out 0; have hfz26_1 := blk_frozen BK257.out 1; have hcz27_0 : w25.cell? ⟨gb260, 0, none⟩ = some (.int .i64 ((rd_T49 l1 x19_2).f0)) := (blk_cell BK260.out 0).trans rfl; have hcz27_1 : w25.cell? ⟨gb260, 1, none⟩ = some (.int .i64 ((rd_T49 l1 x19_2).f1)) := (blk_cell BK260.out 1).trans rfl; have hfz27_0 := blk_frozen BK260.out 0; have hfz27_1 := blk_frozen BK260.out 1) | (go_at_call 55; (with_reducible refine (impl_Cells_free.calls a0_0 _ _ l0_1 ((rd_T49 l1 x19_2).f1) t262 _ ?side1 ?side2 A21.out).mono ?_); (case side1 => exact cb_ HR0_1.out); (case side2 => exact HC0_1.out); rintro e w28 ⟨rfl, hb⟩; have n0_ := bb_ BK257 hb; have n1_ := bb_ BK260 hb; have n2_ := Aside0.mk (below_step hb_ hb); clear BK257; clear BK260; clear HB; have BK257 := n0_; have BK260 := n1_; have HB := n2_; clear n0_ n1_ n2_; (try clear hb); (try clear hb2); (try clear hk); (try clear hi)))
            go_meet
            case rel => exact ⟨_, (!t262), es_, H', ⟨by have := HJ2.out; have := HK2.out; first | omega | exact Nat.le_refl _⟩, ⟨bk_ BK257.out⟩, ⟨bk_ BK260.out⟩, ⟨hb_⟩⟩
           ·replace c20 := Bool.eq_false_iff.mpr c20
            subst c20
            rw [if_neg (show ¬ (false = true) by decide)] at H
            have H' := Aside0.mk H
            clear H
            have hnb29 := NB257_260.out
            have hnc29 := NB260_257.out
            have hcz30_0 : w16.cell? ⟨gb257, 0, none⟩ = some (.int .i64 a0_0) := (blk_cell BK257.out 0).trans rfl
            have hcz30_1 : w16.cell? ⟨gb257, 1, none⟩ = some (.slice A0_1 l0_1.length c0_1) := (blk_cell BK257.out 1).trans rfl
            have hfz30_0 := blk_frozen BK257.out 0
            have hfz30_1 := blk_frozen BK257.out 1
            have hcz31_0 : w16.cell? ⟨gb260, 0, none⟩ = some (.int .i64 0) := (blk_cell BK260.out 0).trans rfl
            have hcz31_1 : w16.cell? ⟨gb260, 1, none⟩ = some (.int .i64 0) := (blk_cell BK260.out 1).trans rfl
            have hfz31_0 := blk_frozen BK260.out 0
            have hfz31_1 := blk_frozen BK260.out 1
            go_wp2_with (first | ((with_reducible refine gate_callee (f := 55) rfl ?_); refine goesL_ (some 27) rfl rfl Try.func55 (by kernel_rfl) rfl #[.agg #[.int .i64 a0_0, .slice A0_1 l0_1.length c0_1], .int .i64 ((rd_T49 l1 x19_2).f0)] rfl ls_ ?_; (with_reducible refine (impl_Cells_free.calls a0_0 _ _ l0_1 ((rd_T49 l1 x19_2).f0) false _ ?side1 ?side2 A19.out).mono ?_); (case side1 => exact Kd.C_below HR0_1.out hb_); (case side2 => exact HC0_1.out); rintro e w32 ⟨rfl, hb⟩; refine ⟨_, rfl, ?_⟩; have n0_ := Aside0.mk (blk_below (g := gb257) (o := .cells #[.int .i64 a0_0, .slice A0_1 l0_1.length c0_1] 39 (0, 0)) (by (with_reducible repeat (first | refine blk_drewN ?_ _ | refine blk_drew ?_ | refine blk_alloc ?_ _)); refine blk_far ?_ NB257_260.out _; (with_reducible repeat (first | refine blk_drewN ?_ _ | refine blk_drew ?_ | refine blk_alloc ?_ _)); refine blk_far ?_ NB257_260.out _; (with_reducible repeat (first | refine blk_drewN ?_ _ | refine blk_drew ?_ | refine blk_alloc ?_ _)); exact BK257.out) hb); have n1_ := Aside0.mk (blk_below (g := gb260) (o := .cells #[.int .i64 ((rd_T49 l1 x19_2).f0), .int .i64 ((rd_T49 l1 x19_2).f1)] 49 (0, 0)) (by (with_reducible repeat (first | refine blk_drewN ?_ _ | refine blk_drew ?_ | refine blk_alloc ?_ _)); refine blk_put (cs := #[.int .i64 ((rd_T49 l1 x19_2).f0), .int .i64 0]) ?_ 1 _ rfl; (with_reducible repeat (first | refine blk_drewN ?_ _ | refine blk_drew ?_ | refine blk_alloc ?_ _)); refine blk_put (cs := #[.int .i64 0, .int .i64 0]) ?_ 0 _ rfl; (with_reducible repeat (first | refine blk_drewN ?_ _ | refine blk_drew ?_ | refine blk_alloc ?_ _)); exact BK260.out) hb); have n2_ := Aside0.mk (below_step hb_ hb); clear BK257; clear BK260; clear HB; have BK257 := n0_; have BK260 := n1_; have HB := n2_; clear n0_ n1_ n2_; (try clear hb); (try clear hb2); (try clear hk); (try clear hi)))
            go_meet
            case rel => exact ⟨_, (true), es_, H', ⟨by have := HJ2.out; have := HK2.out; first | omega | exact Nat.le_refl _⟩, ⟨bk_ BK257.out⟩, ⟨bk_ BK260.out⟩, ⟨hb_⟩⟩
          case rest =>
           clear HC15
           try clear c1
           try clear c2
           try clear p2
           try clear q2
           try clear hx2
           try clear c5
           try clear c6
           try clear c11
           try clear c12
           try clear c12b0
           try clear c13
           try clear c13b0
           try clear c14
           try clear c14b0
           try clear c17
           try clear c20
           try clear c22
           try clear p25
           try clear q25
           try clear hx25
           try clear c28
           try clear c29
           try clear hcz18_0
           try clear hcz18_1
           try clear hcz23_0
           try clear hcz23_1
           try clear hcz24_0
           try clear hcz24_1
           try clear hcz26_0
           try clear hcz26_1
           try clear hcz27_0
           try clear hcz27_1
           try clear hcz30_0
           try clear hcz30_1
           try clear hcz31_0
           try clear hcz31_1
           try clear hcz7_0
           try clear hcz7_1
           try clear hcz9_0
           try clear hcz9_1
           try clear hfz18_0
           try clear hfz18_1
           try clear hfz23_0
           try clear hfz23_1
           try clear hfz24_0
           try clear hfz24_1
           try clear hfz26_0
           try clear hfz26_1
           try clear hfz27_0
           try clear hfz27_1
           try clear hfz30_0
           try clear hfz30_1
           try clear hfz31_0
           try clear hfz31_1
           try clear hfz7_0
           try clear hfz7_1
           try clear hfz9_0
           try clear hfz9_1
           try clear hx259_0
           try clear hx259_1
           try clear p2
           try clear p259
           try clear q259
           obtain ⟨kq, x35_14, rfl, HA, HJ14, BK257, BK260, HB⟩ := hcut
           cases kq with
           | zero => exact absurd HA.out (by simp [impl_GoodTrips.j2])
           | succ kj14 =>
            have H := HA.out
            clear HA
            simp only [impl_GoodTrips.j2] at H
            by_cases c33 : x35_14 = true
            ·subst c33
             rw [if_pos rfl] at H
             obtain rfl := Option.some.inj H
             go_wp2
             go_ret
             exact ⟨er_, hb_⟩
            ·replace c33 := Bool.eq_false_iff.mpr c33
             subst c33
             rw [if_neg (show ¬ (false = true) by decide)] at H
             by_cases c34 : 0 ≤ x19_2
             ·rw [if_pos c34] at H
              have c34b0 := eq_true c34
              have c34b1 : decide (0 ≤ x19_2) = true := decide_eq_true c34
              clear c34
              by_cases c35 : x19_2 ≤ (l1.length : Int)
              ·rw [if_pos c35] at H
               have c35b0 := eq_true c35
               have c35b1 : decide (x19_2 ≤ (l1.length : Int)) = true := decide_eq_true c35
               clear c35
               obtain ⟨y263, hy263⟩ : ∃ y_ : List (S49), y_ = (l1.take (x19_2 : Int).toNat) := ⟨_, rfl⟩
               replace H : (impl_GoodTrips.l1 kj14 l1 l1 (l1.length : Int) x19_2 y263 (y263.length : Int) 0 a0_0 l0_1 ((rd_T49 l1 x19_2).f0) ((rd_T49 l1 x19_2).f1)) = some r := by first | (rw [hy263]; with_reducible exact H) | (have H2_ := (Option.bind_some _ _).symm.trans H; rw [hy263]; with_reducible exact H2_) | (have H2_ := (Option.bind_some _ _).symm.trans H; with_reducible exact H2_) | with_reducible exact H | (rw [hy263]; exact H) | exact H
               have Ny263 := Aside0.mk hy263
               clear hy263
               have H' := Aside0.mk H
               clear H
               have q36 : (x19_2 : Int) ≤ ((l1.length : Int) : Int) := of_decide_eq_true as_
               obtain ⟨i036, hi036, _, hsz36, _⟩ := info_parts info49
               have hroom36 : l1.length ≤ c1 := HC1.out
               have hC36 : Kd.C k49 _ (some ad259) l1.length l1 := HR1.out
               have hcut36 := cut_to (P := Try.prog) 41 49 .i64 Try.underlying41 hi036 (some ad259) l1.length c1 x19_2 (of_decide_eq_true as_) q36 hroom36
               have hr36 := Kd.C_take (m := (x19_2 : Int).toNat) hC36 (by omega)
               have hy36 : y263.length = (x19_2 : Int).toNat := (by rw [Ny263.out, List.length_take]; omega)
               rw [← Ny263.out] at hr36
               rw [← hy36] at hcut36
               have HR266 := Aside0.mk hr36
               have HC266 := Aside0.mk (show y263.length ≤ c1 from by omega)
               clear hr36 hC36 hroom36 hi036 hsz36
               have KY36 := Aside0.mk hy36
               clear hy36
               replace q36 := eq_true q36
               go_wp2
               go_loopg [40] kj14 (fun kq v40 w' => ∃ (x40_4 : Int), v40 = .int .i64 x40_4 ∧ Aside0 (impl_GoodTrips.l1 kq l1 l1 (l1.length : Int) x19_2 y263 (y263.length : Int) x40_4 a0_0 l0_1 ((rd_T49 l1 x19_2).f0) ((rd_T49 l1 x19_2).f1) = some r) ∧ Aside0 (kq ≤ kj14) ∧ Aside0 (w'.heap[gb257]? = some (.cells #[.int .i64 a0_0, (.slice A0_1 l0_1.length c0_1)] 39 (0, 0))) ∧ Aside0 (w'.heap[gb260]? = some (.cells #[.int .i64 ((rd_T49 l1 x19_2).f0), .int .i64 ((rd_T49 l1 x19_2).f1)] 49 (0, 0))) ∧ Aside0 (Below w.heap.size w w'))
               case atStart => exact ⟨(0), es_, H', ⟨Nat.le_refl _⟩, ⟨bk_ BK257.out⟩, ⟨bk_ BK260.out⟩, ⟨hb_⟩⟩
               case round =>
                clear H'
                try clear c1
                try clear c2
                try clear p2
                try clear q2
                try clear hx2
                try clear c3
                try clear q3
                try clear c5
                try clear c6
                try clear c11
                try clear c12
                try clear c12b0
                try clear c13
                try clear c13b0
                try clear c14
                try clear c14b0
                try clear c17
                try clear c20
                try clear c22
                try clear p25
                try clear q25
                try clear hx25
                try clear c28
                try clear c29
                try clear c33
                try clear c34
                try clear c34b0
                try clear c34b1
                try clear c35
                try clear c35b0
                try clear c35b1
                try clear q36
                try clear hcz18_0
                try clear hcz18_1
                try clear hcz23_0
                try clear hcz23_1
                try clear hcz24_0
                try clear hcz24_1
                try clear hcz26_0
                try clear hcz26_1
                try clear hcz27_0
                try clear hcz27_1
                try clear hcz30_0
                try clear hcz30_1
                try clear hcz31_0
                try clear hcz31_1
                try clear hcz7_0
                try clear hcz7_1
                try clear hcz9_0
                try clear hcz9_1
                try clear hfz18_0
                try clear hfz18_1
                try clear hfz23_0
                try clear hfz23_1
                try clear hfz24_0
                try clear hfz24_1
                try clear hfz26_0
                try clear hfz26_1
                try clear hfz27_0
                try clear hfz27_1
                try clear hfz30_0
                try clear hfz30_1
                try clear hfz31_0
                try clear hfz31_1
                try clear hfz7_0
                try clear hfz7_1
                try clear hfz9_0
                try clear hfz9_1
                try clear hx259_0
                try clear hx259_1
                try clear p2
                try clear p25
                try clear p259
                try clear q2
                try clear q25
                try clear q259
                try clear q36
                obtain ⟨x40_4, rfl, HA, HK4, BK257, BK260, HB⟩ := hrel
                cases gk with
                | zero => exact absurd HA.out (by simp [impl_GoodTrips.l1])
                | succ k4 =>
                 have H := HA.out
                 clear HA
                 simp only [impl_GoodTrips.l1] at H
                 by_cases c37 : x40_4 < (y263.length : Int)
                 ·rw [if_pos c37] at H
                  have c37b0 : decide (x40_4 < (y263.length : Int)) = true := decide_eq_true c37
                  clear c37
                  by_cases c38 : 0 ≤ x40_4
                  ·rw [if_pos c38] at H
                   have c38b0 : decide (0 ≤ x40_4) = true := decide_eq_true c38
                   clear c38
                   by_cases c39 : x40_4 < (y263.length : Int)
                   ·rw [if_pos c39] at H
                    have c39b0 : decide (x40_4 < (y263.length : Int)) = true := decide_eq_true c39
                    clear c39
                    by_cases c40 : ((rd_T49 y263 x40_4).f0) = ((rd_T49 l1 x19_2).f0)
                    ·rw [if_pos c40] at H
                     have c40b0 : (((rd_T49 y263 x40_4).f0) == ((rd_T49 l1 x19_2).f0)) = true := beq_iff_eq.mpr c40
                     have c40b1 : (((rd_T49 y263 x40_4).f0) != ((rd_T49 l1 x19_2).f0)) = false := bne_eq_false_iff_eq.mpr c40
                     clear c40
                     obtain rfl := Option.some.inj H
                     have p267 : 0 ≤ (x40_4 : Int) := of_decide_eq_true as_
                     have q267 : x40_4 < (y263.length : Int) := of_decide_eq_true as_
                     obtain ⟨ad267, e267, hx267_0, hx267_1⟩ := at_T49 HR266.out x40_4 p267 q267
                     obtain rfl : ad259 = ad267 := (by injection e267)
                     replace hx267_0 := hc_ HB hx267_0
                     replace hx267_1 := hc_ HB hx267_1
                     replace p267 := eq_true p267
                     replace q267 := eq_true q267
                     go_wp2_with (first | ((with_reducible refine gate_dst (N := 8) rfl ?_); (try (refine gate_guard (by rfl) ?_; dsimp only)); refine box_event ?hg (N := 8) ?hd (cs := #[.int .i64 0, .int .i64 0]) (t := 49) ?hr ?_; (case hd => rfl); (case hg => rfl); (case hr => first | (go_simp; done) | (go_simp; rfl)); intro gb268 hg w41 hbox hb; have n0_ := bb_ BK257 hb; have n1_ := bb_ BK260 hb; have n2_ := Aside0.mk (below_step hb_ hb); have n3_ := Aside0.mk (hbox); have n4_ : Aside0 (w.heap.size ≤ gb268) := gz_; have n5_ : Aside0 (w.heap.size ≤ gb268) := gz_; have n6_ := Aside0.mk ((by rw [hg]; exact Nat.ne_of_lt (blk_lt (g := gb257) (o := .cells #[.int .i64 a0_0, .slice A0_1 l0_1.length c0_1] 39 (0, 0)) (bk_ BK257.out)) : gb257 ≠ gb268)); have n7_ := Aside0.mk ((by rw [hg]; exact Nat.ne_of_gt (blk_lt (g := gb257) (o := .cells #[.int .i64 a0_0, .slice A0_1 l0_1.length c0_1] 39 (0, 0)) (bk_ BK257.out)) : gb268 ≠ gb257)); have n8_ := Aside0.mk ((by rw [hg]; exact Nat.ne_of_lt (blk_lt (g := gb260) (o := .cells #[.int .i64 ((rd_T49 l1 x19_2).f0), .int .i64 ((rd_T49 l1 x19_2).f1)] 49 (0, 0)) (bk_ BK260.out)) : gb260 ≠ gb268)); have n9_ := Aside0.mk ((by rw [hg]; exact Nat.ne_of_gt (blk_lt (g := gb260) (o := .cells #[.int .i64 ((rd_T49 l1 x19_2).f0), .int .i64 ((rd_T49 l1 x19_2).f1)] 49 (0, 0)) (bk_ BK260.out)) : gb268 ≠ gb260)); clear BK257; clear BK260; clear HB; have BK257 := n0_; have BK260 := n1_; have HB := n2_; have BK268 := n3_; have GW268 := n4_; have GE268 := n5_; have NB257_268 := n6_; have NB268_257 := n7_; have NB260_268 := n8_; have NB268_260 := n9_; clear n0_ n1_ n2_ n3_ n4_ n5_ n6_ n7_ n8_ n9_; clear hb hbox hg; have hnb42 := NB268_257.out; have hnc42 := NB257_268.out; have hnb43 := NB268_260.out; have hnc43 := NB260_268.out; have hcz44_0 : w41.cell? ⟨gb268, 0, none⟩ = some (.int .i64 0) := (blk_cell BK268.out 0).trans rfl; have hcz44_1 : w41.cell? ⟨gb268, 1, none⟩ = some (.int .i64 0) := (blk_cell BK268.out 1).trans rfl; have hfz44_0 := blk_frozen BK268.out 0; have hfz44_1 := blk_frozen BK268.out 1; have hnb45 := NB260_257.out; have hnc45 := NB257_260.out; have hcz46_0 : w41.cell? ⟨gb260, 0, none⟩ = some (.int .i64 ((rd_T49 l1 x19_2).f0)) := (blk_cell BK260.out 0).trans rfl; have hcz46_1 : w41.cell? ⟨gb260, 1, none⟩ = some (.int .i64 ((rd_T49 l1 x19_2).f1)) := (blk_cell BK260.out 1).trans rfl; have hfz46_0 := blk_frozen BK260.out 0; have hfz46_1 := blk_frozen BK260.out 1))
                     go_ret
                     exact ⟨er_, hb_⟩
                    ·rw [if_neg c40] at H
                     have c40b0 : (((rd_T49 y263 x40_4).f0) == ((rd_T49 l1 x19_2).f0)) = false := beq_eq_false_iff_ne.mpr c40
                     have c40b1 : (((rd_T49 y263 x40_4).f0) != ((rd_T49 l1 x19_2).f0)) = true := bne_iff_ne.mpr c40
                     by_cases c47 : ((rd_T49 y263 x40_4).f1) = ((rd_T49 l1 x19_2).f1)
                     ·rw [if_pos c47] at H
                      have c47b0 : (((rd_T49 y263 x40_4).f1) == ((rd_T49 l1 x19_2).f1)) = true := beq_iff_eq.mpr c47
                      have c47b1 : (((rd_T49 y263 x40_4).f1) != ((rd_T49 l1 x19_2).f1)) = false := bne_eq_false_iff_eq.mpr c47
                      clear c47
                      obtain rfl := Option.some.inj H
                      have p267 : 0 ≤ (x40_4 : Int) := of_decide_eq_true as_
                      have q267 : x40_4 < (y263.length : Int) := of_decide_eq_true as_
                      obtain ⟨ad267, e267, hx267_0, hx267_1⟩ := at_T49 HR266.out x40_4 p267 q267
                      obtain rfl : ad259 = ad267 := (by injection e267)
                      replace hx267_0 := hc_ HB hx267_0
                      replace hx267_1 := hc_ HB hx267_1
                      replace p267 := eq_true p267
                      replace q267 := eq_true q267
                      go_wp2_with (first | ((with_reducible refine gate_dst (N := 8) rfl ?_); (try (refine gate_guard (by rfl) ?_; dsimp only)); refine box_event ?hg (N := 8) ?hd (cs := #[.int .i64 0, .int .i64 0]) (t := 49) ?hr ?_; (case hd => rfl); (case hg => rfl); (case hr => first | (go_simp; done) | (go_simp; rfl)); intro gb268 hg w48 hbox hb; have n0_ := bb_ BK257 hb; have n1_ := bb_ BK260 hb; have n2_ := Aside0.mk (below_step hb_ hb); have n3_ := Aside0.mk (hbox); have n4_ : Aside0 (w.heap.size ≤ gb268) := gz_; have n5_ : Aside0 (w.heap.size ≤ gb268) := gz_; have n6_ := Aside0.mk ((by rw [hg]; exact Nat.ne_of_lt (blk_lt (g := gb257) (o := .cells #[.int .i64 a0_0, .slice A0_1 l0_1.length c0_1] 39 (0, 0)) (bk_ BK257.out)) : gb257 ≠ gb268)); have n7_ := Aside0.mk ((by rw [hg]; exact Nat.ne_of_gt (blk_lt (g := gb257) (o := .cells #[.int .i64 a0_0, .slice A0_1 l0_1.length c0_1] 39 (0, 0)) (bk_ BK257.out)) : gb268 ≠ gb257)); have n8_ := Aside0.mk ((by rw [hg]; exact Nat.ne_of_lt (blk_lt (g := gb260) (o := .cells #[.int .i64 ((rd_T49 l1 x19_2).f0), .int .i64 ((rd_T49 l1 x19_2).f1)] 49 (0, 0)) (bk_ BK260.out)) : gb260 ≠ gb268)); have n9_ := Aside0.mk ((by rw [hg]; exact Nat.ne_of_gt (blk_lt (g := gb260) (o := .cells #[.int .i64 ((rd_T49 l1 x19_2).f0), .int .i64 ((rd_T49 l1 x19_2).f1)] 49 (0, 0)) (bk_ BK260.out)) : gb268 ≠ gb260)); clear BK257; clear BK260; clear HB; have BK257 := n0_; have BK260 := n1_; have HB := n2_; have BK268 := n3_; have GW268 := n4_; have GE268 := n5_; have NB257_268 := n6_; have NB268_257 := n7_; have NB260_268 := n8_; have NB268_260 := n9_; clear n0_ n1_ n2_ n3_ n4_ n5_ n6_ n7_ n8_ n9_; clear hb hbox hg; have hnb49 := NB268_257.out; have hnc49 := NB257_268.out; have hnb50 := NB268_260.out; have hnc50 := NB260_268.out; have hcz51_0 : w48.cell? ⟨gb268, 0, none⟩ = some (.int .i64 0) := (blk_cell BK268.out 0).trans rfl; have hcz51_1 : w48.cell? ⟨gb268, 1, none⟩ = some (.int .i64 0) := (blk_cell BK268.out 1).trans rfl; have hfz51_0 := blk_frozen BK268.out 0; have hfz51_1 := blk_frozen BK268.out 1; have hnb52 := NB260_257.out; have hnc52 := NB257_260.out; have hcz53_0 : w48.cell? ⟨gb260, 0, none⟩ = some (.int .i64 ((rd_T49 l1 x19_2).f0)) := (blk_cell BK260.out 0).trans rfl; have hcz53_1 : w48.cell? ⟨gb260, 1, none⟩ = some (.int .i64 ((rd_T49 l1 x19_2).f1)) := (blk_cell BK260.out 1).trans rfl; have hfz53_0 := blk_frozen BK260.out 0; have hfz53_1 := blk_frozen BK260.out 1))
                      go_ret
                      exact ⟨er_, hb_⟩
                     ·rw [if_neg c47] at H
                      have c47b0 : (((rd_T49 y263 x40_4).f1) == ((rd_T49 l1 x19_2).f1)) = false := beq_eq_false_iff_ne.mpr c47
                      have c47b1 : (((rd_T49 y263 x40_4).f1) != ((rd_T49 l1 x19_2).f1)) = true := bne_iff_ne.mpr c47
                      have H' := Aside0.mk H
                      clear H
                      have p267 : 0 ≤ (x40_4 : Int) := of_decide_eq_true as_
                      have q267 : x40_4 < (y263.length : Int) := of_decide_eq_true as_
                      obtain ⟨ad267, e267, hx267_0, hx267_1⟩ := at_T49 HR266.out x40_4 p267 q267
                      obtain rfl : ad259 = ad267 := (by injection e267)
                      replace hx267_0 := hc_ HB hx267_0
                      replace hx267_1 := hc_ HB hx267_1
                      replace p267 := eq_true p267
                      replace q267 := eq_true q267
                      go_wp2_with (first | ((with_reducible refine gate_dst (N := 8) rfl ?_); (try (refine gate_guard (by rfl) ?_; dsimp only)); refine box_event ?hg (N := 8) ?hd (cs := #[.int .i64 0, .int .i64 0]) (t := 49) ?hr ?_; (case hd => rfl); (case hg => rfl); (case hr => first | (go_simp; done) | (go_simp; rfl)); intro gb268 hg w54 hbox hb; have n0_ := bb_ BK257 hb; have n1_ := bb_ BK260 hb; have n2_ := Aside0.mk (below_step hb_ hb); have n3_ := Aside0.mk (hbox); have n4_ : Aside0 (w.heap.size ≤ gb268) := gz_; have n5_ : Aside0 (w.heap.size ≤ gb268) := gz_; have n6_ := Aside0.mk ((by rw [hg]; exact Nat.ne_of_lt (blk_lt (g := gb257) (o := .cells #[.int .i64 a0_0, .slice A0_1 l0_1.length c0_1] 39 (0, 0)) (bk_ BK257.out)) : gb257 ≠ gb268)); have n7_ := Aside0.mk ((by rw [hg]; exact Nat.ne_of_gt (blk_lt (g := gb257) (o := .cells #[.int .i64 a0_0, .slice A0_1 l0_1.length c0_1] 39 (0, 0)) (bk_ BK257.out)) : gb268 ≠ gb257)); have n8_ := Aside0.mk ((by rw [hg]; exact Nat.ne_of_lt (blk_lt (g := gb260) (o := .cells #[.int .i64 ((rd_T49 l1 x19_2).f0), .int .i64 ((rd_T49 l1 x19_2).f1)] 49 (0, 0)) (bk_ BK260.out)) : gb260 ≠ gb268)); have n9_ := Aside0.mk ((by rw [hg]; exact Nat.ne_of_gt (blk_lt (g := gb260) (o := .cells #[.int .i64 ((rd_T49 l1 x19_2).f0), .int .i64 ((rd_T49 l1 x19_2).f1)] 49 (0, 0)) (bk_ BK260.out)) : gb268 ≠ gb260)); clear BK257; clear BK260; clear HB; have BK257 := n0_; have BK260 := n1_; have HB := n2_; have BK268 := n3_; have GW268 := n4_; have GE268 := n5_; have NB257_268 := n6_; have NB268_257 := n7_; have NB260_268 := n8_; have NB268_260 := n9_; clear n0_ n1_ n2_ n3_ n4_ n5_ n6_ n7_ n8_ n9_; clear hb hbox hg; have hnb55 := NB268_257.out; have hnc55 := NB257_268.out; have hnb56 := NB268_260.out; have hnc56 := NB260_268.out; have hcz57_0 : w54.cell? ⟨gb268, 0, none⟩ = some (.int .i64 0) := (blk_cell BK268.out 0).trans rfl; have hcz57_1 : w54.cell? ⟨gb268, 1, none⟩ = some (.int .i64 0) := (blk_cell BK268.out 1).trans rfl; have hfz57_0 := blk_frozen BK268.out 0; have hfz57_1 := blk_frozen BK268.out 1; have hnb58 := NB260_257.out; have hnc58 := NB257_260.out; have hcz59_0 : w54.cell? ⟨gb260, 0, none⟩ = some (.int .i64 ((rd_T49 l1 x19_2).f0)) := (blk_cell BK260.out 0).trans rfl; have hcz59_1 : w54.cell? ⟨gb260, 1, none⟩ = some (.int .i64 ((rd_T49 l1 x19_2).f1)) := (blk_cell BK260.out 1).trans rfl; have hfz59_0 := blk_frozen BK260.out 0; have hfz59_1 := blk_frozen BK260.out 1))
                      go_roundg k4
                      case measure => have := HJ2.out; have := HK2.out; have := HJ14.out; have := HK4.out; omega
                      case rel => exact ⟨(wrap64 (x40_4 + 1)), es_, H', ⟨by have := HJ2.out; have := HK2.out; have := HJ14.out; have := HK4.out; omega⟩, ⟨by (with_reducible repeat (first | refine blk_drewN ?_ _ | refine blk_drew ?_ | refine blk_alloc ?_ _)); refine blk_far ?_ NB257_268.out _; (with_reducible repeat (first | refine blk_drewN ?_ _ | refine blk_drew ?_ | refine blk_alloc ?_ _)); refine blk_far ?_ NB257_268.out _; (with_reducible repeat (first | refine blk_drewN ?_ _ | refine blk_drew ?_ | refine blk_alloc ?_ _)); exact BK257.out⟩, ⟨by (with_reducible repeat (first | refine blk_drewN ?_ _ | refine blk_drew ?_ | refine blk_alloc ?_ _)); refine blk_far ?_ NB260_268.out _; (with_reducible repeat (first | refine blk_drewN ?_ _ | refine blk_drew ?_ | refine blk_alloc ?_ _)); refine blk_far ?_ NB260_268.out _; (with_reducible repeat (first | refine blk_drewN ?_ _ | refine blk_drew ?_ | refine blk_alloc ?_ _)); exact BK260.out⟩, ⟨hb_⟩⟩
                   ·rw [if_neg c39] at H
                    exact absurd H (by simp)
                  ·rw [if_neg c38] at H
                   exact absurd H (by simp)
                 ·rw [if_neg c37] at H
                  have c37b0 : decide (x40_4 < (y263.length : Int)) = false := decide_eq_false c37
                  clear c37
                  have H' := Aside0.mk H
                  clear H
                  go_wp2
                  go_roundg k4
                  case measure => have := HJ2.out; have := HK2.out; have := HJ14.out; have := HK4.out; omega
                  case rel => exact ⟨(wrap64 (x19_2 + 1)), es_, H', ⟨by have := HJ2.out; have := HK2.out; have := HJ14.out; have := HK4.out; omega⟩, ⟨bk_ BK257.out⟩, ⟨hb_⟩⟩
              ·rw [if_neg c35] at H
               exact absurd H (by simp)
             ·rw [if_neg c34] at H
              exact absurd H (by simp)
         ·rw [if_neg c14] at H
          exact absurd H (by simp)
        ·rw [if_neg c13] at H
         exact absurd H (by simp)
       ·rw [if_neg c12] at H
        have c12b0 : decide (x19_2 < (l1.length : Int)) = false := decide_eq_false c12
        clear c12
        obtain rfl := Option.some.inj H
        go_wp2
        go_ret
        exact ⟨er_, hb_⟩

end Go.Proofs.Ytcldlljnaijmhaa.Pr
/-
Own text, by hand: what (Cells).along comes to: the cell beside in one of the four ways.
-/
namespace Go.Proofs.Ytcldlljnaijmhaa.Pr
open Go.RowKit Go.Proofs.YtcldlljnaijmhaaW.PrintWords Go.Proofs.YtcldlljnaijmhaaW.PrintLast
def impl_Cells_along.f (a0_0 : Int) (l0_1 : List Int) (a1 : Int) (a2 : Int) : Option Int :=
  if a2 = 0 then impl_Cells_next.f a0_0 l0_1 a1 1 0 else if a2 = 1 then impl_Cells_next.f a0_0 l0_1 a1 0 1 else if a2 = 2 then impl_Cells_next.f a0_0 l0_1 a1 (-1) 0 else if a2 = 3 then impl_Cells_next.f a0_0 l0_1 a1 0 (-1) else none
end Go.Proofs.Ytcldlljnaijmhaa.Pr
-- Written by this session's own print (wip/tools/mkmp.py) out of the translation. Lean checks it.
namespace Go.Proofs.Ytcldlljnaijmhaa.Pr
open Go.RowKit Go.Proofs.YtcldlljnaijmhaaW.PrintWords Go.Proofs.YtcldlljnaijmhaaW.PrintLast Go.Proofs.YtcldlljnaijmhaaW.PrintMore
attribute [local go_sem] max2_int min2_int max_two min_two max_three min_three max_four min_four   -- for this text's walks alone
set_option linter.unusedVariables false
set_option linter.unusedSimpArgs false

/-! ### impl_Cells_goes: function 58 -/
def impl_Cells_goes.l0 : Nat → List Int → List Int → Int → Int → Int → List Int → Option (List Int)
  | 0, _, _, _, _, _, _ => none
  | k + 1, x5, x21, x22, x23, x344000, x344001 => if x23 < x22 then (if 0 ≤ x23 then (if x23 < (x21.length : Int) then ((impl_Cells_free.f x344000 x344001 (rd x21 x23)).bind fun t352 => (if t352 = true then (if x5.length < 17592186044416 then (impl_Cells_goes.l0 k (x5 ++ [rd x21 x23]) x21 x22 (wrap64 (x23 + 1)) x344000 x344001) else (none)) else (impl_Cells_goes.l0 k x5 x21 x22 (wrap64 (x23 + 1)) x344000 x344001))) else (none)) else (none)) else (some x5)
def impl_Cells_goes.f (k : Nat) (a0_0 : Int) (l0_1 : List Int) (a1 : Int) : Option (List Int) := (impl_Cells_along.f a0_0 l0_1 a1 3).bind fun t344 => ((impl_Cells_along.f a0_0 l0_1 a1 2).bind fun t345 => ((impl_Cells_along.f a0_0 l0_1 a1 0).bind fun t346 => ((impl_Cells_along.f a0_0 l0_1 a1 1).bind fun t347 => ((some (([t344, t345, a1, t346, t347] : List Int) : List Int)).bind fun y348 => (impl_Cells_goes.l0 k ([] : List Int) y348 (y348.length : Int) 0 a0_0 l0_1)))))
/-! ### impl_GoodPaths: function 37 -/
mutual
def impl_GoodPaths.j0 : Nat → List (S49) → List (List Int) → Bool → Int → List Int → Option (Bool)
  | 0, _, _, _, _, _ => none
  | k + 1, x1, x2, x24, x357000, x357001 => if x24 = true then (some false) else (impl_GoodPaths.l0 k x1 x2 x2 (x2.length : Int) 0 x357000 x357001)
def impl_GoodPaths.l0 : Nat → List (S49) → List (List Int) → List (List Int) → Int → Int → Int → List Int → Option (Bool)
  | 0, _, _, _, _, _, _, _ => none
  | k + 1, x1, x2, x25, x26, x27, x357000, x357001 => if x27 < x26 then (if 0 ≤ x27 then (if x27 < (x25.length : Int) then (if ((rd_L1 x25 x27).length : Int) < 1 then (impl_GoodPaths.j2 k x1 x2 (rd_L1 x25 x27) ((rd_L1 x25 x27).length : Int) x25 x26 x27 true x357000 x357001) else (if 0 < (x2.length : Int) then (if ((rd_L1 x25 x27).length : Int) = ((rd_L1 x2 0).length : Int) then (if 0 < ((rd_L1 x25 x27).length : Int) then (if x27 < (x1.length : Int) then (if (rd (rd_L1 x25 x27) 0) = ((rd_T49 x1 x27).f0) then (if 0 ≤ (wrap64 (((rd_L1 x25 x27).length : Int) - 1)) then (if (wrap64 (((rd_L1 x25 x27).length : Int) - 1)) < ((rd_L1 x25 x27).length : Int) then (impl_GoodPaths.j2 k x1 x2 (rd_L1 x25 x27) ((rd_L1 x25 x27).length : Int) x25 x26 x27 ((rd (rd_L1 x25 x27) (wrap64 (((rd_L1 x25 x27).length : Int) - 1))) != ((rd_T49 x1 x27).f1)) x357000 x357001) else (none)) else (none)) else (impl_GoodPaths.j2 k x1 x2 (rd_L1 x25 x27) ((rd_L1 x25 x27).length : Int) x25 x26 x27 true x357000 x357001)) else (none)) else (none)) else (impl_GoodPaths.j2 k x1 x2 (rd_L1 x25 x27) ((rd_L1 x25 x27).length : Int) x25 x26 x27 true x357000 x357001)) else (none))) else (none)) else (none)) else ((impl_FirstMeet.f k x2).bind fun t358 => (some (decide (t358 < 0))))
def impl_GoodPaths.j2 : Nat → List (S49) → List (List Int) → List Int → Int → List (List Int) → Int → Int → Bool → Int → List Int → Option (Bool)
  | 0, _, _, _, _, _, _, _, _, _, _ => none
  | k + 1, x1, x2, x8, x9, x25, x26, x27, x67, x357000, x357001 => if x67 = true then (some false) else (impl_GoodPaths.l1 k x1 x2 x8 x9 1 x25 x26 x27 x357000 x357001)
def impl_GoodPaths.l1 : Nat → List (S49) → List (List Int) → List Int → Int → Int → List (List Int) → Int → Int → Int → List Int → Option (Bool)
  | 0, _, _, _, _, _, _, _, _, _, _ => none
  | k + 1, x1, x2, x8, x9, x10, x25, x26, x27, x357000, x357001 => if x10 < x9 then (if 0 ≤ (wrap64 (x10 - 1)) then (if (wrap64 (x10 - 1)) < (x8.length : Int) then ((impl_Cells_free.f x357000 x357001 (rd x8 (wrap64 (x10 - 1)))).bind fun t366 => (if t366 = true then ((impl_Cells_goes.f k x357000 x357001 (rd x8 (wrap64 (x10 - 1)))).bind fun t368 => (impl_GoodPaths.l2 k x1 x2 x8 x9 x10 false x25 x26 x27 t368 (t368.length : Int) 0 x357000 x357001)) else (some false))) else (none)) else (none)) else (impl_GoodPaths.l0 k x1 x2 x25 x26 (wrap64 (x27 + 1)) x357000 x357001)
def impl_GoodPaths.l2 : Nat → List (S49) → List (List Int) → List Int → Int → Int → Bool → List (List Int) → Int → Int → List Int → Int → Int → Int → List Int → Option (Bool)
  | 0, _, _, _, _, _, _, _, _, _, _, _, _, _, _ => none
  | k + 1, x1, x2, x8, x9, x10, x11, x25, x26, x27, x86, x87, x88, x357000, x357001 => if x88 < x87 then (if 0 ≤ x88 then (if x88 < (x86.length : Int) then (if x11 = true then (impl_GoodPaths.l2 k x1 x2 x8 x9 x10 true x25 x26 x27 x86 x87 (wrap64 (x88 + 1)) x357000 x357001) else (if 0 ≤ x10 then (if x10 < (x8.length : Int) then (impl_GoodPaths.l2 k x1 x2 x8 x9 x10 ((rd x86 x88) == (rd x8 x10)) x25 x26 x27 x86 x87 (wrap64 (x88 + 1)) x357000 x357001) else (none)) else (none))) else (none)) else (none)) else (if x11 = true then (impl_GoodPaths.l1 k x1 x2 x8 x9 (wrap64 (x10 + 1)) x25 x26 x27 x357000 x357001) else (some false))
end
def impl_GoodPaths.f (k : Nat) (a0_0 : Int) (l0_1 : List Int) (l1 : List (S49)) (l2 : List (List Int)) : Option (Bool) := (impl_GoodTrips.f k a0_0 l0_1 l1).bind fun t357 => (if t357 = true then (impl_GoodPaths.j0 k l1 l2 ((l2.length : Int) != (l1.length : Int)) a0_0 l0_1) else (impl_GoodPaths.j0 k l1 l2 true a0_0 l0_1))
/-! ### laws_FnExactGoodPaths: function 8 -/
def laws_FnExactGoodPaths.f (k : Nat) (a0_0 : Int) (l0_1 : List Int) (l1 : List (S47)) (l2 : List (List Int)) : Option (Bool) := (laws_szCells.f a0_0 l0_1 1048576).bind fun t374 => (if t374 < 0 then (some true) else ((laws_szTripS.f l1 t374).bind fun t375 => (if t375 < 0 then (some true) else ((laws_szIntSS.f k l2 t375).bind fun t376 => (if t376 < 0 then (some true) else ((laws_toCells.f k a0_0 l0_1).bind fun bt377 => ((laws_toTripS.f k l1).bind fun t381 => ((laws_toIntSS.f k l2).bind fun t384 => ((spec_GoodPaths.f k bt377.1 bt377.2 t381 t384).bind fun t387 => ((laws_toCells.f k a0_0 l0_1).bind fun bt388 => ((laws_toTripS.f k l1).bind fun t393 => ((laws_toIntSS.f k l2).bind fun t396 => ((impl_GoodPaths.f k bt388.1 bt388.2 t393 t396).bind fun t399 => (if (t399 != t387) = true then (some false) else ((laws_toCells.f k a0_0 l0_1).bind fun bt400 => ((laws_eqCells.f k bt388.1 bt388.2 bt400.1 bt400.2).bind fun t404 => (if t404 = true then ((laws_toTripS.f k l1).bind fun t405 => ((laws_eqTripS.f k t393 t405).bind fun t408 => (if t408 = true then ((laws_toIntSS.f k l2).bind fun t409 => ((laws_eqIntSS.f k t396 t409).bind fun t412 => (if t412 = true then (some true) else (some false)))) else (some false)))) else (some false))))))))))))))))))
/-! ### spec_AloneTicks: function 31 -/
/-! ### spec_JointTicks: function 34 -/
/-! ### impl_meets: function 59 -/
/-! ### spec_l20Free: function 71 -/
/-! ### laws_markCells: function 40 -/
/-! ### laws_markTripS: function 41 -/
/-! ### laws_heldIntSS: function 43 -/
/-- A state of type 89 at block g of W; what its slices lead to came in by w0. -/
def IsS89 (w0 W : World) (g : Nat) (f0 : List Int) (f1 : Int) (f2 : Int) : Prop := ∃ A0 c0, W.heap[g]? = some (.cells #[.slice A0 f0.length c0, .int .i64 f1, .int .u64 f2] 89 (0, 0)) ∧ w0.heap.size ≤ g ∧ Kd.C (Kd.int .u8) w0 A0 f0.length f0
theorem IsS89.grown {w0 W : World} {g : Nat} {f0 : List Int} {f1 : Int} {f2 : Int} {W1 : World} {row : Option Nat} (h : IsS89 w0 W g f0 f1 f2) (hw : W.grownBy W1 row) (hne : some g ≠ row) : IsS89 w0 W1 g f0 f1 f2 := by
  obtain ⟨A0, c0, hb, hg, hr0⟩ := h
  exact ⟨A0, c0, blk_grown hb hw hne, hg, hr0⟩
theorem IsS89.kept {w0 W : World} {g : Nat} {f0 : List Int} {f1 : Int} {f2 : Int} {W1 : World} {S : Nat → Prop} (h : IsS89 w0 W g f0 f1 f2) (hk : Kept W W1 S) (hne : ¬ S g) : IsS89 w0 W1 g f0 f1 f2 := by
  obtain ⟨A0, c0, hb, hg, hr0⟩ := h
  exact ⟨A0, c0, blk_kept hb hk hne, hg, hr0⟩
theorem IsS89.below {w0 W : World} {g : Nat} {f0 : List Int} {f1 : Int} {f2 : Int} {W1 : World} (h : IsS89 w0 W g f0 f1 f2) (hw : Below W.heap.size W W1) : IsS89 w0 W1 g f0 f1 f2 := h.grown (grown_of_below hw none) (by simp)
theorem IsS89.alloc {w0 W : World} {g : Nat} {f0 : List Int} {f1 : Int} {f2 : Int} (h : IsS89 w0 W g f0 f1 f2) (o : Obj) : IsS89 w0 (W.alloc o) g f0 f1 f2 := h.below (below_alloc (Below.refl _ _) o)
theorem IsS89.drewN {w0 W : World} {g : Nat} {f0 : List Int} {f1 : Int} {f2 : Int} (h : IsS89 w0 W g f0 f1 f2) (m : Nat) : IsS89 w0 (W.drewN m) g f0 f1 f2 := h
theorem IsS89.drew {w0 W : World} {g : Nat} {f0 : List Int} {f1 : Int} {f2 : Int} (h : IsS89 w0 W g f0 f1 f2) : IsS89 w0 W.drew g f0 f1 f2 := h
theorem IsS89.at_ {w0 W : World} {g : Nat} {f0 : List Int} {f1 : Int} {f2 : Int} {w' : World} {m : Nat} (hq : W.drewN m = w') (h : IsS89 w0 W g f0 f1 f2) : IsS89 w0 w' g f0 f1 f2 := by subst hq; exact IsS89.drewN h m
theorem IsS89.apart {w0 W : World} {g : Nat} {f0 : List Int} {f1 : Int} {f2 : Int} {α : Type} {d : Kd α} {e : Nat} {base : Nat} {ok : Nat → Prop} {v : Value} {xs : List α} (h : IsS89 w0 W g f0 f1 f2) (ho : d.R e W base ok v xs) (ht : ∀ q, q ∈ e :: d.E → q ≠ 89) : d.R e W base (fun k => ok k ∧ k ≠ g) v xs := by
  obtain ⟨A0, c0, hb, hg, hr0⟩ := h
  exact Kd.R_types ho hb ht
theorem IsS89.own_ne {w0 W : World} {g : Nat} {f0 : List Int} {f1 : Int} {f2 : Int} {α : Type} {d : Kd α} {e : Nat} {base : Nat} {ok : Nat → Prop} {v : Value} {xs : List α} (h : IsS89 w0 W g f0 f1 f2) (ho : d.R e W base ok v xs) (ht : e ≠ 89) : some g ≠ v.ownBlock := by
  obtain ⟨A0, c0, hb, hg, hr0⟩ := h
  exact Kd.R_ne ho hb ht
theorem IsS89.far {w0 W : World} {g : Nat} {f0 : List Int} {f1 : Int} {f2 : Int} {p : Addr} (h : IsS89 w0 W g f0 f1 f2) (hne : g ≠ p.block) (u : Value) : IsS89 w0 (W.setCell p u) g f0 f1 f2 := by
  obtain ⟨A0, c0, hb, hg, hr0⟩ := h
  exact ⟨A0, c0, blk_far hb hne u, hg, hr0⟩
theorem IsS89.new (w0 W : World) (A0 : Option Addr) (c0 : Nat) (f0 : List Int) (f1 : Int) (f2 : Int) (hB : Below w0.heap.size w0 W) (hr0 : Kd.C (Kd.int .u8) w0 A0 f0.length f0) : IsS89 w0 (W.alloc (.cells #[.slice A0 f0.length c0, .int .i64 f1, .int .u64 f2] 89)) W.heap.size f0 f1 f2 := ⟨A0, c0, by simpa using heap_alloc_new W _, hB.size, hr0⟩

/-! ### spec_l1Cur_next: function 74 -/
/-! ### spec_l1Cur_pick: function 63 -/
/-! ### spec_l1Cur_one: function 64 -/
/-! ### spec_l1Cur_among: function 65 -/
/-! ### spec_l1Cur_extent: function 78 -/
/-! ### spec_l1Cur_cells: function 73 -/
/-! ### spec_l1Cur_yard: function 62 -/
/-! ### spec_AllPlaces: function 75 -/
/-! ### laws_zBack: function 46 -/
/-! ### laws_zIn: function 47 -/
/-! ### laws_zRising: function 48 -/
/-! ### spec_ThereAtLast: function 49 -/
end Go.Proofs.Ytcldlljnaijmhaa.Pr
-- Written by this session's own print (wip/tools/mkmp.py) out of the translation. Lean checks it.
namespace Go.Proofs.Ytcldlljnaijmhaa.Pr
open Go.RowKit Go.Proofs.YtcldlljnaijmhaaW.PrintWords Go.Proofs.YtcldlljnaijmhaaW.PrintLast Go.Proofs.YtcldlljnaijmhaaW.PrintMore
attribute [local go_sem] max2_int min2_int max_two min_two max_three min_three max_four min_four   -- for this text's walks alone
set_option linter.unusedVariables false
set_option linter.unusedSimpArgs false

set_option maxHeartbeats 8000000 in
set_option maxRecDepth 100000 in
theorem impl_Cells_next.calls (a0_0 : Int) (A0_1 : Option Addr) (c0_1 : Nat) (l0_1 : List Int) (a1 : Int) (a2 : Int) (a3 : Int) (r : Int) (w : World) (hr0_1 : Kd.C (Kd.int .i64) w A0_1 l0_1.length l0_1) (hc0_1 : l0_1.length ≤ c0_1) (h : impl_Cells_next.f a0_0 l0_1 a1 a2 a3 = some r) :
   Calls Try.prog 77 #[.agg #[.int .i64 a0_0, .slice A0_1 l0_1.length c0_1], .int .i64 a1, .int .i64 a2, .int .i64 a3] w fun e w' => e = .returned (.int .i64 r) ∧ Below w.heap.size w w' := by
  have hu39 := Try.underlying39
  have HR0_1 := Aside0.mk hr0_1
  have HC0_1 := Aside0.mk hc0_1
  clear hr0_1 hc0_1
  have HB := Aside0.mk (Below.refl w.heap.size w)
  have H : (if a0_0 = 0 then (none) else (if (wrap64 ((Int.tmod a1 a0_0) + a2)) < 0 then (some (-1)) else (if (wrap64 ((Int.tmod a1 a0_0) + a2)) ≥ a0_0 then (some (-1)) else (if (wrap64 ((wrap64 (Int.tdiv a1 a0_0)) + a3)) < 0 then (some (-1)) else (if (wrap64 ((wrap64 (Int.tdiv a1 a0_0)) + a3)) ≥ (wrap64 ((l0_1.length : Int) / a0_0)) then (some (-1)) else (some (wrap64 ((wrap64 ((wrap64 ((wrap64 (Int.tdiv a1 a0_0)) + a3)) * a0_0)) + (wrap64 ((Int.tmod a1 a0_0) + a2)))))))))) = some r := h
  clear h
  by_cases c5 : a0_0 = 0
  ·rw [if_pos c5] at H
   exact absurd H (by simp)
  ·rw [if_neg c5] at H
   have c5b0 : (a0_0 == 0) = false := beq_eq_false_iff_ne.mpr c5
   have c5b1 : (a0_0 != 0) = true := bne_iff_ne.mpr c5
   by_cases c6 : (wrap64 ((Int.tmod a1 a0_0) + a2)) < 0
   ·rw [if_pos c6] at H
    have c6b0 : decide ((wrap64 ((Int.tmod a1 a0_0) + a2)) < 0) = true := decide_eq_true c6
    clear c6
    obtain rfl := Option.some.inj H
    go_enter Try.func77, Try.ntmps77
    go_wp2_with (first | ((with_reducible refine gate_dst (N := 4) rfl ?_); (try (refine gate_guard (by rfl) ?_; dsimp only)); refine box_event ?hg (N := 4) ?hd (cs := #[.int .i64 a0_0, .slice A0_1 l0_1.length c0_1]) (t := 39) ?hr ?_; (case hd => rfl); (case hg => rfl); (case hr => first | (go_simp; done) | (go_simp; rfl)); intro gb342 hg w7 hbox hb; have n0_ := Aside0.mk (below_step hb_ hb); have n1_ := Aside0.mk (hbox); have n2_ : Aside0 (w.heap.size ≤ gb342) := gz_; have n3_ : Aside0 (w.heap.size ≤ gb342) := gz_; clear HB; have HB := n0_; have BK342 := n1_; have GW342 := n2_; have GE342 := n3_; clear n0_ n1_ n2_ n3_; clear hb hbox hg; have hcz8_0 : w7.cell? ⟨gb342, 0, none⟩ = some (.int .i64 a0_0) := (blk_cell BK342.out 0).trans rfl; have hcz8_1 : w7.cell? ⟨gb342, 1, none⟩ = some (.slice A0_1 l0_1.length c0_1) := (blk_cell BK342.out 1).trans rfl; have hfz8_0 := blk_frozen BK342.out 0; have hfz8_1 := blk_frozen BK342.out 1))
    repeat (go_quiet (first | ((with_reducible refine gate_dst (N := 4) rfl ?_); (try (refine gate_guard (by rfl) ?_; dsimp only)); refine box_event ?hg (N := 4) ?hd (cs := #[.int .i64 a0_0, .slice A0_1 l0_1.length c0_1]) (t := 39) ?hr ?_; (case hd => rfl); (case hg => rfl); (case hr => first | (go_simp; done) | (go_simp; rfl)); intro gb342 hg w7 hbox hb; have n0_ := Aside0.mk (below_step hb_ hb); have n1_ := Aside0.mk (hbox); have n2_ : Aside0 (w.heap.size ≤ gb342) := gz_; have n3_ : Aside0 (w.heap.size ≤ gb342) := gz_; clear HB; have HB := n0_; have BK342 := n1_; have GW342 := n2_; have GE342 := n3_; clear n0_ n1_ n2_ n3_; clear hb hbox hg; have hcz8_0 : w7.cell? ⟨gb342, 0, none⟩ = some (.int .i64 a0_0) := (blk_cell BK342.out 0).trans rfl; have hcz8_1 : w7.cell? ⟨gb342, 1, none⟩ = some (.slice A0_1 l0_1.length c0_1) := (blk_cell BK342.out 1).trans rfl; have hfz8_0 := blk_frozen BK342.out 0; have hfz8_1 := blk_frozen BK342.out 1)); try go_wp2_with (first | ((with_reducible refine gate_dst (N := 4) rfl ?_); (try (refine gate_guard (by rfl) ?_; dsimp only)); refine box_event ?hg (N := 4) ?hd (cs := #[.int .i64 a0_0, .slice A0_1 l0_1.length c0_1]) (t := 39) ?hr ?_; (case hd => rfl); (case hg => rfl); (case hr => first | (go_simp; done) | (go_simp; rfl)); intro gb342 hg w7 hbox hb; have n0_ := Aside0.mk (below_step hb_ hb); have n1_ := Aside0.mk (hbox); have n2_ : Aside0 (w.heap.size ≤ gb342) := gz_; have n3_ : Aside0 (w.heap.size ≤ gb342) := gz_; clear HB; have HB := n0_; have BK342 := n1_; have GW342 := n2_; have GE342 := n3_; clear n0_ n1_ n2_ n3_; clear hb hbox hg; have hcz8_0 : w7.cell? ⟨gb342, 0, none⟩ = some (.int .i64 a0_0) := (blk_cell BK342.out 0).trans rfl; have hcz8_1 : w7.cell? ⟨gb342, 1, none⟩ = some (.slice A0_1 l0_1.length c0_1) := (blk_cell BK342.out 1).trans rfl; have hfz8_0 := blk_frozen BK342.out 0; have hfz8_1 := blk_frozen BK342.out 1)))
    go_ret
    exact ⟨er_, hb_⟩
   ·rw [if_neg c6] at H
    have c6b0 : decide ((wrap64 ((Int.tmod a1 a0_0) + a2)) < 0) = false := decide_eq_false c6
    clear c6
    by_cases c9 : (wrap64 ((Int.tmod a1 a0_0) + a2)) ≥ a0_0
    ·rw [if_pos c9] at H
     have c9b0 : decide (a0_0 ≤ (wrap64 ((Int.tmod a1 a0_0) + a2))) = true := decide_eq_true c9
     clear c9
     obtain rfl := Option.some.inj H
     go_enter Try.func77, Try.ntmps77
     go_wp2_with (first | ((with_reducible refine gate_dst (N := 4) rfl ?_); (try (refine gate_guard (by rfl) ?_; dsimp only)); refine box_event ?hg (N := 4) ?hd (cs := #[.int .i64 a0_0, .slice A0_1 l0_1.length c0_1]) (t := 39) ?hr ?_; (case hd => rfl); (case hg => rfl); (case hr => first | (go_simp; done) | (go_simp; rfl)); intro gb342 hg w10 hbox hb; have n0_ := Aside0.mk (below_step hb_ hb); have n1_ := Aside0.mk (hbox); have n2_ : Aside0 (w.heap.size ≤ gb342) := gz_; have n3_ : Aside0 (w.heap.size ≤ gb342) := gz_; clear HB; have HB := n0_; have BK342 := n1_; have GW342 := n2_; have GE342 := n3_; clear n0_ n1_ n2_ n3_; clear hb hbox hg; have hcz11_0 : w10.cell? ⟨gb342, 0, none⟩ = some (.int .i64 a0_0) := (blk_cell BK342.out 0).trans rfl; have hcz11_1 : w10.cell? ⟨gb342, 1, none⟩ = some (.slice A0_1 l0_1.length c0_1) := (blk_cell BK342.out 1).trans rfl; have hfz11_0 := blk_frozen BK342.out 0; have hfz11_1 := blk_frozen BK342.out 1))
     repeat (go_quiet (first | ((with_reducible refine gate_dst (N := 4) rfl ?_); (try (refine gate_guard (by rfl) ?_; dsimp only)); refine box_event ?hg (N := 4) ?hd (cs := #[.int .i64 a0_0, .slice A0_1 l0_1.length c0_1]) (t := 39) ?hr ?_; (case hd => rfl); (case hg => rfl); (case hr => first | (go_simp; done) | (go_simp; rfl)); intro gb342 hg w10 hbox hb; have n0_ := Aside0.mk (below_step hb_ hb); have n1_ := Aside0.mk (hbox); have n2_ : Aside0 (w.heap.size ≤ gb342) := gz_; have n3_ : Aside0 (w.heap.size ≤ gb342) := gz_; clear HB; have HB := n0_; have BK342 := n1_; have GW342 := n2_; have GE342 := n3_; clear n0_ n1_ n2_ n3_; clear hb hbox hg; have hcz11_0 : w10.cell? ⟨gb342, 0, none⟩ = some (.int .i64 a0_0) := (blk_cell BK342.out 0).trans rfl; have hcz11_1 : w10.cell? ⟨gb342, 1, none⟩ = some (.slice A0_1 l0_1.length c0_1) := (blk_cell BK342.out 1).trans rfl; have hfz11_0 := blk_frozen BK342.out 0; have hfz11_1 := blk_frozen BK342.out 1)); try go_wp2_with (first | ((with_reducible refine gate_dst (N := 4) rfl ?_); (try (refine gate_guard (by rfl) ?_; dsimp only)); refine box_event ?hg (N := 4) ?hd (cs := #[.int .i64 a0_0, .slice A0_1 l0_1.length c0_1]) (t := 39) ?hr ?_; (case hd => rfl); (case hg => rfl); (case hr => first | (go_simp; done) | (go_simp; rfl)); intro gb342 hg w10 hbox hb; have n0_ := Aside0.mk (below_step hb_ hb); have n1_ := Aside0.mk (hbox); have n2_ : Aside0 (w.heap.size ≤ gb342) := gz_; have n3_ : Aside0 (w.heap.size ≤ gb342) := gz_; clear HB; have HB := n0_; have BK342 := n1_; have GW342 := n2_; have GE342 := n3_; clear n0_ n1_ n2_ n3_; clear hb hbox hg; have hcz11_0 : w10.cell? ⟨gb342, 0, none⟩ = some (.int .i64 a0_0) := (blk_cell BK342.out 0).trans rfl; have hcz11_1 : w10.cell? ⟨gb342, 1, none⟩ = some (.slice A0_1 l0_1.length c0_1) := (blk_cell BK342.out 1).trans rfl; have hfz11_0 := blk_frozen BK342.out 0; have hfz11_1 := blk_frozen BK342.out 1)))
     go_ret
     exact ⟨er_, hb_⟩
    ·rw [if_neg c9] at H
     have c9b0 : decide (a0_0 ≤ (wrap64 ((Int.tmod a1 a0_0) + a2))) = false := decide_eq_false c9
     clear c9
     by_cases c12 : (wrap64 ((wrap64 (Int.tdiv a1 a0_0)) + a3)) < 0
     ·rw [if_pos c12] at H
      have c12b0 : decide ((wrap64 ((wrap64 (Int.tdiv a1 a0_0)) + a3)) < 0) = true := decide_eq_true c12
      clear c12
      obtain rfl := Option.some.inj H
      go_enter Try.func77, Try.ntmps77
      go_wp2_with (first | ((with_reducible refine gate_dst (N := 4) rfl ?_); (try (refine gate_guard (by rfl) ?_; dsimp only)); refine box_event ?hg (N := 4) ?hd (cs := #[.int .i64 a0_0, .slice A0_1 l0_1.length c0_1]) (t := 39) ?hr ?_; (case hd => rfl); (case hg => rfl); (case hr => first | (go_simp; done) | (go_simp; rfl)); intro gb342 hg w13 hbox hb; have n0_ := Aside0.mk (below_step hb_ hb); have n1_ := Aside0.mk (hbox); have n2_ : Aside0 (w.heap.size ≤ gb342) := gz_; have n3_ : Aside0 (w.heap.size ≤ gb342) := gz_; clear HB; have HB := n0_; have BK342 := n1_; have GW342 := n2_; have GE342 := n3_; clear n0_ n1_ n2_ n3_; clear hb hbox hg; have hcz14_0 : w13.cell? ⟨gb342, 0, none⟩ = some (.int .i64 a0_0) := (blk_cell BK342.out 0).trans rfl; have hcz14_1 : w13.cell? ⟨gb342, 1, none⟩ = some (.slice A0_1 l0_1.length c0_1) := (blk_cell BK342.out 1).trans rfl; have hfz14_0 := blk_frozen BK342.out 0; have hfz14_1 := blk_frozen BK342.out 1))
      repeat (go_quiet (first | ((with_reducible refine gate_dst (N := 4) rfl ?_); (try (refine gate_guard (by rfl) ?_; dsimp only)); refine box_event ?hg (N := 4) ?hd (cs := #[.int .i64 a0_0, .slice A0_1 l0_1.length c0_1]) (t := 39) ?hr ?_; (case hd => rfl); (case hg => rfl); (case hr => first | (go_simp; done) | (go_simp; rfl)); intro gb342 hg w13 hbox hb; have n0_ := Aside0.mk (below_step hb_ hb); have n1_ := Aside0.mk (hbox); have n2_ : Aside0 (w.heap.size ≤ gb342) := gz_; have n3_ : Aside0 (w.heap.size ≤ gb342) := gz_; clear HB; have HB := n0_; have BK342 := n1_; have GW342 := n2_; have GE342 := n3_; clear n0_ n1_ n2_ n3_; clear hb hbox hg; have hcz14_0 : w13.cell? ⟨gb342, 0, none⟩ = some (.int .i64 a0_0) := (blk_cell BK342.out 0).trans rfl; have hcz14_1 : w13.cell? ⟨gb342, 1, none⟩ = some (.slice A0_1 l0_1.length c0_1) := (blk_cell BK342.out 1).trans rfl; have hfz14_0 := blk_frozen BK342.out 0; have hfz14_1 := blk_frozen BK342.out 1)); try go_wp2_with (first | ((with_reducible refine gate_dst (N := 4) rfl ?_); (try (refine gate_guard (by rfl) ?_; dsimp only)); refine box_event ?hg (N := 4) ?hd (cs := #[.int .i64 a0_0, .slice A0_1 l0_1.length c0_1]) (t := 39) ?hr ?_; (case hd => rfl); (case hg => rfl); (case hr => first | (go_simp; done) | (go_simp; rfl)); intro gb342 hg w13 hbox hb; have n0_ := Aside0.mk (below_step hb_ hb); have n1_ := Aside0.mk (hbox); have n2_ : Aside0 (w.heap.size ≤ gb342) := gz_; have n3_ : Aside0 (w.heap.size ≤ gb342) := gz_; clear HB; have HB := n0_; have BK342 := n1_; have GW342 := n2_; have GE342 := n3_; clear n0_ n1_ n2_ n3_; clear hb hbox hg; have hcz14_0 : w13.cell? ⟨gb342, 0, none⟩ = some (.int .i64 a0_0) := (blk_cell BK342.out 0).trans rfl; have hcz14_1 : w13.cell? ⟨gb342, 1, none⟩ = some (.slice A0_1 l0_1.length c0_1) := (blk_cell BK342.out 1).trans rfl; have hfz14_0 := blk_frozen BK342.out 0; have hfz14_1 := blk_frozen BK342.out 1)))
      go_ret
      exact ⟨er_, hb_⟩
     ·rw [if_neg c12] at H
      have c12b0 : decide ((wrap64 ((wrap64 (Int.tdiv a1 a0_0)) + a3)) < 0) = false := decide_eq_false c12
      clear c12
      by_cases c15 : (wrap64 ((wrap64 (Int.tdiv a1 a0_0)) + a3)) ≥ (wrap64 ((l0_1.length : Int) / a0_0))
      ·rw [if_pos c15] at H
       have c15b0 : decide ((wrap64 ((l0_1.length : Int) / a0_0)) ≤ (wrap64 ((wrap64 (Int.tdiv a1 a0_0)) + a3))) = true := decide_eq_true c15
       clear c15
       obtain rfl := Option.some.inj H
       go_enter Try.func77, Try.ntmps77
       go_wp2_with (first | ((with_reducible refine gate_dst (N := 4) rfl ?_); (try (refine gate_guard (by rfl) ?_; dsimp only)); refine box_event ?hg (N := 4) ?hd (cs := #[.int .i64 a0_0, .slice A0_1 l0_1.length c0_1]) (t := 39) ?hr ?_; (case hd => rfl); (case hg => rfl); (case hr => first | (go_simp; done) | (go_simp; rfl)); intro gb342 hg w16 hbox hb; have n0_ := Aside0.mk (below_step hb_ hb); have n1_ := Aside0.mk (hbox); have n2_ : Aside0 (w.heap.size ≤ gb342) := gz_; have n3_ : Aside0 (w.heap.size ≤ gb342) := gz_; clear HB; have HB := n0_; have BK342 := n1_; have GW342 := n2_; have GE342 := n3_; clear n0_ n1_ n2_ n3_; clear hb hbox hg; have hcz17_0 : w16.cell? ⟨gb342, 0, none⟩ = some (.int .i64 a0_0) := (blk_cell BK342.out 0).trans rfl; have hcz17_1 : w16.cell? ⟨gb342, 1, none⟩ = some (.slice A0_1 l0_1.length c0_1) := (blk_cell BK342.out 1).trans rfl; have hfz17_0 := blk_frozen BK342.out 0; have hfz17_1 := blk_frozen BK342.out 1))
       repeat (go_quiet (first | ((with_reducible refine gate_dst (N := 4) rfl ?_); (try (refine gate_guard (by rfl) ?_; dsimp only)); refine box_event ?hg (N := 4) ?hd (cs := #[.int .i64 a0_0, .slice A0_1 l0_1.length c0_1]) (t := 39) ?hr ?_; (case hd => rfl); (case hg => rfl); (case hr => first | (go_simp; done) | (go_simp; rfl)); intro gb342 hg w16 hbox hb; have n0_ := Aside0.mk (below_step hb_ hb); have n1_ := Aside0.mk (hbox); have n2_ : Aside0 (w.heap.size ≤ gb342) := gz_; have n3_ : Aside0 (w.heap.size ≤ gb342) := gz_; clear HB; have HB := n0_; have BK342 := n1_; have GW342 := n2_; have GE342 := n3_; clear n0_ n1_ n2_ n3_; clear hb hbox hg; have hcz17_0 : w16.cell? ⟨gb342, 0, none⟩ = some (.int .i64 a0_0) := (blk_cell BK342.out 0).trans rfl; have hcz17_1 : w16.cell? ⟨gb342, 1, none⟩ = some (.slice A0_1 l0_1.length c0_1) := (blk_cell BK342.out 1).trans rfl; have hfz17_0 := blk_frozen BK342.out 0; have hfz17_1 := blk_frozen BK342.out 1)); try go_wp2_with (first | ((with_reducible refine gate_dst (N := 4) rfl ?_); (try (refine gate_guard (by rfl) ?_; dsimp only)); refine box_event ?hg (N := 4) ?hd (cs := #[.int .i64 a0_0, .slice A0_1 l0_1.length c0_1]) (t := 39) ?hr ?_; (case hd => rfl); (case hg => rfl); (case hr => first | (go_simp; done) | (go_simp; rfl)); intro gb342 hg w16 hbox hb; have n0_ := Aside0.mk (below_step hb_ hb); have n1_ := Aside0.mk (hbox); have n2_ : Aside0 (w.heap.size ≤ gb342) := gz_; have n3_ : Aside0 (w.heap.size ≤ gb342) := gz_; clear HB; have HB := n0_; have BK342 := n1_; have GW342 := n2_; have GE342 := n3_; clear n0_ n1_ n2_ n3_; clear hb hbox hg; have hcz17_0 : w16.cell? ⟨gb342, 0, none⟩ = some (.int .i64 a0_0) := (blk_cell BK342.out 0).trans rfl; have hcz17_1 : w16.cell? ⟨gb342, 1, none⟩ = some (.slice A0_1 l0_1.length c0_1) := (blk_cell BK342.out 1).trans rfl; have hfz17_0 := blk_frozen BK342.out 0; have hfz17_1 := blk_frozen BK342.out 1)))
       go_ret
       exact ⟨er_, hb_⟩
      ·rw [if_neg c15] at H
       have c15b0 : decide ((wrap64 ((l0_1.length : Int) / a0_0)) ≤ (wrap64 ((wrap64 (Int.tdiv a1 a0_0)) + a3))) = false := decide_eq_false c15
       clear c15
       obtain rfl := Option.some.inj H
       go_enter Try.func77, Try.ntmps77
       go_wp2_with (first | ((with_reducible refine gate_dst (N := 4) rfl ?_); (try (refine gate_guard (by rfl) ?_; dsimp only)); refine box_event ?hg (N := 4) ?hd (cs := #[.int .i64 a0_0, .slice A0_1 l0_1.length c0_1]) (t := 39) ?hr ?_; (case hd => rfl); (case hg => rfl); (case hr => first | (go_simp; done) | (go_simp; rfl)); intro gb342 hg w18 hbox hb; have n0_ := Aside0.mk (below_step hb_ hb); have n1_ := Aside0.mk (hbox); have n2_ : Aside0 (w.heap.size ≤ gb342) := gz_; have n3_ : Aside0 (w.heap.size ≤ gb342) := gz_; clear HB; have HB := n0_; have BK342 := n1_; have GW342 := n2_; have GE342 := n3_; clear n0_ n1_ n2_ n3_; clear hb hbox hg; have hcz19_0 : w18.cell? ⟨gb342, 0, none⟩ = some (.int .i64 a0_0) := (blk_cell BK342.out 0).trans rfl; have hcz19_1 : w18.cell? ⟨gb342, 1, none⟩ = some (.slice A0_1 l0_1.length c0_1) := (blk_cell BK342.out 1).trans rfl; have hfz19_0 := blk_frozen BK342.out 0; have hfz19_1 := blk_frozen BK342.out 1))
       repeat (go_quiet (first | ((with_reducible refine gate_dst (N := 4) rfl ?_); (try (refine gate_guard (by rfl) ?_; dsimp only)); refine box_event ?hg (N := 4) ?hd (cs := #[.int .i64 a0_0, .slice A0_1 l0_1.length c0_1]) (t := 39) ?hr ?_; (case hd => rfl); (case hg => rfl); (case hr => first | (go_simp; done) | (go_simp; rfl)); intro gb342 hg w18 hbox hb; have n0_ := Aside0.mk (below_step hb_ hb); have n1_ := Aside0.mk (hbox); have n2_ : Aside0 (w.heap.size ≤ gb342) := gz_; have n3_ : Aside0 (w.heap.size ≤ gb342) := gz_; clear HB; have HB := n0_; have BK342 := n1_; have GW342 := n2_; have GE342 := n3_; clear n0_ n1_ n2_ n3_; clear hb hbox hg; have hcz19_0 : w18.cell? ⟨gb342, 0, none⟩ = some (.int .i64 a0_0) := (blk_cell BK342.out 0).trans rfl; have hcz19_1 : w18.cell? ⟨gb342, 1, none⟩ = some (.slice A0_1 l0_1.length c0_1) := (blk_cell BK342.out 1).trans rfl; have hfz19_0 := blk_frozen BK342.out 0; have hfz19_1 := blk_frozen BK342.out 1)); try go_wp2_with (first | ((with_reducible refine gate_dst (N := 4) rfl ?_); (try (refine gate_guard (by rfl) ?_; dsimp only)); refine box_event ?hg (N := 4) ?hd (cs := #[.int .i64 a0_0, .slice A0_1 l0_1.length c0_1]) (t := 39) ?hr ?_; (case hd => rfl); (case hg => rfl); (case hr => first | (go_simp; done) | (go_simp; rfl)); intro gb342 hg w18 hbox hb; have n0_ := Aside0.mk (below_step hb_ hb); have n1_ := Aside0.mk (hbox); have n2_ : Aside0 (w.heap.size ≤ gb342) := gz_; have n3_ : Aside0 (w.heap.size ≤ gb342) := gz_; clear HB; have HB := n0_; have BK342 := n1_; have GW342 := n2_; have GE342 := n3_; clear n0_ n1_ n2_ n3_; clear hb hbox hg; have hcz19_0 : w18.cell? ⟨gb342, 0, none⟩ = some (.int .i64 a0_0) := (blk_cell BK342.out 0).trans rfl; have hcz19_1 : w18.cell? ⟨gb342, 1, none⟩ = some (.slice A0_1 l0_1.length c0_1) := (blk_cell BK342.out 1).trans rfl; have hfz19_0 := blk_frozen BK342.out 0; have hfz19_1 := blk_frozen BK342.out 1)))
       go_ret
       exact ⟨er_, hb_⟩

end Go.Proofs.Ytcldlljnaijmhaa.Pr
/-
Own text, by hand: the contract of (Cells).along.
-/
namespace Go.Proofs.Ytcldlljnaijmhaa.Pr
open Go.RowKit Go.Proofs.YtcldlljnaijmhaaW.PrintWords Go.Proofs.YtcldlljnaijmhaaW.PrintLast Go.Proofs.YtcldlljnaijmhaaW.PrintMore

set_option maxHeartbeats 1000000 in
set_option maxRecDepth 100000 in
theorem along0 (a0_0 : Int) (A0_1 : Option Addr) (c0_1 : Nat) (l0_1 : List Int) (a1 : Int) (r : Int) (w : World) (hr0_1 : Kd.C (Kd.int .i64) w A0_1 l0_1.length l0_1) (hc0_1 : l0_1.length ≤ c0_1) (h : impl_Cells_next.f a0_0 l0_1 a1 1 0 = some r) :
    Calls Try.prog 70 #[.agg #[.int .i64 a0_0, .slice A0_1 l0_1.length c0_1], .int .i64 a1, .int .i64 0] w fun e w' => e = .returned (.int .i64 r) ∧ Below w.heap.size w w' := by
  have H := Aside0.mk h
  clear h
  have HR := Aside0.mk hr0_1
  clear hr0_1
  have HC := Aside0.mk hc0_1
  clear hc0_1
  have i0 : ∀ w, (Instr.index 105 (.agg #[.int .i64 1, .int .i64 0, .int .i64 0, .int .i64 1, .int .i64 (-1), .int .i64 0, .int .i64 0, .int .i64 (-1)]) (.int .i64 0)).run Try.prog w = .ok (.agg #[.int .i64 1, .int .i64 0]) w := fun _ => by kernel_rfl
  have hu := Try.underlying39
  go_enter Try.func70, Try.ntmps70
  go_wp2_with (go_at_call 77; (with_reducible refine (impl_Cells_next.calls _ _ _ _ _ _ _ _ _ ?s1 HC.out H.out).mono ?_); (case s1 => exact Kd.C_below HR.out (below_alloc (below_alloc (Below.refl _ _) _) _)); rintro e w1 ⟨rfl, hb⟩)
  go_ret
  exact ⟨rfl, below_step (below_alloc (below_alloc (Below.refl _ _) _) _) hb⟩
set_option maxHeartbeats 1000000 in
set_option maxRecDepth 100000 in
theorem along1 (a0_0 : Int) (A0_1 : Option Addr) (c0_1 : Nat) (l0_1 : List Int) (a1 : Int) (r : Int) (w : World) (hr0_1 : Kd.C (Kd.int .i64) w A0_1 l0_1.length l0_1) (hc0_1 : l0_1.length ≤ c0_1) (h : impl_Cells_next.f a0_0 l0_1 a1 0 1 = some r) :
    Calls Try.prog 70 #[.agg #[.int .i64 a0_0, .slice A0_1 l0_1.length c0_1], .int .i64 a1, .int .i64 1] w fun e w' => e = .returned (.int .i64 r) ∧ Below w.heap.size w w' := by
  have H := Aside0.mk h
  clear h
  have HR := Aside0.mk hr0_1
  clear hr0_1
  have HC := Aside0.mk hc0_1
  clear hc0_1
  have i0 : ∀ w, (Instr.index 105 (.agg #[.int .i64 1, .int .i64 0, .int .i64 0, .int .i64 1, .int .i64 (-1), .int .i64 0, .int .i64 0, .int .i64 (-1)]) (.int .i64 1)).run Try.prog w = .ok (.agg #[.int .i64 0, .int .i64 1]) w := fun _ => by kernel_rfl
  have hu := Try.underlying39
  go_enter Try.func70, Try.ntmps70
  go_wp2_with (go_at_call 77; (with_reducible refine (impl_Cells_next.calls _ _ _ _ _ _ _ _ _ ?s1 HC.out H.out).mono ?_); (case s1 => exact Kd.C_below HR.out (below_alloc (below_alloc (Below.refl _ _) _) _)); rintro e w1 ⟨rfl, hb⟩)
  go_ret
  exact ⟨rfl, below_step (below_alloc (below_alloc (Below.refl _ _) _) _) hb⟩
set_option maxHeartbeats 1000000 in
set_option maxRecDepth 100000 in
theorem along2 (a0_0 : Int) (A0_1 : Option Addr) (c0_1 : Nat) (l0_1 : List Int) (a1 : Int) (r : Int) (w : World) (hr0_1 : Kd.C (Kd.int .i64) w A0_1 l0_1.length l0_1) (hc0_1 : l0_1.length ≤ c0_1) (h : impl_Cells_next.f a0_0 l0_1 a1 (-1) 0 = some r) :
    Calls Try.prog 70 #[.agg #[.int .i64 a0_0, .slice A0_1 l0_1.length c0_1], .int .i64 a1, .int .i64 2] w fun e w' => e = .returned (.int .i64 r) ∧ Below w.heap.size w w' := by
  have H := Aside0.mk h
  clear h
  have HR := Aside0.mk hr0_1
  clear hr0_1
  have HC := Aside0.mk hc0_1
  clear hc0_1
  have i0 : ∀ w, (Instr.index 105 (.agg #[.int .i64 1, .int .i64 0, .int .i64 0, .int .i64 1, .int .i64 (-1), .int .i64 0, .int .i64 0, .int .i64 (-1)]) (.int .i64 2)).run Try.prog w = .ok (.agg #[.int .i64 (-1), .int .i64 0]) w := fun _ => by kernel_rfl
  have hu := Try.underlying39
  go_enter Try.func70, Try.ntmps70
  go_wp2_with (go_at_call 77; (with_reducible refine (impl_Cells_next.calls _ _ _ _ _ _ _ _ _ ?s1 HC.out H.out).mono ?_); (case s1 => exact Kd.C_below HR.out (below_alloc (below_alloc (Below.refl _ _) _) _)); rintro e w1 ⟨rfl, hb⟩)
  go_ret
  exact ⟨rfl, below_step (below_alloc (below_alloc (Below.refl _ _) _) _) hb⟩
set_option maxHeartbeats 1000000 in
set_option maxRecDepth 100000 in
theorem along3 (a0_0 : Int) (A0_1 : Option Addr) (c0_1 : Nat) (l0_1 : List Int) (a1 : Int) (r : Int) (w : World) (hr0_1 : Kd.C (Kd.int .i64) w A0_1 l0_1.length l0_1) (hc0_1 : l0_1.length ≤ c0_1) (h : impl_Cells_next.f a0_0 l0_1 a1 0 (-1) = some r) :
    Calls Try.prog 70 #[.agg #[.int .i64 a0_0, .slice A0_1 l0_1.length c0_1], .int .i64 a1, .int .i64 3] w fun e w' => e = .returned (.int .i64 r) ∧ Below w.heap.size w w' := by
  have H := Aside0.mk h
  clear h
  have HR := Aside0.mk hr0_1
  clear hr0_1
  have HC := Aside0.mk hc0_1
  clear hc0_1
  have i0 : ∀ w, (Instr.index 105 (.agg #[.int .i64 1, .int .i64 0, .int .i64 0, .int .i64 1, .int .i64 (-1), .int .i64 0, .int .i64 0, .int .i64 (-1)]) (.int .i64 3)).run Try.prog w = .ok (.agg #[.int .i64 0, .int .i64 (-1)]) w := fun _ => by kernel_rfl
  have hu := Try.underlying39
  go_enter Try.func70, Try.ntmps70
  go_wp2_with (go_at_call 77; (with_reducible refine (impl_Cells_next.calls _ _ _ _ _ _ _ _ _ ?s1 HC.out H.out).mono ?_); (case s1 => exact Kd.C_below HR.out (below_alloc (below_alloc (Below.refl _ _) _) _)); rintro e w1 ⟨rfl, hb⟩)
  go_ret
  exact ⟨rfl, below_step (below_alloc (below_alloc (Below.refl _ _) _) _) hb⟩
theorem impl_Cells_along.calls (a0_0 : Int) (A0_1 : Option Addr) (c0_1 : Nat) (l0_1 : List Int) (a1 : Int) (a2 : Int) (r : Int) (w : World) (hr0_1 : Kd.C (Kd.int .i64) w A0_1 l0_1.length l0_1) (hc0_1 : l0_1.length ≤ c0_1) (h : impl_Cells_along.f a0_0 l0_1 a1 a2 = some r) :
    Calls Try.prog 70 #[.agg #[.int .i64 a0_0, .slice A0_1 l0_1.length c0_1], .int .i64 a1, .int .i64 a2] w fun e w' => e = .returned (.int .i64 r) ∧ Below w.heap.size w w' := by
  unfold impl_Cells_along.f at h
  by_cases h0 : a2 = 0
  · rw [if_pos h0] at h
    subst h0
    exact along0 a0_0 A0_1 c0_1 l0_1 a1 r w hr0_1 hc0_1 h
  rw [if_neg h0] at h
  by_cases h1 : a2 = 1
  · rw [if_pos h1] at h
    subst h1
    exact along1 a0_0 A0_1 c0_1 l0_1 a1 r w hr0_1 hc0_1 h
  rw [if_neg h1] at h
  by_cases h2 : a2 = 2
  · rw [if_pos h2] at h
    subst h2
    exact along2 a0_0 A0_1 c0_1 l0_1 a1 r w hr0_1 hc0_1 h
  rw [if_neg h2] at h
  by_cases h3 : a2 = 3
  · rw [if_pos h3] at h
    subst h3
    exact along3 a0_0 A0_1 c0_1 l0_1 a1 r w hr0_1 hc0_1 h
  rw [if_neg h3] at h
  cases h
end Go.Proofs.Ytcldlljnaijmhaa.Pr
-- Written by this session's own print (wip/tools/mkmp.py) out of the translation. Lean checks it.
namespace Go.Proofs.Ytcldlljnaijmhaa.Pr
open Go.RowKit Go.Proofs.YtcldlljnaijmhaaW.PrintWords Go.Proofs.YtcldlljnaijmhaaW.PrintLast Go.Proofs.YtcldlljnaijmhaaW.PrintMore
attribute [local go_sem] max2_int min2_int max_two min_two max_three min_three max_four min_four   -- for this text's walks alone
set_option linter.unusedVariables false
set_option linter.unusedSimpArgs false

def impl_Cells_goes.T2 : Bool × List (List Nat × List Nat) := (true, [([], []), ([], []), ([0, 1], [0, 1]), ([], []), ([], []), ([3, 4, 2], [3, 4]), ([], []), ([], []), ([], []), ([7, 8, 5], [7, 8]), ([], []), ([], []), ([10, 11, 9], [10, 11]), ([2, 5, 6, 9, 12], [2, 5, 6, 9, 12]), ([13], [13]), ([], [])])
def impl_Cells_goes.B2 : List Nat := [0, 0, 3, 0, 0, 31, 0, 0, 0, 447, 0, 0, 4031, 8191, 16383, 0]
theorem impl_Cells_goes.tab2 : rtab .any (opsOf Try.f58 2) = impl_Cells_goes.T2 := by kernel_rfl
theorem impl_Cells_goes.bits2 : waitsOk impl_Cells_goes.T2.2 impl_Cells_goes.B2 = true := by kernel_rfl
set_option maxHeartbeats 8000000 in
set_option maxRecDepth 100000 in
theorem impl_Cells_goes.calls (k : Nat) (a0_0 : Int) (A0_1 : Option Addr) (c0_1 : Nat) (l0_1 : List Int) (a1 : Int) (r : List Int) (w : World) (hr0_1 : Kd.C (Kd.int .i64) w A0_1 l0_1.length l0_1) (hc0_1 : l0_1.length ≤ c0_1) (h : impl_Cells_goes.f k a0_0 l0_1 a1 = some r) :
   Calls Try.prog 58 #[.agg #[.int .i64 a0_0, .slice A0_1 l0_1.length c0_1], .int .i64 a1] w fun e w' => ∃ v0_ : Value, e = .returned (v0_) ∧ Kd.R (Kd.int .i64) 3 w' w.heap.size (fun _ => True) v0_ r ∧ Below w.heap.size w w' := by
  have hu39 := Try.underlying39
  have HR0_1 := Aside0.mk hr0_1
  have HC0_1 := Aside0.mk hc0_1
  clear hr0_1 hc0_1
  have HB := Aside0.mk (Below.refl w.heap.size w)
  have H : ((impl_Cells_along.f a0_0 l0_1 a1 3).bind fun t344 => ((impl_Cells_along.f a0_0 l0_1 a1 2).bind fun t345 => ((impl_Cells_along.f a0_0 l0_1 a1 0).bind fun t346 => ((impl_Cells_along.f a0_0 l0_1 a1 1).bind fun t347 => ((some (([t344, t345, a1, t346, t347] : List Int) : List Int)).bind fun y348 => (impl_Cells_goes.l0 k ([] : List Int) y348 (y348.length : Int) 0 a0_0 l0_1)))))) = some r := h
  clear h
  replace H := Option.bind_eq_some_iff.mp H
  obtain ⟨t344, A30, H⟩ := H
  replace H : ((impl_Cells_along.f a0_0 l0_1 a1 2).bind fun t345 => ((impl_Cells_along.f a0_0 l0_1 a1 0).bind fun t346 => ((impl_Cells_along.f a0_0 l0_1 a1 1).bind fun t347 => ((some (([t344, t345, a1, t346, t347] : List Int) : List Int)).bind fun y348 => (impl_Cells_goes.l0 k ([] : List Int) y348 (y348.length : Int) 0 a0_0 l0_1))))) = some r := H
  have A3 := Aside0.mk A30
  clear A30
  replace H := Option.bind_eq_some_iff.mp H
  obtain ⟨t345, A40, H⟩ := H
  replace H : ((impl_Cells_along.f a0_0 l0_1 a1 0).bind fun t346 => ((impl_Cells_along.f a0_0 l0_1 a1 1).bind fun t347 => ((some (([t344, t345, a1, t346, t347] : List Int) : List Int)).bind fun y348 => (impl_Cells_goes.l0 k ([] : List Int) y348 (y348.length : Int) 0 a0_0 l0_1)))) = some r := H
  have A4 := Aside0.mk A40
  clear A40
  replace H := Option.bind_eq_some_iff.mp H
  obtain ⟨t346, A50, H⟩ := H
  replace H : ((impl_Cells_along.f a0_0 l0_1 a1 1).bind fun t347 => ((some (([t344, t345, a1, t346, t347] : List Int) : List Int)).bind fun y348 => (impl_Cells_goes.l0 k ([] : List Int) y348 (y348.length : Int) 0 a0_0 l0_1))) = some r := H
  have A5 := Aside0.mk A50
  clear A50
  replace H := Option.bind_eq_some_iff.mp H
  obtain ⟨t347, A60, H⟩ := H
  replace H : ((some (([t344, t345, a1, t346, t347] : List Int) : List Int)).bind fun y348 => (impl_Cells_goes.l0 k ([] : List Int) y348 (y348.length : Int) 0 a0_0 l0_1)) = some r := H
  have A6 := Aside0.mk A60
  clear A60
  obtain ⟨y348, hy348⟩ : ∃ y_ : List Int, y_ = (([t344, t345, a1, t346, t347] : List Int)) := ⟨_, rfl⟩
  replace H : (impl_Cells_goes.l0 k ([] : List Int) y348 (y348.length : Int) 0 a0_0 l0_1) = some r := by first | (rw [hy348]; with_reducible exact H) | (have H2_ := (Option.bind_some _ _).symm.trans H; rw [hy348]; with_reducible exact H2_) | (have H2_ := (Option.bind_some _ _).symm.trans H; with_reducible exact H2_) | with_reducible exact H | (rw [hy348]; exact H) | exact H
  have Ny348 := Aside0.mk hy348
  clear hy348
  have H' := Aside0.mk H
  clear H
  go_enter Try.func58, Try.ntmps58
  try go_wp2_with (first | ((with_reducible refine gate_dst (N := 2) rfl ?_); refine box_event ?hg (N := 2) ?hd (cs := #[.int .i64 a0_0, .slice A0_1 l0_1.length c0_1]) (t := 39) ?hr ?_; (case hd => rfl); (case hg => rfl); (case hr => first | (go_simp; done) | (go_simp; rfl)); intro gb343 hg w7 hbox hb; have n0_ := Aside0.mk (below_step hb_ hb); have n1_ := Aside0.mk (hbox); have n2_ : Aside0 (w.heap.size ≤ gb343) := gz_; have n3_ : Aside0 (w.heap.size ≤ gb343) := gz_; clear HB; have HB := n0_; have BK343 := n1_; have GW343 := n2_; have GE343 := n3_; clear n0_ n1_ n2_ n3_; clear hb hbox hg))
  have n0_ := Aside0.mk (blk_drew BK343.out)
  have n1_ := Aside0.mk (below_drew1 HB.out)
  clear BK343
  clear HB
  have BK343 := n0_
  have HB := n1_
  clear n0_ n1_
  refine start_ (n := 16) (S := fun w' => w'.cell? ⟨gb343, 0, none⟩ = some (.int .i64 a0_0) ∧ w'.cell? ⟨gb343, 1, none⟩ = some (.slice A0_1 l0_1.length c0_1)) (ds := []) #[false, false, false, false, false, false, false, false, false, false, false, false, false, false, false, false] (by kernel_rfl) rfl rfl ⟨(blk_cell BK343.out 0).trans rfl, (blk_cell BK343.out 1).trans rfl⟩ (fun hHeld => ?_); refine with_tabW impl_Cells_goes.tab2 impl_Cells_goes.bits2 (fun HT_ HW_ => ?_)
  generalize w7.drew = w8 at BK343 HB hHeld ⊢
  refine pure_ (i := 1) (N := some 9) (v := ?_) (a' := ?_) #[false, true, false, false, false, false, false, false, false, false, false, false, false, false, false, false] rfl rfl (any_of HT_.out (by kernel_rfl)) (fun _ _ _ h => h) (Or.inl ⟨by rfl, ?_⟩) ?_ ?_
  rotate_left
  ·intro w'
   go_simp
   with_reducible rfl
  rotate_left
  ·simp only [Act.put, List.setIfInBounds_toArray, List.set_cons_zero, List.set_cons_succ, i64_w, i32_w]
   rfl
  refine pure_ (i := 4) (N := some 12) (v := ?_) (a' := ?_) #[false, true, false, false, true, false, false, false, false, false, false, false, false, false, false, false] rfl rfl (any_of HT_.out (by kernel_rfl)) (fun _ _ _ h => h) (Or.inl ⟨by rfl, ?_⟩) ?_ ?_
  rotate_left
  ·intro w'
   go_simp
   with_reducible rfl
  rotate_left
  ·simp only [Act.put, List.setIfInBounds_toArray, List.set_cons_zero, List.set_cons_succ, i64_w, i32_w]
   rfl
  refine pure_ (i := 6) (N := some 14) (v := ?_) (a' := ?_) #[false, true, false, false, true, false, true, false, false, false, false, false, false, false, false, false] rfl rfl (any_of HT_.out (by kernel_rfl)) (fun _ _ _ h => h) (Or.inl ⟨by rfl, ?_⟩) ?_ ?_
  rotate_left
  ·intro w'
   go_simp
   with_reducible rfl
  rotate_left
  ·simp only [Act.put, List.setIfInBounds_toArray, List.set_cons_zero, List.set_cons_succ, i64_w, i32_w]
   rfl
  refine pure_ (i := 8) (N := some 16) (v := ?_) (a' := ?_) #[false, true, false, false, true, false, true, false, true, false, false, false, false, false, false, false] rfl rfl (any_of HT_.out (by kernel_rfl)) (fun _ _ _ h => h) (Or.inl ⟨by rfl, ?_⟩) ?_ ?_
  rotate_left
  ·intro w'
   go_simp
   with_reducible rfl
  rotate_left
  ·simp only [Act.put, List.setIfInBounds_toArray, List.set_cons_zero, List.set_cons_succ, i64_w, i32_w]
   rfl
  refine pure_ (i := 11) (N := some 19) (v := ?_) (a' := ?_) #[false, true, false, false, true, false, true, false, true, false, false, true, false, false, false, false] rfl rfl (any_of HT_.out (by kernel_rfl)) (fun _ _ _ h => h) (Or.inl ⟨by rfl, ?_⟩) ?_ ?_
  rotate_left
  ·intro w'
   go_simp
   with_reducible rfl
  rotate_left
  ·simp only [Act.put, List.setIfInBounds_toArray, List.set_cons_zero, List.set_cons_succ, i64_w, i32_w]
   rfl
  refine pure_ (i := 15) (N := some 23) (v := ?_) (a' := ?_) #[false, true, false, false, true, false, true, false, true, false, false, true, false, false, false, true] rfl rfl (any_of HT_.out (by kernel_rfl)) (fun _ _ _ h => h) (Or.inl ⟨by rfl, ?_⟩) ?_ ?_
  rotate_left
  ·intro w'
   go_simp
   with_reducible rfl
  rotate_left
  ·simp only [Act.put, List.setIfInBounds_toArray, List.set_cons_zero, List.set_cons_succ, i64_w, i32_w]
   rfl
  refine take_ (i := 0) (N := some 8) (v := ?_) (a' := ?_) #[true, true, false, false, true, false, true, false, true, false, false, true, false, false, false, true] rfl rfl (take_ofW HT_.out HW_.out (by kernel_rfl)) (fun _ _ _ h => h) (Or.inl ⟨by rfl, ?_⟩) hHeld ?_ ?_
  rotate_left
  ·rintro w' ⟨s0, s1⟩
   go_simp
   with_reducible rfl
  rotate_left
  ·simp only [Act.put, List.setIfInBounds_toArray, List.set_cons_zero, List.set_cons_succ, i64_w, i32_w]
   rfl
  refine take_ (i := 3) (N := some 11) (v := ?_) (a' := ?_) #[true, true, false, true, true, false, true, false, true, false, false, true, false, false, false, true] rfl rfl (take_ofW HT_.out HW_.out (by kernel_rfl)) (fun _ _ _ h => h) (Or.inl ⟨by rfl, ?_⟩) hHeld ?_ ?_
  rotate_left
  ·rintro w' ⟨s0, s1⟩
   go_simp
   with_reducible rfl
  rotate_left
  ·simp only [Act.put, List.setIfInBounds_toArray, List.set_cons_zero, List.set_cons_succ, i64_w, i32_w]
   rfl
  refine take_ (i := 7) (N := some 15) (v := ?_) (a' := ?_) #[true, true, false, true, true, false, true, true, true, false, false, true, false, false, false, true] rfl rfl (take_ofW HT_.out HW_.out (by kernel_rfl)) (fun _ _ _ h => h) (Or.inl ⟨by rfl, ?_⟩) hHeld ?_ ?_
  rotate_left
  ·rintro w' ⟨s0, s1⟩
   go_simp
   with_reducible rfl
  rotate_left
  ·simp only [Act.put, List.setIfInBounds_toArray, List.set_cons_zero, List.set_cons_succ, i64_w, i32_w]
   rfl
  refine take_ (i := 10) (N := some 18) (v := ?_) (a' := ?_) #[true, true, false, true, true, false, true, true, true, false, true, true, false, false, false, true] rfl rfl (take_ofW HT_.out HW_.out (by kernel_rfl)) (fun _ _ _ h => h) (Or.inl ⟨by rfl, ?_⟩) hHeld ?_ ?_
  rotate_left
  ·rintro w' ⟨s0, s1⟩
   go_simp
   with_reducible rfl
  rotate_left
  ·simp only [Act.put, List.setIfInBounds_toArray, List.set_cons_zero, List.set_cons_succ, i64_w, i32_w]
   rfl
  refine one_ (i := 2) (N := some 10) #[true, true, true, true, true, false, true, true, true, false, true, true, false, false, false, true] rfl rfl (one_of HT_.out (by kernel_rfl)) (by decide) (fun K hK => ?_)
  refine goes_ Try.func70 (by kernel_rfl) rfl #[.agg #[.int .i64 a0_0, .slice A0_1 l0_1.length c0_1], .int .i64 a1, .int .i64 3] (by rfl) rfl rfl ls_ ?_
  with_reducible refine (impl_Cells_along.calls a0_0 _ _ l0_1 a1 3 t344 _ ?side1 ?side2 A3.out).mono ?_
  (case side1 => exact cb_ HR0_1.out)
  (case side2 => exact HC0_1.out)
  rintro e w9 ⟨rfl, hb⟩
  refine ⟨_, rfl, ?_⟩
  have n0_ := bb_ BK343 hb
  have n1_ := Aside0.mk (below_step hb_ hb)
  clear BK343
  clear HB
  have BK343 := n0_
  have HB := n1_
  clear n0_ n1_
  (try clear hb)
  (try clear hb2)
  (try clear hk)
  (try clear hi)
  refine hK.out _ _ ⟨(blk_cell BK343.out 0).trans rfl, (blk_cell BK343.out 1).trans rfl⟩ (fun hHeld => ?_)
  clear hK K
  refine norm_ (a' := ?_) ?_ ?_
  rotate_left
  ·show Act.put _ (some 10) _ = _
   simp only [Act.put, List.setIfInBounds_toArray, List.set_cons_zero, List.set_cons_succ, i64_w, i32_w]
   rfl
  refine one_ (i := 5) (N := some 13) #[true, true, true, true, true, true, true, true, true, false, true, true, false, false, false, true] rfl rfl (one_of HT_.out (by kernel_rfl)) (by decide) (fun K hK => ?_)
  refine goes_ Try.func70 (by kernel_rfl) rfl #[.agg #[.int .i64 a0_0, .slice A0_1 l0_1.length c0_1], .int .i64 a1, .int .i64 2] (by rfl) rfl rfl ls_ ?_
  with_reducible refine (impl_Cells_along.calls a0_0 _ _ l0_1 a1 2 t345 _ ?side1 ?side2 A4.out).mono ?_
  (case side1 => exact cb_ HR0_1.out)
  (case side2 => exact HC0_1.out)
  rintro e w10 ⟨rfl, hb⟩
  refine ⟨_, rfl, ?_⟩
  have n0_ := bb_ BK343 hb
  have n1_ := Aside0.mk (below_step hb_ hb)
  clear BK343
  clear HB
  have BK343 := n0_
  have HB := n1_
  clear n0_ n1_
  (try clear hb)
  (try clear hb2)
  (try clear hk)
  (try clear hi)
  refine hK.out _ _ ⟨(blk_cell BK343.out 0).trans rfl, (blk_cell BK343.out 1).trans rfl⟩ (fun hHeld => ?_)
  clear hK K
  refine norm_ (a' := ?_) ?_ ?_
  rotate_left
  ·show Act.put _ (some 13) _ = _
   simp only [Act.put, List.setIfInBounds_toArray, List.set_cons_zero, List.set_cons_succ, i64_w, i32_w]
   rfl
  refine one_ (i := 9) (N := some 17) #[true, true, true, true, true, true, true, true, true, true, true, true, false, false, false, true] rfl rfl (one_of HT_.out (by kernel_rfl)) (by decide) (fun K hK => ?_)
  refine goes_ Try.func70 (by kernel_rfl) rfl #[.agg #[.int .i64 a0_0, .slice A0_1 l0_1.length c0_1], .int .i64 a1, .int .i64 0] (by rfl) rfl rfl ls_ ?_
  with_reducible refine (impl_Cells_along.calls a0_0 _ _ l0_1 a1 0 t346 _ ?side1 ?side2 A5.out).mono ?_
  (case side1 => exact cb_ HR0_1.out)
  (case side2 => exact HC0_1.out)
  rintro e w11 ⟨rfl, hb⟩
  refine ⟨_, rfl, ?_⟩
  have n0_ := bb_ BK343 hb
  have n1_ := Aside0.mk (below_step hb_ hb)
  clear BK343
  clear HB
  have BK343 := n0_
  have HB := n1_
  clear n0_ n1_
  (try clear hb)
  (try clear hb2)
  (try clear hk)
  (try clear hi)
  refine hK.out _ _ ⟨(blk_cell BK343.out 0).trans rfl, (blk_cell BK343.out 1).trans rfl⟩ (fun hHeld => ?_)
  clear hK K
  refine norm_ (a' := ?_) ?_ ?_
  rotate_left
  ·show Act.put _ (some 17) _ = _
   simp only [Act.put, List.setIfInBounds_toArray, List.set_cons_zero, List.set_cons_succ, i64_w, i32_w]
   rfl
  refine one_ (i := 12) (N := some 20) #[true, true, true, true, true, true, true, true, true, true, true, true, true, false, false, true] rfl rfl (one_of HT_.out (by kernel_rfl)) (by decide) (fun K hK => ?_)
  refine goes_ Try.func70 (by kernel_rfl) rfl #[.agg #[.int .i64 a0_0, .slice A0_1 l0_1.length c0_1], .int .i64 a1, .int .i64 1] (by rfl) rfl rfl ls_ ?_
  with_reducible refine (impl_Cells_along.calls a0_0 _ _ l0_1 a1 1 t347 _ ?side1 ?side2 A6.out).mono ?_
  (case side1 => exact cb_ HR0_1.out)
  (case side2 => exact HC0_1.out)
  rintro e w12 ⟨rfl, hb⟩
  refine ⟨_, rfl, ?_⟩
  have n0_ := bb_ BK343 hb
  have n1_ := Aside0.mk (below_step hb_ hb)
  clear BK343
  clear HB
  have BK343 := n0_
  have HB := n1_
  clear n0_ n1_
  (try clear hb)
  (try clear hb2)
  (try clear hk)
  (try clear hi)
  refine hK.out _ _ ⟨(blk_cell BK343.out 0).trans rfl, (blk_cell BK343.out 1).trans rfl⟩ (fun hHeld => ?_)
  clear hK K
  refine norm_ (a' := ?_) ?_ ?_
  rotate_left
  ·show Act.put _ (some 20) _ = _
   simp only [Act.put, List.setIfInBounds_toArray, List.set_cons_zero, List.set_cons_succ, i64_w, i32_w]
   rfl
  refine one_ (i := 13) (N := some 21) #[true, true, true, true, true, true, true, true, true, true, true, true, true, true, false, true] rfl rfl (one_of HT_.out (by kernel_rfl)) (by decide) (fun K hK => ?_)
  refine Kd.R_lit_step (Kd.int .i64) _ 3 ?hg (N := 21) ?hd (xs := ([t344, t345, a1, t346, t347] : List Int)) (inner := [.int .i64 t344, .int .i64 t345, .int .i64 a1, .int .i64 t346, .int .i64 t347]) (ok := fun _ => True) (okp := fun _ => True) ?hr ?hp (fun _ hk => hk) trivial (Below.refl _ _) (Nat.le_refl _) (by simp) ?_; (case hd => rfl); (case hg => rfl); (case hr => first | (go_simp; done) | (go_simp; rfl)); (case hp => exact (Reps.one (show Kd.M (Kd.int .i64) _ _ _ t344 [.int .i64 t344] from rfl) (Reps.one (show Kd.M (Kd.int .i64) _ _ _ t345 [.int .i64 t345] from rfl) (Reps.one (show Kd.M (Kd.int .i64) _ _ _ a1 [.int .i64 a1] from rfl) (Reps.one (show Kd.M (Kd.int .i64) _ _ _ t346 [.int .i64 t346] from rfl) (Reps.one (show Kd.M (Kd.int .i64) _ _ _ t347 [.int .i64 t347] from rfl) (Reps.none _ _)))))))
  intro v349 w13 ho14 hb hg_ hnew_
  clear hg_ hnew_
  (first | rw [← Ny348.out] at ho14 | (simp only [Int.reduceToNat] at ho14; rw [← Ny348.out] at ho14))
  have n0_ := Aside0.mk (Kd.R_lower ho14 (below_size hb_))
  have n1_ := bb_ BK343 hb
  have n2_ := Aside0.mk (below_step hb_ hb)
  clear BK343
  clear HB
  have HO350 := n0_
  have BK343 := n1_
  have HB := n2_
  clear n0_ n1_ n2_
  clear hb ho14
  obtain ⟨Ao15, co15, eo15⟩ := Kd.R_slice HO350.out
  (first | subst eo15 | (injection eo15 with f1_ f2_ f3_; have f4_ := f1_.symm; have f5_ := f3_.symm; clear f1_ f2_ f3_; subst f4_; subst f5_))
  refine hK.out _ _ ⟨(blk_cell BK343.out 0).trans rfl, (blk_cell BK343.out 1).trans rfl⟩ (fun hHeld => ?_)
  clear hK K
  refine norm_ (a' := ?_) ?_ ?_
  rotate_left
  ·show Act.put _ (some 21) _ = _
   simp only [Act.put, List.setIfInBounds_toArray, List.set_cons_zero, List.set_cons_succ, i64_w, i32_w]
   rfl
  refine pure_ (i := 14) (N := some 22) (v := ?_) (a' := ?_) #[true, true, true, true, true, true, true, true, true, true, true, true, true, true, true, true] rfl rfl (any_of HT_.out (by kernel_rfl)) (fun _ _ _ h => h) (Or.inl ⟨by rfl, ?_⟩) ?_ ?_
  rotate_left
  ·intro w'
   go_simp
   with_reducible rfl
  rotate_left
  ·simp only [Act.put, List.setIfInBounds_toArray, List.set_cons_zero, List.set_cons_succ, i64_w, i32_w]
   rfl
  refine done_ (done_of HT_.out (by kernel_rfl)) ?_
  try go_wp2
  go_loopg [5, 23] k (fun kq v5 v23 w' => ∃ (x5_1 : List Int) (x23_1 : Int), v23 = .int .i64 x23_1 ∧ Aside0 (impl_Cells_goes.l0 kq x5_1 y348 (y348.length : Int) x23_1 a0_0 l0_1 = some r) ∧ Aside0 (kq ≤ k) ∧ Aside0 (Kd.R (Kd.int .i64) 3 w' w.heap.size (fun k_ => some k_ ≠ ((.slice Ao15 y348.length co15) : Value).ownBlock) v5 x5_1) ∧ Aside0 (Kd.R (Kd.int .i64) 3 w' w.heap.size (fun k_ => some k_ ≠ (v5 : Value).ownBlock) (.slice Ao15 y348.length co15) y348) ∧ Aside0 (w'.heap[gb343]? = some (.cells #[.int .i64 a0_0, (.slice A0_1 l0_1.length c0_1)] 39 (0, 0))) ∧ Aside0 (Below w.heap.size w w'))
  case atStart => exact ⟨(([] : List Int)), (0), es_, H', ⟨Nat.le_refl _⟩, ⟨by first | exact Kd.R_nil _ _ _ _ _ | exact Kd.N_nil _ _ _ _ _ | exact Kd.V_nil _ _ _ _ _ | exact Kd.Q_nil _ _ _ _ _ | exact Kd.S_nil _ _ _ _ _⟩, ⟨by (with_reducible repeat (first | apply Kd.R_alloc | apply Kd.R_drewN | apply Kd.R_drew)); exact Kd.R_mono HO350.out (fun _ hk => (by simp [Value.ownBlock]))⟩, ⟨bk_ BK343.out⟩, ⟨hb_⟩⟩
  case round =>
   clear H'
   try clear p2
   try clear c5
   try clear c7
   obtain ⟨x5_1, x23_1, rfl, HA, HK1, HO_5, HO_21, BK343, HB⟩ := hrel
   cases gk with
   | zero => exact absurd HA.out (by simp [impl_Cells_goes.l0])
   | succ k1 =>
    have H := HA.out
    clear HA
    simp only [impl_Cells_goes.l0] at H
    by_cases c16 : x23_1 < (y348.length : Int)
    ·rw [if_pos c16] at H
     have c16b0 : decide (x23_1 < (y348.length : Int)) = true := decide_eq_true c16
     clear c16
     by_cases c17 : 0 ≤ x23_1
     ·rw [if_pos c17] at H
      have c17b0 : decide (0 ≤ x23_1) = true := decide_eq_true c17
      clear c17
      by_cases c18 : x23_1 < (y348.length : Int)
      ·rw [if_pos c18] at H
       have c18b0 : decide (x23_1 < (y348.length : Int)) = true := decide_eq_true c18
       clear c18
       replace H := Option.bind_eq_some_iff.mp H
       obtain ⟨t352, A190, H⟩ := H
       replace H : (if t352 = true then (if x5_1.length < 17592186044416 then (impl_Cells_goes.l0 k1 (x5_1 ++ [rd y348 x23_1]) y348 (y348.length : Int) (wrap64 (x23_1 + 1)) a0_0 l0_1) else (none)) else (impl_Cells_goes.l0 k1 x5_1 y348 (y348.length : Int) (wrap64 (x23_1 + 1)) a0_0 l0_1)) = some r := H
       have A19 := Aside0.mk A190
       clear A190
       by_cases c20 : t352 = true
       ·subst c20
        rw [if_pos rfl] at H
        by_cases c21 : x5_1.length < 17592186044416
        ·rw [if_pos c21] at H
         have LMc21 := Aside0.mk c21
         clear c21
         obtain ⟨y353, hy353⟩ : ∃ y_ : List Int, y_ = (x5_1 ++ [rd y348 x23_1]) := ⟨_, rfl⟩
         replace H : (impl_Cells_goes.l0 k1 y353 y348 (y348.length : Int) (wrap64 (x23_1 + 1)) a0_0 l0_1) = some r := by first | (rw [hy353]; with_reducible exact H) | (have H2_ := (Option.bind_some _ _).symm.trans H; rw [hy353]; with_reducible exact H2_) | (have H2_ := (Option.bind_some _ _).symm.trans H; with_reducible exact H2_) | with_reducible exact H | (rw [hy353]; exact H) | exact H
         have Ny353 := Aside0.mk hy353
         clear hy353
         have H' := Aside0.mk H
         clear H
         have p351 : 0 ≤ (x23_1 : Int) := of_decide_eq_true as_
         have q351 : x23_1 < (y348.length : Int) := of_decide_eq_true as_
         obtain ⟨ad351, e351, hx351_0⟩ := Kd.at_int (Kd.R_reads' HO_21.out).2.2 x23_1 p351 q351
         cases e351
         replace p351 := eq_true p351
         replace q351 := eq_true q351
         have hcz22_0 : wr.cell? ⟨gb343, 0, none⟩ = some (.int .i64 a0_0) := (blk_cell BK343.out 0).trans rfl
         have hcz22_1 : wr.cell? ⟨gb343, 1, none⟩ = some (.slice A0_1 l0_1.length c0_1) := (blk_cell BK343.out 1).trans rfl
         have hfz22_0 := blk_frozen BK343.out 0
         have hfz22_1 := blk_frozen BK343.out 1
         go_wp2_with (first | ((with_reducible refine gate_callee (f := 55) rfl ?_); refine goesL_ (some 29) rfl rfl Try.func55 (by kernel_rfl) rfl #[.agg #[.int .i64 a0_0, .slice A0_1 l0_1.length c0_1], .int .i64 (rd y348 x23_1)] rfl ls_ ?_; (with_reducible refine (impl_Cells_free.calls a0_0 _ _ l0_1 (rd y348 x23_1) true _ ?side1 ?side2 A19.out).mono ?_); (case side1 => exact cb_ HR0_1.out); (case side2 => exact HC0_1.out); rintro e w23 ⟨rfl, hb⟩; refine ⟨_, rfl, ?_⟩; have n0_ := Aside0.mk (Kd.R_below (ra_ HO_5.out) hb); have n1_ := Aside0.mk (Kd.R_below (ra_ HO_21.out) hb); have n2_ := bb_ BK343 hb; have n3_ := Aside0.mk (below_step hb_ hb); clear HO_5; clear HO_21; clear BK343; clear HB; have HO_5 := n0_; have HO_21 := n1_; have BK343 := n2_; have HB := n3_; clear n0_ n1_ n2_ n3_; (try clear hb); (try clear hb2); (try clear hk); (try clear hi)) | ((with_reducible refine gate_builtin (b := .append) (xs := #[.tmp 30, .tmp 32]) rfl ?_); at_builtin; refine Kd.R_append (Kd.int .i64) (w0 := w) w.heap.size rfl (.tmp 30) (.tmp 32) 22 3 (.int .i64 0) 8 rfl Try.underlying22 info3 rfl (by decide) (by omega) u5 x5_1 (rd y348 x23_1) [.int .i64 (rd y348 x23_1)] (fun k_ => some k_ ≠ (.slice (some ad351) y348.length co15 : Value).ownBlock) (fun _ => False) rfl rfl ?aP (fun _ hk => hk.elim) ?aF ?aO ?aB ?aS ?aL ?_; (case aP => exact rfl); (case aB => exact hb_); (case aF => exact (fun k_ hk => Kd.fresh' (Kd.R_lt (ra_ HO_21.out)) k_ hk)); (case aO => exact (ra_ HO_5.out)); (case aS => exact (below_size hb_)); (case aL => have := LMc21.out; omega); intro v354 w24 ho hb hg hat; rw [← Ny353.out] at ho; have n0_ := Aside0.mk (Kd.R_after (ok := (fun _ => True)) (by (with_reducible repeat (first | apply Kd.R_alloc | apply Kd.R_drewN | apply Kd.R_drew)); exact Kd.R_mono HO_21.out (fun _ hk => ⟨trivial, hk⟩)) hg hat); have n1_ := Aside0.mk (blk_grown (g := gb343) (o := .cells #[.int .i64 a0_0, .slice A0_1 l0_1.length c0_1] 39 (0, 0)) (bk_ BK343.out) hg (Kd.R_ne HO_5.out BK343.out (by decide))); have n2_ := Aside0.mk (hb); have n3_ := Aside0.mk (ho); clear HO_21; clear BK343; clear HB; clear HO_5; have HO_21 := n0_; have BK343 := n1_; have HB := n2_; have HO355 := n3_; clear n0_ n1_ n2_ n3_; clear ho hb hg hat))
         go_roundg k1
         case measure => have := HK1.out; omega
         case rel => exact ⟨(y353), (wrap64 (x23_1 + 1)), es_, H', ⟨by have := HK1.out; omega⟩, ⟨ra_ HO355.out⟩, ⟨by (with_reducible repeat (first | apply Kd.R_alloc | apply Kd.R_drewN | apply Kd.R_drew)); exact Kd.R_mono HO_21.out (fun _ hk => hk.2)⟩, ⟨bk_ BK343.out⟩, ⟨hb_⟩⟩
        ·rw [if_neg c21] at H
         exact absurd H (by simp)
       ·replace c20 := Bool.eq_false_iff.mpr c20
        subst c20
        rw [if_neg (show ¬ (false = true) by decide)] at H
        have H' := Aside0.mk H
        clear H
        have p351 : 0 ≤ (x23_1 : Int) := of_decide_eq_true as_
        have q351 : x23_1 < (y348.length : Int) := of_decide_eq_true as_
        obtain ⟨ad351, e351, hx351_0⟩ := Kd.at_int (Kd.R_reads' HO_21.out).2.2 x23_1 p351 q351
        cases e351
        replace p351 := eq_true p351
        replace q351 := eq_true q351
        have hcz25_0 : wr.cell? ⟨gb343, 0, none⟩ = some (.int .i64 a0_0) := (blk_cell BK343.out 0).trans rfl
        have hcz25_1 : wr.cell? ⟨gb343, 1, none⟩ = some (.slice A0_1 l0_1.length c0_1) := (blk_cell BK343.out 1).trans rfl
        have hfz25_0 := blk_frozen BK343.out 0
        have hfz25_1 := blk_frozen BK343.out 1
        go_wp2_with (first | ((with_reducible refine gate_callee (f := 55) rfl ?_); refine goesL_ (some 29) rfl rfl Try.func55 (by kernel_rfl) rfl #[.agg #[.int .i64 a0_0, .slice A0_1 l0_1.length c0_1], .int .i64 (rd y348 x23_1)] rfl ls_ ?_; (with_reducible refine (impl_Cells_free.calls a0_0 _ _ l0_1 (rd y348 x23_1) false _ ?side1 ?side2 A19.out).mono ?_); (case side1 => exact cb_ HR0_1.out); (case side2 => exact HC0_1.out); rintro e w26 ⟨rfl, hb⟩; refine ⟨_, rfl, ?_⟩; have n0_ := Aside0.mk (Kd.R_below (ra_ HO_5.out) hb); have n1_ := Aside0.mk (Kd.R_below (ra_ HO_21.out) hb); have n2_ := bb_ BK343 hb; have n3_ := Aside0.mk (below_step hb_ hb); clear HO_5; clear HO_21; clear BK343; clear HB; have HO_5 := n0_; have HO_21 := n1_; have BK343 := n2_; have HB := n3_; clear n0_ n1_ n2_ n3_; (try clear hb); (try clear hb2); (try clear hk); (try clear hi)))
        go_roundg k1
        case measure => have := HK1.out; omega
        case rel => exact ⟨(x5_1), (wrap64 (x23_1 + 1)), es_, H', ⟨by have := HK1.out; omega⟩, ⟨ra_ HO_5.out⟩, ⟨ra_ HO_21.out⟩, ⟨bk_ BK343.out⟩, ⟨hb_⟩⟩
      ·rw [if_neg c18] at H
       exact absurd H (by simp)
     ·rw [if_neg c17] at H
      exact absurd H (by simp)
    ·rw [if_neg c16] at H
     have c16b0 : decide (x23_1 < (y348.length : Int)) = false := decide_eq_false c16
     clear c16
     obtain rfl := Option.some.inj H
     go_wp2
     go_ret
     exact ⟨_, er_, by (with_reducible repeat (first | apply Kd.R_alloc | apply Kd.R_drewN | apply Kd.R_drew)); exact Kd.R_mono HO_5.out (fun _ hk => trivial), hb_⟩

end Go.Proofs.Ytcldlljnaijmhaa.Pr
