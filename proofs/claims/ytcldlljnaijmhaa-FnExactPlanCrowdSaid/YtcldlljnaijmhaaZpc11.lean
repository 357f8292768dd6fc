-- Joined and pruned by wip/tools/prune.py out of this session's own texts (Pr26, Pr28, Pcr, PureMarks, PureMss, PurePlanS, PureCrowd)
import Derived.Test.YtcldlljnaijmhaaZpc10
-- Written by this session's own print (wip/tools/mkmp.py) out of the translation. Lean checks it.
namespace Go.Proofs.Ytcldlljnaijmhaa.Pr
open Go.RowKit Go.Proofs.YtcldlljnaijmhaaW.PrintWords Go.Proofs.YtcldlljnaijmhaaW.PrintLast Go.Proofs.YtcldlljnaijmhaaW.PrintMore
attribute [local go_sem] max2_int min2_int max_two min_two max_three min_three max_four min_four   -- for this text's walks alone
set_option linter.unusedVariables false
set_option linter.unusedSimpArgs false

set_option maxHeartbeats 8000000 in
set_option maxRecDepth 100000 in
theorem spec_PlanCrowd.calls (k : Nat) (a0_0 : Int) (A0_1 : Option Addr) (c0_1 : Nat) (l0_1 : List Int) (A1 : Option Addr) (c1 : Nat) (l1 : List (S49)) (a2 : Int) (r1 : List (List Int)) (r2 : Bool) (w : World) (hr0_1 : Kd.C (Kd.int .i64) w A0_1 l0_1.length l0_1) (hc0_1 : l0_1.length ≤ c0_1) (hr1 : Kd.C k49 w A1 l1.length l1) (hc1 : l1.length ≤ c1) (h : spec_PlanCrowd.f k a0_0 l0_1 l1 a2 = some (r1, r2)) :
   Calls Try.prog 38 #[.agg #[.int .i64 a0_0, .slice A0_1 l0_1.length c0_1], .slice A1 l1.length c1, .int .i64 a2] w fun e w' => ∃ v0_ : Value, e = .returned (.tuple #[v0_, .bool r2]) ∧ Kd.S (Kd.slice 3 (Kd.int .i64)) 22 w' w.heap.size (fun _ => True) v0_ r1 ∧ Below w.heap.size w w' := by
  have hu39 := Try.underlying39
  have hu49 := Try.underlying49
  have HR0_1 := Aside0.mk hr0_1
  have HC0_1 := Aside0.mk hc0_1
  clear hr0_1 hc0_1
  have HR1 := Aside0.mk hr1
  have HC1 := Aside0.mk hc1
  clear hr1 hc1
  have HB := Aside0.mk (Below.refl w.heap.size w)
  have H : ((spec_GoodTrips.f k a0_0 l0_1 l1).bind fun t489 => (if t489 = true then (if a2 < 0 then (spec_PlanCrowd.j0 k l1 a2 true a0_0 l0_1) else (spec_PlanCrowd.j0 k l1 a2 (decide (a2 > 20)) a0_0 l0_1)) else (spec_PlanCrowd.j0 k l1 a2 true a0_0 l0_1))) = some (r1, r2) := h
  clear h
  have HC4 := Aside0.mk H
  clear H
  go_enter Try.func38, Try.ntmps38
  go_upto_region 1 with (first | ((with_reducible refine gate_dst (N := 3) rfl ?_); refine box_event ?hg (N := 3) ?hd (cs := #[.int .i64 a0_0, .slice A0_1 l0_1.length c0_1]) (t := 39) ?hr ?_; (case hd => rfl); (case hg => rfl); (case hr => first | (go_simp; done) | (go_simp; rfl)); intro gb488 hg w5 hbox hb; have n0_ := Aside0.mk (below_step hb_ hb); have n1_ := Aside0.mk (hbox); have n2_ : Aside0 (w.heap.size ≤ gb488) := gz_; have n3_ : Aside0 (w.heap.size ≤ gb488) := gz_; clear HB; have HB := n0_; have BK488 := n1_; have GW488 := n2_; have GE488 := n3_; clear n0_ n1_ n2_ n3_; clear hb hbox hg))
  (try simp only [Act.put, List.setIfInBounds_toArray, List.set_cons_zero, List.set_cons_succ])
  go_cut [24] (fun v24 wc => ∃ (kq : Nat) (x24_3 : Bool), v24 = .bool x24_3 ∧ Aside0 (spec_PlanCrowd.j0 kq l1 a2 x24_3 a0_0 l0_1 = some (r1, r2)) ∧ Aside0 (kq ≤ k) ∧ Aside0 (wc.heap[gb488]? = some (.cells #[.int .i64 a0_0, (.slice A0_1 l0_1.length c0_1)] 39 (0, 0))) ∧ Aside0 (Below w.heap.size w wc))
  case first =>
   have H := HC4.out
   clear HC4
   replace H := Option.bind_eq_some_iff.mp H
   obtain ⟨t489, A60, H⟩ := H
   replace H : (if t489 = true then (if a2 < 0 then (spec_PlanCrowd.j0 k l1 a2 true a0_0 l0_1) else (spec_PlanCrowd.j0 k l1 a2 (decide (a2 > 20)) a0_0 l0_1)) else (spec_PlanCrowd.j0 k l1 a2 true a0_0 l0_1)) = some (r1, r2) := H
   have A6 := Aside0.mk A60
   clear A60
   by_cases c7 : t489 = true
   ·subst c7
    rw [if_pos rfl] at H
    by_cases c8 : a2 < 0
    ·rw [if_pos c8] at H
     have c8b0 : decide (a2 < 0) = true := decide_eq_true c8
     clear c8
     (first | rw [c8b0] | (simp only [i64_w, i32_w]; rw [c8b0]) | skip)
     have H' := Aside0.mk H
     clear H
     have hcz9_0 : w5.cell? ⟨gb488, 0, none⟩ = some (.int .i64 a0_0) := (blk_cell BK488.out 0).trans rfl
     have hcz9_1 : w5.cell? ⟨gb488, 1, none⟩ = some (.slice A0_1 l0_1.length c0_1) := (blk_cell BK488.out 1).trans rfl
     have hfz9_0 := blk_frozen BK488.out 0
     have hfz9_1 := blk_frozen BK488.out 1
     go_wp2_with (first | ((with_reducible refine gate_callee (f := 25) rfl ?_); refine goesL_ (some 15) rfl rfl Try.func25 (by kernel_rfl) rfl #[.agg #[.int .i64 a0_0, .slice A0_1 l0_1.length c0_1], .slice A1 l1.length c1] rfl ls_ ?_; (with_reducible refine (spec_GoodTrips.calls k a0_0 _ _ l0_1 _ _ l1 true _ ?side1 ?side2 ?side3 ?side4 A6.out).mono ?_); (case side1 => exact cb_ HR0_1.out); (case side2 => exact HC0_1.out); (case side3 => exact cb_ HR1.out); (case side4 => exact HC1.out); rintro e w10 ⟨rfl, hb⟩; refine ⟨_, rfl, ?_⟩; have n0_ := bb_ BK488 hb; have n1_ := Aside0.mk (below_step hb_ hb); clear BK488; clear HB; have BK488 := n0_; have HB := n1_; clear n0_ n1_; (try clear hb); (try clear hb2); (try clear hk); (try clear hi)))
     go_meet
     case rel => exact ⟨_, (true), es_, H', ⟨by first | omega | exact Nat.le_refl _⟩, ⟨bk_ BK488.out⟩, ⟨hb_⟩⟩
    ·rw [if_neg c8] at H
     have c8b0 : decide (a2 < 0) = false := decide_eq_false c8
     clear c8
     (first | rw [c8b0] | (simp only [i64_w, i32_w]; rw [c8b0]) | skip)
     have H' := Aside0.mk H
     clear H
     have hcz11_0 : w5.cell? ⟨gb488, 0, none⟩ = some (.int .i64 a0_0) := (blk_cell BK488.out 0).trans rfl
     have hcz11_1 : w5.cell? ⟨gb488, 1, none⟩ = some (.slice A0_1 l0_1.length c0_1) := (blk_cell BK488.out 1).trans rfl
     have hfz11_0 := blk_frozen BK488.out 0
     have hfz11_1 := blk_frozen BK488.out 1
     go_wp2_with (first | ((with_reducible refine gate_callee (f := 25) rfl ?_); refine goesL_ (some 15) rfl rfl Try.func25 (by kernel_rfl) rfl #[.agg #[.int .i64 a0_0, .slice A0_1 l0_1.length c0_1], .slice A1 l1.length c1] rfl ls_ ?_; (with_reducible refine (spec_GoodTrips.calls k a0_0 _ _ l0_1 _ _ l1 true _ ?side1 ?side2 ?side3 ?side4 A6.out).mono ?_); (case side1 => exact cb_ HR0_1.out); (case side2 => exact HC0_1.out); (case side3 => exact cb_ HR1.out); (case side4 => exact HC1.out); rintro e w12 ⟨rfl, hb⟩; refine ⟨_, rfl, ?_⟩; have n0_ := bb_ BK488 hb; have n1_ := Aside0.mk (below_step hb_ hb); clear BK488; clear HB; have BK488 := n0_; have HB := n1_; clear n0_ n1_; (try clear hb); (try clear hb2); (try clear hk); (try clear hi)))
     go_meet
     case rel => exact ⟨_, (decide (a2 > 20)), es_, H', ⟨by first | omega | exact Nat.le_refl _⟩, ⟨bk_ BK488.out⟩, ⟨hb_⟩⟩
   ·replace c7 := Bool.eq_false_iff.mpr c7
    subst c7
    rw [if_neg (show ¬ (false = true) by decide)] at H
    have H' := Aside0.mk H
    clear H
    have hcz13_0 : w5.cell? ⟨gb488, 0, none⟩ = some (.int .i64 a0_0) := (blk_cell BK488.out 0).trans rfl
    have hcz13_1 : w5.cell? ⟨gb488, 1, none⟩ = some (.slice A0_1 l0_1.length c0_1) := (blk_cell BK488.out 1).trans rfl
    have hfz13_0 := blk_frozen BK488.out 0
    have hfz13_1 := blk_frozen BK488.out 1
    go_wp2_with (first | ((with_reducible refine gate_callee (f := 25) rfl ?_); refine goesL_ (some 15) rfl rfl Try.func25 (by kernel_rfl) rfl #[.agg #[.int .i64 a0_0, .slice A0_1 l0_1.length c0_1], .slice A1 l1.length c1] rfl ls_ ?_; (with_reducible refine (spec_GoodTrips.calls k a0_0 _ _ l0_1 _ _ l1 false _ ?side1 ?side2 ?side3 ?side4 A6.out).mono ?_); (case side1 => exact cb_ HR0_1.out); (case side2 => exact HC0_1.out); (case side3 => exact cb_ HR1.out); (case side4 => exact HC1.out); rintro e w14 ⟨rfl, hb⟩; refine ⟨_, rfl, ?_⟩; have n0_ := bb_ BK488 hb; have n1_ := Aside0.mk (below_step hb_ hb); clear BK488; clear HB; have BK488 := n0_; have HB := n1_; clear n0_ n1_; (try clear hb); (try clear hb2); (try clear hk); (try clear hi)))
    go_meet
    case rel => exact ⟨_, (true), es_, H', ⟨by first | omega | exact Nat.le_refl _⟩, ⟨bk_ BK488.out⟩, ⟨hb_⟩⟩
  case rest =>
   clear HC4
   try clear c1
   try clear c2
   try clear p2
   try clear c3
   try clear c7
   try clear c8
   try clear c8b0
   try clear hcz11_0
   try clear hcz11_1
   try clear hcz13_0
   try clear hcz13_1
   try clear hcz9_0
   try clear hcz9_1
   try clear hfz11_0
   try clear hfz11_1
   try clear hfz13_0
   try clear hfz13_1
   try clear hfz9_0
   try clear hfz9_1
   obtain ⟨kq, x24_3, rfl, HA, HJ3, BK488, HB⟩ := hcut
   cases kq with
   | zero => exact absurd HA.out (by simp [spec_PlanCrowd.j0])
   | succ kj3 =>
    have H := HA.out
    clear HA
    simp only [spec_PlanCrowd.j0] at H
    by_cases c15 : x24_3 = true
    ·subst c15
     rw [if_pos rfl] at H
     simp only [Option.some.injEq, Prod.mk.injEq] at H
     obtain ⟨rfl, rfl⟩ := H
     go_wp2
     go_ret2
     exact ⟨_, er_, by first | exact Kd.S_nil _ _ _ _ _ | exact Kd.N_nil _ _ _ _ _ | exact Kd.V_nil _ _ _ _ _ | exact Kd.Q_nil _ _ _ _ _ | exact Kd.R_nil _ _ _ _ _, hb_⟩
    ·replace c15 := Bool.eq_false_iff.mpr c15
     subst c15
     rw [if_neg (show ¬ (false = true) by decide)] at H
     have H' := Aside0.mk H
     clear H
     go_wp2
     go_loopg [8, 27] kj3 (fun kq v8 v27 w' => ∃ (x8_2 : List (List Int)) (x27_2 : Int), v27 = .int .i64 x27_2 ∧ Aside0 (spec_PlanCrowd.l0 kq a2 x8_2 l1 (l1.length : Int) x27_2 a0_0 l0_1 = some (r1, r2)) ∧ Aside0 (kq ≤ kj3) ∧ Aside0 (Kd.S (Kd.slice 3 (Kd.int .i64)) 22 w' w.heap.size (fun _ => True) v8 x8_2) ∧ Aside0 (w'.heap[gb488]? = some (.cells #[.int .i64 a0_0, (.slice A0_1 l0_1.length c0_1)] 39 (0, 0))) ∧ Aside0 (Below w.heap.size w w'))
     case atStart => exact ⟨(([] : List (List Int))), (0), es_, H', ⟨Nat.le_refl _⟩, ⟨by first | exact Kd.S_nil _ _ _ _ _ | exact Kd.N_nil _ _ _ _ _ | exact Kd.V_nil _ _ _ _ _ | exact Kd.Q_nil _ _ _ _ _ | exact Kd.R_nil _ _ _ _ _⟩, ⟨bk_ BK488.out⟩, ⟨hb_⟩⟩
     case round =>
      clear H'
      try clear c1
      try clear c2
      try clear p2
      try clear c3
      try clear c7
      try clear c8
      try clear c8b0
      try clear c15
      try clear hcz11_0
      try clear hcz11_1
      try clear hcz13_0
      try clear hcz13_1
      try clear hcz9_0
      try clear hcz9_1
      try clear hfz11_0
      try clear hfz11_1
      try clear hfz13_0
      try clear hfz13_1
      try clear hfz9_0
      try clear hfz9_1
      try clear p2
      obtain ⟨x8_2, x27_2, rfl, HA, HK2, HO_8, BK488, HB⟩ := hrel
      cases gk with
      | zero => exact absurd HA.out (by simp [spec_PlanCrowd.l0])
      | succ k2 =>
       have H := HA.out
       clear HA
       simp only [spec_PlanCrowd.l0] at H
       by_cases c16 : x27_2 < (l1.length : Int)
       ·rw [if_pos c16] at H
        have c16b0 : decide (x27_2 < (l1.length : Int)) = true := decide_eq_true c16
        clear c16
        by_cases c17 : 0 ≤ x27_2
        ·rw [if_pos c17] at H
         have c17b0 : decide (0 ≤ x27_2) = true := decide_eq_true c17
         clear c17
         by_cases c18 : x27_2 < (l1.length : Int)
         ·rw [if_pos c18] at H
          have c18b0 : decide (x27_2 < (l1.length : Int)) = true := decide_eq_true c18
          clear c18
          replace H := Option.bind_eq_some_iff.mp H
          obtain ⟨⟨t492, t495⟩, A190, H⟩ := H
          replace H : (if t495 = true then (if x8_2.length < 5864062014805 then (spec_PlanCrowd.l0 k2 a2 (x8_2 ++ [t492]) l1 (l1.length : Int) (wrap64 (x27_2 + 1)) a0_0 l0_1) else (none)) else (some (([] : List (List Int)), false))) = some (r1, r2) := H
          have A19 := Aside0.mk A190
          clear A190
          by_cases c20 : t495 = true
          ·subst c20
           rw [if_pos rfl] at H
           by_cases c21 : x8_2.length < 5864062014805
           ·rw [if_pos c21] at H
            have LMc21 := Aside0.mk c21
            clear c21
            obtain ⟨y496, hy496⟩ : ∃ y_ : List (List Int), y_ = (x8_2 ++ [t492]) := ⟨_, rfl⟩
            replace H : (spec_PlanCrowd.l0 k2 a2 y496 l1 (l1.length : Int) (wrap64 (x27_2 + 1)) a0_0 l0_1) = some (r1, r2) := by first | (rw [hy496]; with_reducible exact H) | (have H2_ := (Option.bind_some _ _).symm.trans H; rw [hy496]; with_reducible exact H2_) | (have H2_ := (Option.bind_some _ _).symm.trans H; with_reducible exact H2_) | with_reducible exact H | (rw [hy496]; exact H) | exact H
            have Ny496 := Aside0.mk hy496
            clear hy496
            have H' := Aside0.mk H
            clear H
            have p490 : 0 ≤ (x27_2 : Int) := of_decide_eq_true as_
            have q490 : x27_2 < (l1.length : Int) := of_decide_eq_true as_
            obtain ⟨ad490, e490, hx490_0, hx490_1⟩ := at_T49 HR1.out x27_2 p490 q490
            cases e490
            replace hx490_0 := hc_ HB hx490_0
            replace hx490_1 := hc_ HB hx490_1
            replace p490 := eq_true p490
            replace q490 := eq_true q490
            go_wp2_with (first | ((with_reducible refine gate_dst (N := 10) rfl ?_); refine box_event ?hg (N := 10) ?hd (cs := #[.int .i64 0, .int .i64 0]) (t := 49) ?hr ?_; (case hd => rfl); (case hg => rfl); (case hr => first | (go_simp; done) | (go_simp; rfl)); intro gb491 hg w22 hbox hb; have n0_ := Aside0.mk (Kd.S_below (sa_ HO_8.out) hb); have n1_ := bb_ BK488 hb; have n2_ := Aside0.mk (below_step hb_ hb); have n3_ := Aside0.mk (hbox); have n4_ : Aside0 (w.heap.size ≤ gb491) := gz_; have n5_ : Aside0 (w.heap.size ≤ gb491) := gz_; have n6_ := Aside0.mk ((by rw [hg]; exact Nat.ne_of_lt (blk_lt (g := gb488) (o := .cells #[.int .i64 a0_0, .slice A0_1 l0_1.length c0_1] 39 (0, 0)) (bk_ BK488.out)) : gb488 ≠ gb491)); have n7_ := Aside0.mk ((by rw [hg]; exact Nat.ne_of_gt (blk_lt (g := gb488) (o := .cells #[.int .i64 a0_0, .slice A0_1 l0_1.length c0_1] 39 (0, 0)) (bk_ BK488.out)) : gb491 ≠ gb488)); clear HO_8; clear BK488; clear HB; have HO_8 := n0_; have BK488 := n1_; have HB := n2_; have BK491 := n3_; have GW491 := n4_; have GE491 := n5_; have NB488_491 := n6_; have NB491_488 := n7_; clear n0_ n1_ n2_ n3_ n4_ n5_ n6_ n7_; clear hb hbox hg; have hnb23 := NB491_488.out; have hnc23 := NB488_491.out; have hcz24_0 : w22.cell? ⟨gb491, 0, none⟩ = some (.int .i64 0) := (blk_cell BK491.out 0).trans rfl; have hcz24_1 : w22.cell? ⟨gb491, 1, none⟩ = some (.int .i64 0) := (blk_cell BK491.out 1).trans rfl; have hfz24_0 := blk_frozen BK491.out 0; have hfz24_1 := blk_frozen BK491.out 1; have hcz25_0 : w22.cell? ⟨gb488, 0, none⟩ = some (.int .i64 a0_0) := (blk_cell BK488.out 0).trans rfl; have hcz25_1 : w22.cell? ⟨gb488, 1, none⟩ = some (.slice A0_1 l0_1.length c0_1) := (blk_cell BK488.out 1).trans rfl; have hfz25_0 := blk_frozen BK488.out 0; have hfz25_1 := blk_frozen BK488.out 1; obtain ⟨Ao26, co26, eo26⟩ := Kd.S_slice HO_8.out; subst eo26) | ((with_reducible refine gate_callee (f := 60) rfl ?_); refine goesL_ (some 36) rfl rfl Try.func60 (by kernel_rfl) rfl #[.agg #[.int .i64 a0_0, .slice A0_1 l0_1.length c0_1], .agg #[.int .i64 ((rd_T49 l1 x27_2).f0), .int .i64 ((rd_T49 l1 x27_2).f1)], .slice Ao26 x8_2.length co26, .int .i64 a2] rfl ls_ ?_; (with_reducible refine (spec_l20Path.calls k2 a0_0 _ _ l0_1 ((rd_T49 l1 x27_2).f0) ((rd_T49 l1 x27_2).f1) _ _ x8_2 a2 t492 true _ ?side1 ?side2 ?side3 ?side4 A19.out).mono ?_); (case side1 => exact Kd.C_below HR0_1.out hb_); (case side2 => exact HC0_1.out); (case side3 => refine (Kd.S_reads' (e := 22) (base := w.heap.size) (ok := fun k_ => True) (n := x8_2.length) (c := co26) ?_).2.2; exact (by (with_reducible repeat (first | apply Kd.S_alloc | apply Kd.S_drewN | apply Kd.S_drew)); exact (Kd.S_mono (Kd.S_far (p := ⟨gb491, 1, none⟩) (Kd.S_far (p := ⟨gb491, 0, none⟩) (Kd.S_types HO_8.out BK491.out (by decide)) (fun _ hk => hk.2) (.int .i64 ((rd_T49 l1 x27_2).f0))) (fun _ hk => hk.2) (.int .i64 ((rd_T49 l1 x27_2).f1))) (fun _ h_ => h_.1)))); (case side4 => exact (Kd.S_reads' HO_8.out).2.1); rintro e w27 ⟨v493, rfl, ho0, hb⟩; refine ⟨_, rfl, ?_⟩; have n0_ := Aside0.mk (Kd.S_elder' (by (with_reducible repeat (first | apply Kd.S_alloc | apply Kd.S_drewN | apply Kd.S_drew)); exact (Kd.S_mono (Kd.S_far (p := ⟨gb491, 1, none⟩) (Kd.S_far (p := ⟨gb491, 0, none⟩) (Kd.S_types HO_8.out BK491.out (by decide)) (fun _ hk => hk.2) (.int .i64 ((rd_T49 l1 x27_2).f0))) (fun _ hk => hk.2) (.int .i64 ((rd_T49 l1 x27_2).f1))) (fun _ h_ => h_.1))) (Kd.R_base ho0) hb); have n1_ := Aside0.mk (Kd.R_lower ho0 (below_size hb_)); have n2_ := Aside0.mk (blk_below (g := gb488) (o := .cells #[.int .i64 a0_0, .slice A0_1 l0_1.length c0_1] 39 (0, 0)) (by (with_reducible repeat (first | refine blk_drewN ?_ _ | refine blk_drew ?_ | refine blk_alloc ?_ _)); refine blk_far ?_ NB488_491.out _; (with_reducible repeat (first | refine blk_drewN ?_ _ | refine blk_drew ?_ | refine blk_alloc ?_ _)); refine blk_far ?_ NB488_491.out _; (with_reducible repeat (first | refine blk_drewN ?_ _ | refine blk_drew ?_ | refine blk_alloc ?_ _)); exact BK488.out) hb); have n3_ := Aside0.mk (blk_below (g := gb491) (o := .cells #[.int .i64 ((rd_T49 l1 x27_2).f0), .int .i64 ((rd_T49 l1 x27_2).f1)] 49 (0, 0)) (by (with_reducible repeat (first | refine blk_drewN ?_ _ | refine blk_drew ?_ | refine blk_alloc ?_ _)); refine blk_put (cs := #[.int .i64 ((rd_T49 l1 x27_2).f0), .int .i64 0]) ?_ 1 _ rfl; (with_reducible repeat (first | refine blk_drewN ?_ _ | refine blk_drew ?_ | refine blk_alloc ?_ _)); refine blk_put (cs := #[.int .i64 0, .int .i64 0]) ?_ 0 _ rfl; (with_reducible repeat (first | refine blk_drewN ?_ _ | refine blk_drew ?_ | refine blk_alloc ?_ _)); exact BK491.out) hb); have n4_ := Aside0.mk (below_step hb_ hb); clear HO_8; clear BK488; clear BK491; clear HB; have HO_8 := n0_; have HO494 := n1_; have BK488 := n2_; have BK491 := n3_; have HB := n4_; clear n0_ n1_ n2_ n3_ n4_; (try clear hb); (try clear hb2); (try clear hk); (try clear hi); (try clear ho0); obtain ⟨Ao29, co29, eo29⟩ := Kd.R_slice HO494.out; subst eo29) | ((with_reducible refine gate_builtin (b := .append) (xs := #[.tmp 41, .tmp 43]) rfl ?_); at_builtin; refine Kd.S_append (Kd.slice 3 (Kd.int .i64)) (w0 := w) w.heap.size rfl (.tmp 41) (.tmp 43) 27 22 (.slice none 0 0) 24 rfl Try.underlying27 info22 rfl (by decide) (by omega) (.slice Ao26 x8_2.length co26) x8_2 t492 [.slice Ao29 t492.length co29] (fun _ => True) (fun k_ => some k_ = (.slice Ao29 t492.length co29 : Value).ownBlock) rfl rfl ?aP (fun k_ hk_ => ((Kd.R_mono (ok' := fun k_ => ((fun _ => True)) k_ ∧ some k_ ≠ (.slice Ao26 x8_2.length co26 : Value).ownBlock) (Kd.R_apart' (HO494.out) (Kd.S_typed HO_8.out) (by decide)) (fun k_ hk => ⟨trivial, hk.2⟩))).1 k_ hk_.symm) ?aF ?aO ?aB ?aS ?aL ?_; (case aP => exact Kd.M_row (Kd.R_mono (Kd.R_tight rfl (Kd.R_mono (ok' := fun k_ => ((fun _ => True)) k_ ∧ some k_ ≠ (.slice Ao26 x8_2.length co26 : Value).ownBlock) (Kd.R_apart' (HO494.out) (Kd.S_typed HO_8.out) (by decide)) (fun k_ hk => ⟨trivial, hk.2⟩))) (fun _ h_ => h_))); (case aB => exact hb_); (case aF => exact (fun _ _ => trivial)); (case aO => exact (by (with_reducible repeat (first | apply Kd.S_alloc | apply Kd.S_drewN | apply Kd.S_drew)); exact Kd.S_mono HO_8.out (fun k_ hk => ⟨trivial, fun e_ => hk.2 e_⟩))); (case aS => exact (below_size hb_)); (case aL => have := LMc21.out; omega); intro v497 w28 ho hb hg hat; rw [← Ny496.out] at ho; have n0_ := Aside0.mk (blk_grown (g := gb488) (o := .cells #[.int .i64 a0_0, .slice A0_1 l0_1.length c0_1] 39 (0, 0)) (bk_ BK488.out) hg (Kd.S_ne HO_8.out BK488.out (by decide))); have n1_ := Aside0.mk (blk_grown (g := gb491) (o := .cells #[.int .i64 ((rd_T49 l1 x27_2).f0), .int .i64 ((rd_T49 l1 x27_2).f1)] 49 (0, 0)) (bk_ BK491.out) hg (Kd.S_ne HO_8.out BK491.out (by decide))); have n2_ := Aside0.mk (hb); have n3_ := Aside0.mk (ho); clear BK488; clear BK491; clear HB; clear HO_8; clear HO494; have BK488 := n0_; have BK491 := n1_; have HB := n2_; have HO498 := n3_; clear n0_ n1_ n2_ n3_; clear ho hb hg hat))
            go_roundg k2
            case measure => have := HJ3.out; have := HK2.out; omega
            case rel => exact ⟨(y496), (wrap64 (x27_2 + 1)), es_, H', ⟨by have := HJ3.out; have := HK2.out; omega⟩, ⟨sa_ HO498.out⟩, ⟨bk_ BK488.out⟩, ⟨hb_⟩⟩
           ·rw [if_neg c21] at H
            exact absurd H (by simp)
          ·replace c20 := Bool.eq_false_iff.mpr c20
           subst c20
           rw [if_neg (show ¬ (false = true) by decide)] at H
           simp only [Option.some.injEq, Prod.mk.injEq] at H
           obtain ⟨rfl, rfl⟩ := H
           have p490 : 0 ≤ (x27_2 : Int) := of_decide_eq_true as_
           have q490 : x27_2 < (l1.length : Int) := of_decide_eq_true as_
           obtain ⟨ad490, e490, hx490_0, hx490_1⟩ := at_T49 HR1.out x27_2 p490 q490
           cases e490
           replace hx490_0 := hc_ HB hx490_0
           replace hx490_1 := hc_ HB hx490_1
           replace p490 := eq_true p490
           replace q490 := eq_true q490
           go_wp2_with (first | ((with_reducible refine gate_dst (N := 10) rfl ?_); refine box_event ?hg (N := 10) ?hd (cs := #[.int .i64 0, .int .i64 0]) (t := 49) ?hr ?_; (case hd => rfl); (case hg => rfl); (case hr => first | (go_simp; done) | (go_simp; rfl)); intro gb491 hg w30 hbox hb; have n0_ := Aside0.mk (Kd.S_below (sa_ HO_8.out) hb); have n1_ := bb_ BK488 hb; have n2_ := Aside0.mk (below_step hb_ hb); have n3_ := Aside0.mk (hbox); have n4_ : Aside0 (w.heap.size ≤ gb491) := gz_; have n5_ : Aside0 (w.heap.size ≤ gb491) := gz_; have n6_ := Aside0.mk ((by rw [hg]; exact Nat.ne_of_lt (blk_lt (g := gb488) (o := .cells #[.int .i64 a0_0, .slice A0_1 l0_1.length c0_1] 39 (0, 0)) (bk_ BK488.out)) : gb488 ≠ gb491)); have n7_ := Aside0.mk ((by rw [hg]; exact Nat.ne_of_gt (blk_lt (g := gb488) (o := .cells #[.int .i64 a0_0, .slice A0_1 l0_1.length c0_1] 39 (0, 0)) (bk_ BK488.out)) : gb491 ≠ gb488)); clear HO_8; clear BK488; clear HB; have HO_8 := n0_; have BK488 := n1_; have HB := n2_; have BK491 := n3_; have GW491 := n4_; have GE491 := n5_; have NB488_491 := n6_; have NB491_488 := n7_; clear n0_ n1_ n2_ n3_ n4_ n5_ n6_ n7_; clear hb hbox hg; have hnb31 := NB491_488.out; have hnc31 := NB488_491.out; have hcz32_0 : w30.cell? ⟨gb491, 0, none⟩ = some (.int .i64 0) := (blk_cell BK491.out 0).trans rfl; have hcz32_1 : w30.cell? ⟨gb491, 1, none⟩ = some (.int .i64 0) := (blk_cell BK491.out 1).trans rfl; have hfz32_0 := blk_frozen BK491.out 0; have hfz32_1 := blk_frozen BK491.out 1; have hcz33_0 : w30.cell? ⟨gb488, 0, none⟩ = some (.int .i64 a0_0) := (blk_cell BK488.out 0).trans rfl; have hcz33_1 : w30.cell? ⟨gb488, 1, none⟩ = some (.slice A0_1 l0_1.length c0_1) := (blk_cell BK488.out 1).trans rfl; have hfz33_0 := blk_frozen BK488.out 0; have hfz33_1 := blk_frozen BK488.out 1; obtain ⟨Ao34, co34, eo34⟩ := Kd.S_slice HO_8.out; subst eo34) | ((with_reducible refine gate_callee (f := 60) rfl ?_); refine goesL_ (some 36) rfl rfl Try.func60 (by kernel_rfl) rfl #[.agg #[.int .i64 a0_0, .slice A0_1 l0_1.length c0_1], .agg #[.int .i64 ((rd_T49 l1 x27_2).f0), .int .i64 ((rd_T49 l1 x27_2).f1)], .slice Ao34 x8_2.length co34, .int .i64 a2] rfl ls_ ?_; (with_reducible refine (spec_l20Path.calls k2 a0_0 _ _ l0_1 ((rd_T49 l1 x27_2).f0) ((rd_T49 l1 x27_2).f1) _ _ x8_2 a2 t492 false _ ?side1 ?side2 ?side3 ?side4 A19.out).mono ?_); (case side1 => exact Kd.C_below HR0_1.out hb_); (case side2 => exact HC0_1.out); (case side3 => refine (Kd.S_reads' (e := 22) (base := w.heap.size) (ok := fun k_ => True) (n := x8_2.length) (c := co34) ?_).2.2; exact (by (with_reducible repeat (first | apply Kd.S_alloc | apply Kd.S_drewN | apply Kd.S_drew)); exact (Kd.S_mono (Kd.S_far (p := ⟨gb491, 1, none⟩) (Kd.S_far (p := ⟨gb491, 0, none⟩) (Kd.S_types HO_8.out BK491.out (by decide)) (fun _ hk => hk.2) (.int .i64 ((rd_T49 l1 x27_2).f0))) (fun _ hk => hk.2) (.int .i64 ((rd_T49 l1 x27_2).f1))) (fun _ h_ => h_.1)))); (case side4 => exact (Kd.S_reads' HO_8.out).2.1); rintro e w35 ⟨v493, rfl, ho0, hb⟩; refine ⟨_, rfl, ?_⟩; have n0_ := Aside0.mk (Kd.S_elder' (by (with_reducible repeat (first | apply Kd.S_alloc | apply Kd.S_drewN | apply Kd.S_drew)); exact (Kd.S_mono (Kd.S_far (p := ⟨gb491, 1, none⟩) (Kd.S_far (p := ⟨gb491, 0, none⟩) (Kd.S_types HO_8.out BK491.out (by decide)) (fun _ hk => hk.2) (.int .i64 ((rd_T49 l1 x27_2).f0))) (fun _ hk => hk.2) (.int .i64 ((rd_T49 l1 x27_2).f1))) (fun _ h_ => h_.1))) (Kd.R_base ho0) hb); have n1_ := Aside0.mk (Kd.R_lower ho0 (below_size hb_)); have n2_ := Aside0.mk (blk_below (g := gb488) (o := .cells #[.int .i64 a0_0, .slice A0_1 l0_1.length c0_1] 39 (0, 0)) (by (with_reducible repeat (first | refine blk_drewN ?_ _ | refine blk_drew ?_ | refine blk_alloc ?_ _)); refine blk_far ?_ NB488_491.out _; (with_reducible repeat (first | refine blk_drewN ?_ _ | refine blk_drew ?_ | refine blk_alloc ?_ _)); refine blk_far ?_ NB488_491.out _; (with_reducible repeat (first | refine blk_drewN ?_ _ | refine blk_drew ?_ | refine blk_alloc ?_ _)); exact BK488.out) hb); have n3_ := Aside0.mk (blk_below (g := gb491) (o := .cells #[.int .i64 ((rd_T49 l1 x27_2).f0), .int .i64 ((rd_T49 l1 x27_2).f1)] 49 (0, 0)) (by (with_reducible repeat (first | refine blk_drewN ?_ _ | refine blk_drew ?_ | refine blk_alloc ?_ _)); refine blk_put (cs := #[.int .i64 ((rd_T49 l1 x27_2).f0), .int .i64 0]) ?_ 1 _ rfl; (with_reducible repeat (first | refine blk_drewN ?_ _ | refine blk_drew ?_ | refine blk_alloc ?_ _)); refine blk_put (cs := #[.int .i64 0, .int .i64 0]) ?_ 0 _ rfl; (with_reducible repeat (first | refine blk_drewN ?_ _ | refine blk_drew ?_ | refine blk_alloc ?_ _)); exact BK491.out) hb); have n4_ := Aside0.mk (below_step hb_ hb); clear HO_8; clear BK488; clear BK491; clear HB; have HO_8 := n0_; have HO494 := n1_; have BK488 := n2_; have BK491 := n3_; have HB := n4_; clear n0_ n1_ n2_ n3_ n4_; (try clear hb); (try clear hb2); (try clear hk); (try clear hi); (try clear ho0)))
           go_ret2
           exact ⟨_, er_, by first | exact Kd.S_nil _ _ _ _ _ | exact Kd.N_nil _ _ _ _ _ | exact Kd.V_nil _ _ _ _ _ | exact Kd.Q_nil _ _ _ _ _ | exact Kd.R_nil _ _ _ _ _, hb_⟩
         ·rw [if_neg c18] at H
          exact absurd H (by simp)
        ·rw [if_neg c17] at H
         exact absurd H (by simp)
       ·rw [if_neg c16] at H
        have c16b0 : decide (x27_2 < (l1.length : Int)) = false := decide_eq_false c16
        clear c16
        simp only [Option.some.injEq, Prod.mk.injEq] at H
        obtain ⟨rfl, rfl⟩ := H
        go_wp2
        go_ret2
        exact ⟨_, er_, by (with_reducible repeat (first | apply Kd.S_alloc | apply Kd.S_drewN | apply Kd.S_drew)); exact HO_8.out, hb_⟩

end Go.Proofs.Ytcldlljnaijmhaa.Pr
-- Written by this session's own print (wip/tools/mkmp.py) out of the translation. Lean checks it.
namespace Go.Proofs.Ytcldlljnaijmhaa.Pr
open Go.RowKit Go.Proofs.YtcldlljnaijmhaaW.PrintWords Go.Proofs.YtcldlljnaijmhaaW.PrintLast Go.Proofs.YtcldlljnaijmhaaW.PrintMore
attribute [local go_sem] max2_int min2_int max_two min_two max_three min_three max_four min_four   -- for this text's walks alone
set_option linter.unusedVariables false
set_option linter.unusedSimpArgs false

set_option maxHeartbeats 8000000 in
set_option maxRecDepth 100000 in
theorem laws_markTripS.calls (k : Nat) (P0_ : Nat → Prop) (u9000_ : Value) (l0 : List (S49)) (a1 : Int) (r1 : Int) (r2 : List (S49)) (w0 w : World) (hB : Below w0.heap.size w0 w) (ho0 : Kd.R k49 49 w w0.heap.size P0_ u9000_ l0) (h : laws_markTripS.f k l0 a1 = some (r1, r2)) :
   Calls Try.prog 41 #[u9000_, .int .i64 a1] w fun e w' => e = .returned (.int .i64 r1) ∧ Kd.R k49 49 w' w0.heap.size (fun k_ => (P0_ k_ ∨ w.heap.size ≤ k_)) u9000_ r2 ∧ Below w0.heap.size w0 w' ∧ Kept w w' (fun k_ => P0_ k_) := by
  have HO0 := Aside0.mk (show Kd.R k49 49 w w0.heap.size (fun k_ => (P0_ k_ ∨ w.heap.size ≤ k_)) u9000_ l0 from Kd.R_mono ho0 (fun k_ hk => (.inl hk)))
  have HK := Aside0.mk (Kept.refl w (fun k_ => P0_ k_))
  have HW0 := Aside0.mk hB.size
  have HB := Aside0.mk hB
  clear hB
  have H : (laws_markTripS.l0 k l0 a1 0) = some (r1, r2) := h
  clear h
  have H' := Aside0.mk H
  clear H
  go_enter Try.func41, Try.ntmps41
  go_wp2
  go_loopg [1, 5] k (fun kq v1 v5 w' => ∃ (x0_1 : List (S49)) (x1_1 : Int) (x5_1 : Int), v1 = .int .i64 x1_1 ∧ v5 = .int .i64 x5_1 ∧ Aside0 (laws_markTripS.l0 kq x0_1 x1_1 x5_1 = some (r1, r2)) ∧ Aside0 (kq ≤ k) ∧ Aside0 (Kd.R k49 49 w' w0.heap.size (fun k_ => (P0_ k_ ∨ w.heap.size ≤ k_)) u9000_ x0_1) ∧ Aside0 (Kept w w' (fun k_ => P0_ k_)) ∧ Aside0 (Below w0.heap.size w0 w'))
  case atStart => exact ⟨(l0), (a1), (0), es_, es_, H', ⟨Nat.le_refl _⟩, ⟨ra_ HO0.out⟩, ⟨by repeat (first | (with_reducible first | exact HK.out | apply Kept.alloc | apply Kept.drewN | apply Kept.drew) | exact HK.out)⟩, ⟨hb_⟩⟩
  case round =>
   clear H'
   try clear p2
   obtain ⟨x0_1, x1_1, x5_1, rfl, rfl, HA, HK1, HO_0, HK, HB⟩ := hrel
   cases gk with
   | zero => exact absurd HA.out (by simp [laws_markTripS.l0])
   | succ k1 =>
    have H := HA.out
    clear HA
    simp only [laws_markTripS.l0] at H
    by_cases c3 : x5_1 < (x0_1.length : Int)
    ·rw [if_pos c3] at H
     have c3b0 : decide (x5_1 < (x0_1.length : Int)) = true := decide_eq_true c3
     clear c3
     by_cases c4 : 0 ≤ x5_1
     ·rw [if_pos c4] at H
      have c4b0 : decide (0 ≤ x5_1) = true := decide_eq_true c4
      clear c4
      obtain ⟨y514, hy514⟩ : ∃ y_ : List (S49), y_ = (x0_1.set (x5_1 : Int).toNat (⟨x1_1, (rd_T49 x0_1 x5_1).f1⟩ : S49)) := ⟨_, rfl⟩
      replace H : (laws_markTripS.l0 k1 (y514.set (x5_1 : Int).toNat (⟨(rd_T49 y514 x5_1).f0, wrap64 (x1_1 + 1)⟩ : S49)) (wrap64 ((wrap64 (x1_1 + 1)) + 1)) (wrap64 (x5_1 + 1))) = some (r1, r2) := by first | (rw [hy514]; with_reducible exact H) | (have H2_ := (Option.bind_some _ _).symm.trans H; rw [hy514]; with_reducible exact H2_) | (have H2_ := (Option.bind_some _ _).symm.trans H; with_reducible exact H2_) | with_reducible exact H | (rw [hy514]; exact H) | exact H
      have Ny514 := Aside0.mk hy514
      clear hy514
      obtain ⟨y515, hy515⟩ : ∃ y_ : List (S49), y_ = (y514.set (x5_1 : Int).toNat (⟨(rd_T49 y514 x5_1).f0, wrap64 (x1_1 + 1)⟩ : S49)) := ⟨_, rfl⟩
      replace H : (laws_markTripS.l0 k1 y515 (wrap64 ((wrap64 (x1_1 + 1)) + 1)) (wrap64 (x5_1 + 1))) = some (r1, r2) := by first | (rw [hy515]; with_reducible exact H) | (have H2_ := (Option.bind_some _ _).symm.trans H; rw [hy515]; with_reducible exact H2_) | (have H2_ := (Option.bind_some _ _).symm.trans H; with_reducible exact H2_) | with_reducible exact H | (rw [hy515]; exact H) | exact H
      have Ny515 := Aside0.mk hy515
      clear hy515
      have H' := Aside0.mk H
      clear H
      obtain ⟨Ao7, co7, eo7⟩ := Kd.R_slice HO_0.out
      subst eo7
      have p5 : 0 ≤ (x5_1 : Int) := of_decide_eq_true as_
      have q5 : (x5_1 : Int) < ((x0_1.length : Int) : Int) := of_decide_eq_true as_
      obtain ⟨go5, co5, eo5, gb5, gl5, cl5, HG5⟩ := Kd.R_form HO_0.out (by omega)
      (first | cases eo5 | (injection eo5 with ea_ en_ ec_; (first | subst ea_ | (injection ea_ with ea_; subst ea_)); subst ec_; clear en_))
      have GB5 := Aside0.mk gb5
      have GG5 := Aside0.mk HG5
      clear gb5 gl5 HG5
      have HMgo5 := Aside0.mk (show (P0_ go5 ∨ w.heap.size ≤ go5) from (HO_0.out.1 _ rfl))
      obtain ⟨ce5, hcl5, hM5, hcc5, hfr5⟩ := Kd.R_elem HO_0.out z49 (x5_1 : Int) p5 q5
      obtain rfl := k49_openM hM5
      have hx5_0 : wr.cell? ⟨go5, (x5_1 : Int).toNat * 2, none⟩ = some (.int .i64 ((rd_T49 x0_1 x5_1).f0)) := hcc5 0 _ rfl
      have hx5_1 : wr.cell? ⟨go5, (x5_1 : Int).toNat * 2 + 1, none⟩ = some (.int .i64 ((rd_T49 x0_1 x5_1).f1)) := hcc5 1 _ rfl
      have hf5_0 : wr.frozen? ⟨go5, (x5_1 : Int).toNat * 2, none⟩ = false := hfr5 0
      have hf5_1 : wr.frozen? ⟨go5, (x5_1 : Int).toNat * 2 + 1, none⟩ = false := hfr5 1
      clear hcl5 hcc5 hfr5; (try clear hM5)
      replace p5 := eq_true p5
      replace q5 := eq_true q5
      have HX8 := Aside0.mk (show Kd.R k49 49 wr w0.heap.size (fun k_ => (P0_ k_ ∨ w.heap.size ≤ k_)) (.slice (some ⟨go5, 0, none⟩) x0_1.length co7) x0_1 from (ra_ HO_0.out))
      obtain ⟨ce8, hcl8, hM8, hcc8, hfr8⟩ := Kd.R_elem HX8.out z49 (x5_1 : Int) (of_decide_eq_true as_) (by have h_ : (x5_1 : Int) < ((x0_1.length : Int) : Int) := of_decide_eq_true as_; first | exact h_ | (have e_ := (Kd.R_reads' HO_0.out).1; omega) | simpa using h_)
      obtain rfl := k49_openM hM8
      have HP8 := Kd.R_seg HX8.out (x5_1 : Int) (of_decide_eq_true as_) (by have h_ : (x5_1 : Int) < ((x0_1.length : Int) : Int) := of_decide_eq_true as_; first | exact h_ | (have e_ := (Kd.R_reads' HO_0.out).1; omega) | simpa using h_) (seg := [.int .i64 x1_1]) (j := 0) hcl8 hcc8 (show 1 ≤ 2 from by decide) (x' := (⟨x1_1, (rd_T49 x0_1 x5_1).f1⟩ : S49)) (k49_mkM _ _ _ (⟨x1_1, (rd_T49 x0_1 x5_1).f1⟩ : S49) ) (fun _ hk => hk)
      have hx8_0 := hcc8 0 _ rfl
      (try simp only [show (k49).sz = 2 from rfl, Nat.mul_one, Nat.add_zero] at hx8_0)
      have hf8_0 := hfr8 0
      (try simp only [show (k49).sz = 2 from rfl, Nat.mul_one, Nat.add_zero] at hf8_0)
      clear hcl8 hcc8 hfr8; (try clear hM8)
      go_wp2_with (first | ((with_reducible refine gate_store (t := 3) (p := 16) rfl ?_); refine store_event (t := 3) (p := 16) (v := ?vo_w9) (w1 := (wr.setCell ⟨go5, (x5_1 : Int).toNat * 2, none⟩ (.int .i64 x1_1))) ?hg ?ho ?hn ?hr ?_; (case ho => rfl); (case hg => rfl); (case hn => rfl); (case hr => first | (go_simp; done) | (go_simp; rfl)); intro w9 hw; have hg : wr.grownBy w9 (some go5) := (by rw [hw]; exact HP8.2); have hp_ : Kd.R k49 49 w9 w0.heap.size (fun k_ => (P0_ k_ ∨ w.heap.size ≤ k_)) (.slice (some ⟨go5, 0, none⟩) x0_1.length co7) y514 := (by rw [hw, Ny514.out]; exact HP8.1); clear HP8; have n0_ := Aside0.mk (hp_); have n1_ := Aside0.mk ((by rw [hw]; exact below_set (HB.out) GB5.out : Below w0.heap.size w0 w9)); have n2_ := Aside0.mk (Kept.of_grown (S := (fun k_ => P0_ k_)) hg (by repeat (first | (with_reducible first | exact HK.out | apply Kept.alloc | apply Kept.drewN | apply Kept.drew) | exact HK.out)) (fun k_ e_ => (HO_0.out.1 k_ e_))); clear HO_0; clear HB; clear HK; have HO_0 := n0_; have HB := n1_; have HK := n2_; clear n0_ n1_ n2_; clear hg hw hp_; have p6 : 0 ≤ (x5_1 : Int) := of_decide_eq_true as_; have q6 : (x5_1 : Int) < ((x0_1.length : Int) : Int) := of_decide_eq_true as_; obtain ⟨ce6, hcl6, hM6, hcc6, hfr6⟩ := Kd.R_elem HO_0.out z49 (x5_1 : Int) p6 q6; obtain rfl := k49_openM hM6; have hx6_0 : w9.cell? ⟨go5, (x5_1 : Int).toNat * 2, none⟩ = some (.int .i64 ((rd_T49 y514 x5_1).f0)) := hcc6 0 _ rfl; have hx6_1 : w9.cell? ⟨go5, (x5_1 : Int).toNat * 2 + 1, none⟩ = some (.int .i64 ((rd_T49 y514 x5_1).f1)) := hcc6 1 _ rfl; have hf6_0 : w9.frozen? ⟨go5, (x5_1 : Int).toNat * 2, none⟩ = false := hfr6 0; have hf6_1 : w9.frozen? ⟨go5, (x5_1 : Int).toNat * 2 + 1, none⟩ = false := hfr6 1; clear hcl6 hcc6 hfr6; (try clear hM6); replace p6 := eq_true p6; replace q6 := eq_true q6; have HX10 := Aside0.mk (show Kd.R k49 49 w9 w0.heap.size (fun k_ => (P0_ k_ ∨ w.heap.size ≤ k_)) (.slice (some ⟨go5, 0, none⟩) x0_1.length co7) y514 from (ra_ HO_0.out)); obtain ⟨ce10, hcl10, hM10, hcc10, hfr10⟩ := Kd.R_elem HX10.out z49 (x5_1 : Int) (of_decide_eq_true as_) (by have h_ : (x5_1 : Int) < ((x0_1.length : Int) : Int) := of_decide_eq_true as_; first | exact h_ | (have e_ := (Kd.R_reads' HO_0.out).1; omega) | simpa using h_); obtain rfl := k49_openM hM10; have HP10 := Kd.R_seg HX10.out (x5_1 : Int) (of_decide_eq_true as_) (by have h_ : (x5_1 : Int) < ((x0_1.length : Int) : Int) := of_decide_eq_true as_; first | exact h_ | (have e_ := (Kd.R_reads' HO_0.out).1; omega) | simpa using h_) (seg := [.int .i64 (wrap64 (x1_1 + 1))]) (j := 1) hcl10 hcc10 (show 2 ≤ 2 from by decide) (x' := (⟨(rd_T49 y514 x5_1).f0, wrap64 (x1_1 + 1)⟩ : S49)) (k49_mkM _ _ _ (⟨(rd_T49 y514 x5_1).f0, wrap64 (x1_1 + 1)⟩ : S49) ) (fun _ hk => hk); have hx10_1 := hcc10 1 _ rfl; (try simp only [show (k49).sz = 2 from rfl, Nat.mul_one, Nat.add_zero] at hx10_1); have hf10_1 := hfr10 1; (try simp only [show (k49).sz = 2 from rfl, Nat.mul_one, Nat.add_zero] at hf10_1); clear hcl10 hcc10 hfr10; (try clear hM10)) | ((with_reducible refine gate_store (t := 3) (p := 23) rfl ?_); refine store_event (t := 3) (p := 23) (v := ?vo_w11) (w1 := (w9.setCell ⟨go5, (x5_1 : Int).toNat * 2 + 1, none⟩ (.int .i64 (wrap64 (x1_1 + 1))))) ?hg ?ho ?hn ?hr ?_; (case ho => rfl); (case hg => rfl); (case hn => rfl); (case hr => first | (go_simp; done) | (go_simp; rfl)); intro w11 hw; have hg : w9.grownBy w11 (some go5) := (by rw [hw]; exact HP10.2); have hp_ : Kd.R k49 49 w11 w0.heap.size (fun k_ => (P0_ k_ ∨ w.heap.size ≤ k_)) (.slice (some ⟨go5, 0, none⟩) x0_1.length co7) y515 := (by rw [hw, Ny515.out]; exact HP10.1); clear HP10; have n0_ := Aside0.mk (hp_); have n1_ := Aside0.mk ((by rw [hw]; exact below_set (HB.out) GB5.out : Below w0.heap.size w0 w11)); have n2_ := Aside0.mk (Kept.of_grown (S := (fun k_ => P0_ k_)) hg (by repeat (first | (with_reducible first | exact HK.out | apply Kept.alloc | apply Kept.drewN | apply Kept.drew) | exact HK.out)) (fun k_ e_ => (HO_0.out.1 k_ e_))); clear HO_0; clear HB; clear HK; have HO_0 := n0_; have HB := n1_; have HK := n2_; clear n0_ n1_ n2_; clear hg hw hp_))
      go_roundg k1
      case measure => have := HK1.out; omega
      case rel => exact ⟨(y515), (wrap64 ((wrap64 (x1_1 + 1)) + 1)), (wrap64 (x5_1 + 1)), es_, es_, H', ⟨by have := HK1.out; omega⟩, ⟨ra_ HO_0.out⟩, ⟨by repeat (first | (with_reducible first | exact HK.out | apply Kept.alloc | apply Kept.drewN | apply Kept.drew) | exact HK.out)⟩, ⟨hb_⟩⟩
     ·rw [if_neg c4] at H
      exact absurd H (by simp)
    ·rw [if_neg c3] at H
     have c3b0 : decide (x5_1 < (x0_1.length : Int)) = false := decide_eq_false c3
     clear c3
     simp only [Option.some.injEq, Prod.mk.injEq] at H
     obtain ⟨rfl, rfl⟩ := H
     obtain ⟨Ao12, co12, eo12⟩ := Kd.R_slice HO_0.out
     subst eo12
     go_wp2
     go_ret
     exact ⟨er_, by (with_reducible repeat (first | apply Kd.R_alloc | apply Kd.R_drewN | apply Kd.R_drew)); exact HO_0.out, hb_, by repeat (first | (with_reducible first | exact HK.out | apply Kept.alloc | apply Kept.drewN | apply Kept.drew) | exact HK.out)⟩

-- NOT PRINTED: function 42 (laws_markIntSS)

set_option maxHeartbeats 8000000 in
set_option maxRecDepth 100000 in
theorem laws_heldIntS.calls (k : Nat) (A0 : Option Addr) (c0 : Nat) (l0 : List Int) (a1 : Int) (r : Int) (w : World) (hr0 : Kd.C (Kd.int .i64) w A0 l0.length l0) (hc0 : l0.length ≤ c0) (h : laws_heldIntS.f k l0 a1 = some r) :
   Calls Try.prog 17 #[.slice A0 l0.length c0, .int .i64 a1] w fun e w' => e = .returned (.int .i64 r) ∧ Drawn0 w w' := by
  have HR0 := Aside0.mk hr0
  have HC0 := Aside0.mk hc0
  clear hr0 hc0
  have H : (laws_heldIntS.l0 k l0 a1 0) = some r := h
  clear h
  have H' := Aside0.mk H
  clear H
  go_enter Try.func17, Try.ntmps17
  go_wp2
  go_loopg [1, 5] k (fun kq v1 v5 w' => ∃ (x1_1 : Int) (x5_1 : Int), v1 = .int .i64 x1_1 ∧ v5 = .int .i64 x5_1 ∧ Aside0 (laws_heldIntS.l0 kq l0 x1_1 x5_1 = some r) ∧ Aside0 (kq ≤ k) ∧ Drawn0 w w')
  case atStart => exact ⟨(a1), (0), es_, es_, H', ⟨Nat.le_refl _⟩, by repeat (first | exact Drawn0.refl _ | apply Drawn0.step)⟩
  case round =>
   clear H'
   try clear c1
   try clear p2
   obtain ⟨x1_1, x5_1, rfl, rfl, HA, HK1, ⟨m1, rfl⟩⟩ := hrel
   cases gk with
   | zero => exact absurd HA.out (by simp [laws_heldIntS.l0])
   | succ k1 =>
    have H := HA.out
    clear HA
    simp only [laws_heldIntS.l0] at H
    by_cases c3 : x5_1 < (l0.length : Int)
    ·rw [if_pos c3] at H
     have c3b0 : decide (x5_1 < (l0.length : Int)) = true := decide_eq_true c3
     clear c3
     by_cases c4 : 0 ≤ x5_1
     ·rw [if_pos c4] at H
      have c4b0 : decide (0 ≤ x5_1) = true := decide_eq_true c4
      clear c4
      by_cases c5 : (rd l0 x5_1) = x1_1
      ·rw [if_pos c5] at H
       have c5b0 : ((rd l0 x5_1) == x1_1) = true := beq_iff_eq.mpr c5
       have c5b1 : ((rd l0 x5_1) != x1_1) = false := bne_eq_false_iff_eq.mpr c5
       clear c5
       have H' := Aside0.mk H
       clear H
       have p517 : 0 ≤ (x5_1 : Int) := of_decide_eq_true as_
       have q517 : x5_1 < (l0.length : Int) := of_decide_eq_true as_
       obtain ⟨ad517, e517, hx517_0⟩ := Kd.at_int HR0.out x5_1 p517 q517
       cases e517
       replace p517 := eq_true p517
       replace q517 := eq_true q517
       go_wp2
       go_roundg k1
       case measure => have := HK1.out; omega
       case rel => exact ⟨(wrap64 (x1_1 + 1)), (wrap64 (x5_1 + 1)), es_, es_, H', ⟨by have := HK1.out; omega⟩, by repeat (first | exact Drawn0.refl _ | apply Drawn0.step)⟩
      ·rw [if_neg c5] at H
       have c5b0 : ((rd l0 x5_1) == x1_1) = false := beq_eq_false_iff_ne.mpr c5
       have c5b1 : ((rd l0 x5_1) != x1_1) = true := bne_iff_ne.mpr c5
       obtain rfl := Option.some.inj H
       have p517 : 0 ≤ (x5_1 : Int) := of_decide_eq_true as_
       have q517 : x5_1 < (l0.length : Int) := of_decide_eq_true as_
       obtain ⟨ad517, e517, hx517_0⟩ := Kd.at_int HR0.out x5_1 p517 q517
       cases e517
       replace p517 := eq_true p517
       replace q517 := eq_true q517
       go_wp2
       go_ret
       exact ⟨es_, by repeat (first | exact Drawn0.refl _ | apply Drawn0.step)⟩
     ·rw [if_neg c4] at H
      exact absurd H (by simp)
    ·rw [if_neg c3] at H
     have c3b0 : decide (x5_1 < (l0.length : Int)) = false := decide_eq_false c3
     clear c3
     obtain rfl := Option.some.inj H
     go_wp2
     go_ret
     exact ⟨es_, by repeat (first | exact Drawn0.refl _ | apply Drawn0.step)⟩

set_option maxHeartbeats 8000000 in
set_option maxRecDepth 100000 in
theorem laws_heldIntSS.calls (k : Nat) (A0 : Option Addr) (c0 : Nat) (l0 : List (List Int)) (a1 : Int) (r : Int) (w : World) (hr0 : Kd.C (Kd.slice 3 (Kd.int .i64)) w A0 l0.length l0) (hc0 : l0.length ≤ c0) (h : laws_heldIntSS.f k l0 a1 = some r) :
   Calls Try.prog 43 #[.slice A0 l0.length c0, .int .i64 a1] w fun e w' => e = .returned (.int .i64 r) ∧ Drawn0 w w' := by
  have HR0 := Aside0.mk hr0
  have HC0 := Aside0.mk hc0
  clear hr0 hc0
  have H : (laws_heldIntSS.l0 k l0 a1 0) = some r := h
  clear h
  have H' := Aside0.mk H
  clear H
  go_enter Try.func43, Try.ntmps43
  go_wp2
  go_loopg [1, 5] k (fun kq v1 v5 w' => ∃ (x1_1 : Int) (x5_1 : Int), v1 = .int .i64 x1_1 ∧ v5 = .int .i64 x5_1 ∧ Aside0 (laws_heldIntSS.l0 kq l0 x1_1 x5_1 = some r) ∧ Aside0 (kq ≤ k) ∧ Drawn0 w w')
  case atStart => exact ⟨(a1), (0), es_, es_, H', ⟨Nat.le_refl _⟩, by repeat (first | exact Drawn0.refl _ | apply Drawn0.step)⟩
  case round =>
   clear H'
   try clear p2
   obtain ⟨x1_1, x5_1, rfl, rfl, HA, HK1, ⟨m1, rfl⟩⟩ := hrel
   cases gk with
   | zero => exact absurd HA.out (by simp [laws_heldIntSS.l0])
   | succ k1 =>
    have H := HA.out
    clear HA
    simp only [laws_heldIntSS.l0] at H
    by_cases c3 : x5_1 < (l0.length : Int)
    ·rw [if_pos c3] at H
     have c3b0 : decide (x5_1 < (l0.length : Int)) = true := decide_eq_true c3
     clear c3
     by_cases c4 : 0 ≤ x5_1
     ·rw [if_pos c4] at H
      have c4b0 : decide (0 ≤ x5_1) = true := decide_eq_true c4
      clear c4
      replace H := Option.bind_eq_some_iff.mp H
      obtain ⟨t519, A50, H⟩ := H
      replace H : (if t519 < 0 then (some (-1)) else (laws_heldIntSS.l0 k1 l0 t519 (wrap64 (x5_1 + 1)))) = some r := H
      have A5 := Aside0.mk A50
      clear A50
      by_cases c6 : t519 < 0
      ·rw [if_pos c6] at H
       have c6b0 : decide (t519 < 0) = true := decide_eq_true c6
       clear c6
       obtain rfl := Option.some.inj H
       have p518 : 0 ≤ (x5_1 : Int) := of_decide_eq_true as_
       have q518 : x5_1 < (l0.length : Int) := of_decide_eq_true as_
       obtain ⟨ad518, A518_0, c518_0, e518, hx518_0, hl518_0, hi518_0⟩ := at_L1 HR0.out x5_1 p518 q518
       cases e518
       have HR518_0 := Aside0.mk hi518_0
       have HC518_0 := Aside0.mk hl518_0
       clear hi518_0 hl518_0
       replace p518 := eq_true p518
       replace q518 := eq_true q518
       go_wp2_with (first | ((with_reducible refine gate_callee (f := 17) rfl ?_); refine goesL_ (some 17) rfl rfl Try.func17 (by kernel_rfl) rfl #[.slice A518_0 (rd_L1 l0 x5_1).length c518_0, .int .i64 x1_1] rfl ls_ ?_; (with_reducible refine (laws_heldIntS.calls k1 _ _ (rd_L1 l0 x5_1) x1_1 t519 _ ?side1 ?side2 A5.out).mono ?_); (case side1 => repeat (first | exact HR518_0.out | (with_reducible refine Kd.C_alloc ?_ _) | (with_reducible refine Kd.C_drewN ?_ _) | (with_reducible refine Kd.C_drew ?_))); (case side2 => exact HC518_0.out); rintro e w' ⟨rfl, ⟨nd, rfl⟩⟩; refine ⟨_, rfl, ?_⟩))
       go_ret
       exact ⟨es_, by repeat (first | exact Drawn0.refl _ | apply Drawn0.step)⟩
      ·rw [if_neg c6] at H
       have c6b0 : decide (t519 < 0) = false := decide_eq_false c6
       clear c6
       have H' := Aside0.mk H
       clear H
       have p518 : 0 ≤ (x5_1 : Int) := of_decide_eq_true as_
       have q518 : x5_1 < (l0.length : Int) := of_decide_eq_true as_
       obtain ⟨ad518, A518_0, c518_0, e518, hx518_0, hl518_0, hi518_0⟩ := at_L1 HR0.out x5_1 p518 q518
       cases e518
       have HR518_0 := Aside0.mk hi518_0
       have HC518_0 := Aside0.mk hl518_0
       clear hi518_0 hl518_0
       replace p518 := eq_true p518
       replace q518 := eq_true q518
       go_wp2_with (first | ((with_reducible refine gate_callee (f := 17) rfl ?_); refine goesL_ (some 17) rfl rfl Try.func17 (by kernel_rfl) rfl #[.slice A518_0 (rd_L1 l0 x5_1).length c518_0, .int .i64 x1_1] rfl ls_ ?_; (with_reducible refine (laws_heldIntS.calls k1 _ _ (rd_L1 l0 x5_1) x1_1 t519 _ ?side1 ?side2 A5.out).mono ?_); (case side1 => repeat (first | exact HR518_0.out | (with_reducible refine Kd.C_alloc ?_ _) | (with_reducible refine Kd.C_drewN ?_ _) | (with_reducible refine Kd.C_drew ?_))); (case side2 => exact HC518_0.out); rintro e w' ⟨rfl, ⟨nd, rfl⟩⟩; refine ⟨_, rfl, ?_⟩))
       go_roundg k1
       case measure => have := HK1.out; omega
       case rel => exact ⟨(t519), (wrap64 (x5_1 + 1)), es_, es_, H', ⟨by have := HK1.out; omega⟩, by repeat (first | exact Drawn0.refl _ | apply Drawn0.step)⟩
     ·rw [if_neg c4] at H
      exact absurd H (by simp)
    ·rw [if_neg c3] at H
     have c3b0 : decide (x5_1 < (l0.length : Int)) = false := decide_eq_false c3
     clear c3
     obtain rfl := Option.some.inj H
     go_wp2
     go_ret
     exact ⟨es_, by repeat (first | exact Drawn0.refl _ | apply Drawn0.step)⟩

-- NOT PRINTED: function 9 (laws_FnExactPlanCrowd)

end Go.Proofs.Ytcldlljnaijmhaa.Pr
/- FnExactPlanCrowd, walked by hand (gen-pcr.py). -/
namespace Go.Proofs.Ytcldlljnaijmhaa.Pr
open Go.RowKit Go.Proofs.YtcldlljnaijmhaaW.PrintWords Go.Proofs.YtcldlljnaijmhaaW.PrintLast Go.Proofs.YtcldlljnaijmhaaW.PrintMore
attribute [local go_sem] bne_self_eq_false
set_option linter.unusedVariables false
set_option linter.unusedSimpArgs false

set_option maxHeartbeats 4000000 in
set_option maxRecDepth 100000 in
theorem law_pcr_c (a0 : Int) (A0 : Option Addr) (c0 : Nat) (l0 : List Int) (A1 : Option Addr) (c1 : Nat) (l1 : List S47) (a2 : Int) (w : World) (hr0 : Kd.C (Kd.int .i64) w A0 l0.length l0) (hc0 : l0.length ≤ c0) (hr1 : Kd.C k47 w A1 l1.length l1) (hc1 : l1.length ≤ c1)
    (z : Int) (hz : laws_szCells.f a0 l0 1048576 = some z) (hz0 : z < 0) :
    Calls Try.prog 9 #[.agg #[.int .i64 a0, .slice A0 l0.length c0], .slice A1 l1.length c1, .int .i64 a2] w fun e w' => e = .returned (.bool true) ∧ Below w.heap.size w w' := by
  have hu34 := Try.underlying34
  have hu39 := Try.underlying39
  have HR0 := Aside0.mk hr0
  have HC0 := Aside0.mk hc0
  have HR1 := Aside0.mk hr1
  have HC1 := Aside0.mk hc1
  clear hr0 hc0 hr1 hc1
  have Z := Aside0.mk hz
  have bz : decide (z < 0) = true := decide_eq_true hz0
  clear hz hz0
  go_enter Try.func9, Try.ntmps9
  have HB := Aside0.mk (Below.refl w.heap.size w)
  have HZ : Aside0 (w.heap.size ≤ w.heap.size) := ⟨Nat.le_refl _⟩
  go_wp2_with (first | ((with_reducible refine gate_dst (N := 3) rfl ?_); refine box_event ?hg (N := 3) ?hd (cs := #[.int .i64 a0, .slice A0 l0.length c0]) (t := 34) ?hr ?_; (case hd => rfl); (case hg => rfl); (case hr => first | (go_simp; done) | (go_simp; rfl)); intro gb1 hg w1 hbox hb; have G_gb1 := Aside0.mk hg; clear hg; have hcz0 : w1.cell? ⟨gb1, 0, none⟩ = some (.int .i64 a0) := (blk_cell hbox 0).trans rfl; have hfz0 := blk_frozen hbox 0; have hcz1 : w1.cell? ⟨gb1, 1, none⟩ = some (.slice A0 l0.length c0) := (blk_cell hbox 1).trans rfl; have hfz1 := blk_frozen hbox 1))
  have n_ := Aside0.mk (below_step HB.out hb)
  clear HB
  have HB := n_
  clear n_
  have n_ := Aside0.mk (And.intro (hb.size) HZ.out)
  clear HZ
  have HZ := n_
  clear n_
  have BK1 := Aside0.mk hbox
  have L_gb1 := Aside0.mk (blk_lt hbox)
  clear hb hbox
  go_wp2_with fail
  go_at_call 23
  refine (laws_szCells.calls a0 _ _ l0 1048576 z _ (Kd.C_below HR0.out HB.out) HC0.out Z.out).mono ?_
  rintro e w2 ⟨rfl, hb⟩
  have n_ := Aside0.mk (blk_below BK1.out hb)
  clear BK1
  have BK1 := n_
  clear n_
  have n_ := Aside0.mk (below_step HB.out hb)
  clear HB
  have HB := n_
  clear n_
  have n_ := Aside0.mk (And.intro (hb.size) HZ.out)
  clear HZ
  have HZ := n_
  clear n_
  clear hb
  clear hcz0 hfz0 hcz1 hfz1
  go_wp2_with fail
  go_ret
  exact ⟨rfl, HB.out⟩

set_option maxHeartbeats 4000000 in
set_option maxRecDepth 100000 in
theorem law_pcr_t (a0 : Int) (A0 : Option Addr) (c0 : Nat) (l0 : List Int) (A1 : Option Addr) (c1 : Nat) (l1 : List S47) (a2 : Int) (w : World) (hr0 : Kd.C (Kd.int .i64) w A0 l0.length l0) (hc0 : l0.length ≤ c0) (hr1 : Kd.C k47 w A1 l1.length l1) (hc1 : l1.length ≤ c1)
    (z y : Int) (hz : laws_szCells.f a0 l0 1048576 = some z) (hz0 : ¬ z < 0) (hy : laws_szTripS.f l1 z = some y) (hy0 : y < 0) :
    Calls Try.prog 9 #[.agg #[.int .i64 a0, .slice A0 l0.length c0], .slice A1 l1.length c1, .int .i64 a2] w fun e w' => e = .returned (.bool true) ∧ Below w.heap.size w w' := by
  have hu34 := Try.underlying34
  have hu39 := Try.underlying39
  have HR0 := Aside0.mk hr0
  have HC0 := Aside0.mk hc0
  have HR1 := Aside0.mk hr1
  have HC1 := Aside0.mk hc1
  clear hr0 hc0 hr1 hc1
  have Z := Aside0.mk hz
  have Y := Aside0.mk hy
  have bz : decide (z < 0) = false := decide_eq_false hz0
  have by_ : decide (y < 0) = true := decide_eq_true hy0
  clear hz hz0 hy hy0
  go_enter Try.func9, Try.ntmps9
  have HB := Aside0.mk (Below.refl w.heap.size w)
  have HZ : Aside0 (w.heap.size ≤ w.heap.size) := ⟨Nat.le_refl _⟩
  go_wp2_with (first | ((with_reducible refine gate_dst (N := 3) rfl ?_); refine box_event ?hg (N := 3) ?hd (cs := #[.int .i64 a0, .slice A0 l0.length c0]) (t := 34) ?hr ?_; (case hd => rfl); (case hg => rfl); (case hr => first | (go_simp; done) | (go_simp; rfl)); intro gb1 hg w1 hbox hb; have G_gb1 := Aside0.mk hg; clear hg; have hcz0 : w1.cell? ⟨gb1, 0, none⟩ = some (.int .i64 a0) := (blk_cell hbox 0).trans rfl; have hfz0 := blk_frozen hbox 0; have hcz1 : w1.cell? ⟨gb1, 1, none⟩ = some (.slice A0 l0.length c0) := (blk_cell hbox 1).trans rfl; have hfz1 := blk_frozen hbox 1))
  have n_ := Aside0.mk (below_step HB.out hb)
  clear HB
  have HB := n_
  clear n_
  have n_ := Aside0.mk (And.intro (hb.size) HZ.out)
  clear HZ
  have HZ := n_
  clear n_
  have BK1 := Aside0.mk hbox
  have L_gb1 := Aside0.mk (blk_lt hbox)
  clear hb hbox
  go_wp2_with fail
  go_at_call 23
  refine (laws_szCells.calls a0 _ _ l0 1048576 z _ (Kd.C_below HR0.out HB.out) HC0.out Z.out).mono ?_
  rintro e w2 ⟨rfl, hb⟩
  have n_ := Aside0.mk (blk_below BK1.out hb)
  clear BK1
  have BK1 := n_
  clear n_
  have n_ := Aside0.mk (below_step HB.out hb)
  clear HB
  have HB := n_
  clear n_
  have n_ := Aside0.mk (And.intro (hb.size) HZ.out)
  clear HZ
  have HZ := n_
  clear n_
  clear hb
  clear hcz0 hfz0 hcz1 hfz1
  go_wp2_with fail
  go_at_call 24
  refine (laws_szTripS.calls _ _ l1 z y _ (Kd.C_below HR1.out HB.out) HC1.out Y.out).mono ?_
  rintro e w3 ⟨rfl, hd⟩
  have hb := drawn_below hd
  clear hd
  have n_ := Aside0.mk (blk_below BK1.out hb)
  clear BK1
  have BK1 := n_
  clear n_
  have n_ := Aside0.mk (below_step HB.out hb)
  clear HB
  have HB := n_
  clear n_
  have n_ := Aside0.mk (And.intro (hb.size) HZ.out)
  clear HZ
  have HZ := n_
  clear n_
  clear hb
  go_wp2_with fail
  go_ret
  exact ⟨rfl, HB.out⟩

set_option maxHeartbeats 4000000 in
set_option maxRecDepth 100000 in
theorem law_pcr (a0 : Int) (A0 : Option Addr) (c0 : Nat) (l0 : List Int) (A1 : Option Addr) (c1 : Nat) (l1 : List S47) (a2 : Int) (w : World) (hr0 : Kd.C (Kd.int .i64) w A0 l0.length l0) (hc0 : l0.length ≤ c0) (hr1 : Kd.C k47 w A1 l1.length l1) (hc1 : l1.length ≤ c1)
    (c : List Int) (tr : List S49) (t t' : List (List Int)) (b : Bool) (z y mc mt mm : Int) (cm : List Int) (trm : List S49) (k0 k1 k2 k3 k4 k5 k6 k7 k8 k9 ka : Nat)
    (hz : laws_szCells.f a0 l0 1048576 = some z) (hz0 : ¬ z < 0) (hy : laws_szTripS.f l1 z = some y) (hy0 : ¬ y < 0) (h0 : laws_toCells.f k0 a0 l0 = some (a0, c)) (h1 : laws_toTripS.f k1 l1 = some tr) (h2 : spec_PlanCrowd.f k2 a0 c tr a2 = some (t, b)) (h3 : impl_PlanCrowd.f k3 a0 c tr a2 = some (t, b))
    (h4 : laws_eqIntSS.f k4 t t = some true) (h5 : laws_eqCells.f k5 a0 c a0 c = some true) (h6 : laws_eqTripS.f k6 tr tr = some true) (h7 : laws_markCells.f k7 a0 c 1 = some (mc, cm)) (h8 : laws_markTripS.f k8 tr mc = some (mt, trm)) (hmt : ¬ mt < 0)
    (h9 : laws_markIntSS.f k9 t 1 = some (mm, t')) (ha : laws_heldIntSS.f ka t' 1 = some mm) (hmm : ¬ mm < 0) :
    Calls Try.prog 9 #[.agg #[.int .i64 a0, .slice A0 l0.length c0], .slice A1 l1.length c1, .int .i64 a2] w fun e w' => e = .returned (.bool true) ∧ Below w.heap.size w w' := by
  have hu34 := Try.underlying34
  have hu39 := Try.underlying39
  have HR0 := Aside0.mk hr0
  have HC0 := Aside0.mk hc0
  have HR1 := Aside0.mk hr1
  have HC1 := Aside0.mk hc1
  clear hr0 hc0 hr1 hc1
  have E0 := Aside0.mk h0
  clear h0
  have E1 := Aside0.mk h1
  clear h1
  have E2 := Aside0.mk h2
  clear h2
  have E3 := Aside0.mk h3
  clear h3
  have E4 := Aside0.mk h4
  clear h4
  have E5 := Aside0.mk h5
  clear h5
  have E6 := Aside0.mk h6
  clear h6
  have E7 := Aside0.mk h7
  clear h7
  have E8 := Aside0.mk h8
  clear h8
  have E9 := Aside0.mk h9
  clear h9
  have Ea := Aside0.mk ha
  clear ha
  have Z := Aside0.mk hz
  have Y := Aside0.mk hy
  have bz : decide (z < 0) = false := decide_eq_false hz0
  have by_ : decide (y < 0) = false := decide_eq_false hy0
  have bmt : decide (mt < 0) = false := decide_eq_false hmt
  have bmm : decide (mm < 0) = false := decide_eq_false hmm
  clear hz hz0 hy hy0 hmt hmm
  go_enter Try.func9, Try.ntmps9
  have HB := Aside0.mk (Below.refl w.heap.size w)
  have HZ : Aside0 (w.heap.size ≤ w.heap.size) := ⟨Nat.le_refl _⟩
  go_wp2_with (first | ((with_reducible refine gate_dst (N := 3) rfl ?_); refine box_event ?hg (N := 3) ?hd (cs := #[.int .i64 a0, .slice A0 l0.length c0]) (t := 34) ?hr ?_; (case hd => rfl); (case hg => rfl); (case hr => first | (go_simp; done) | (go_simp; rfl)); intro gb1 hg w1 hbox hb; have G_gb1 := Aside0.mk hg; clear hg; have hcz0 : w1.cell? ⟨gb1, 0, none⟩ = some (.int .i64 a0) := (blk_cell hbox 0).trans rfl; have hfz0 := blk_frozen hbox 0; have hcz1 : w1.cell? ⟨gb1, 1, none⟩ = some (.slice A0 l0.length c0) := (blk_cell hbox 1).trans rfl; have hfz1 := blk_frozen hbox 1))
  have n_ := Aside0.mk (below_step HB.out hb)
  clear HB
  have HB := n_
  clear n_
  have n_ := Aside0.mk (And.intro (hb.size) HZ.out)
  clear HZ
  have HZ := n_
  clear n_
  have BK1 := Aside0.mk hbox
  have L_gb1 := Aside0.mk (blk_lt hbox)
  clear hb hbox
  go_wp2_with fail
  go_at_call 23
  refine (laws_szCells.calls a0 _ _ l0 1048576 z _ (Kd.C_below HR0.out HB.out) HC0.out Z.out).mono ?_
  rintro e w2 ⟨rfl, hb⟩
  have n_ := Aside0.mk (blk_below BK1.out hb)
  clear BK1
  have BK1 := n_
  clear n_
  have n_ := Aside0.mk (below_step HB.out hb)
  clear HB
  have HB := n_
  clear n_
  have n_ := Aside0.mk (And.intro (hb.size) HZ.out)
  clear HZ
  have HZ := n_
  clear n_
  clear hb
  clear hcz0 hfz0 hcz1 hfz1
  go_wp2_with fail
  go_at_call 24
  refine (laws_szTripS.calls _ _ l1 z y _ (Kd.C_below HR1.out HB.out) HC1.out Y.out).mono ?_
  rintro e w3 ⟨rfl, hd⟩
  have hb := drawn_below hd
  clear hd
  have n_ := Aside0.mk (blk_below BK1.out hb)
  clear BK1
  have BK1 := n_
  clear n_
  have n_ := Aside0.mk (below_step HB.out hb)
  clear HB
  have HB := n_
  clear n_
  have n_ := Aside0.mk (And.intro (hb.size) HZ.out)
  clear HZ
  have HZ := n_
  clear n_
  clear hb
  have hcz0 : w3.cell? ⟨gb1, 0, none⟩ = some (.int .i64 a0) := (blk_cell BK1.out 0).trans rfl
  have hfz0 := blk_frozen BK1.out 0
  have hcz1 : w3.cell? ⟨gb1, 1, none⟩ = some (.slice A0 l0.length c0) := (blk_cell BK1.out 1).trans rfl
  have hfz1 := blk_frozen BK1.out 1
  go_wp2_with fail
  go_at_call 26
  refine (laws_toCells.calls k0 a0 _ _ l0 a0 c _ (Kd.C_below HR0.out HB.out) HC0.out E0.out).mono ?_
  rintro e w4 ⟨va, rfl, ho0, hb⟩
  have n_ := Aside0.mk (blk_below BK1.out hb)
  clear BK1
  have BK1 := n_
  clear n_
  have n_ := Aside0.mk (below_step HB.out hb)
  clear HB
  have HB := n_
  clear n_
  have n_ := Aside0.mk (And.intro (hb.size) HZ.out)
  clear HZ
  have HZ := n_
  clear n_
  clear hb
  obtain ⟨A_Xc, c_Xc, e_Xc⟩ := Kd.R_slice ho0
  subst e_Xc
  have Xc := Aside0.mk (R_mk (base := w.heap.size) ho0 (by have z := HZ.out; omega))
  clear ho0
  clear hcz0 hfz0 hcz1 hfz1
  go_wp2_with fail
  go_at_call 27
  refine (laws_toTripS.calls k1 _ _ l1 tr _ (Kd.C_below HR1.out HB.out) HC1.out E1.out).mono ?_
  rintro e w5 ⟨va, rfl, ho0, hb⟩
  have n_ := Aside0.mk (Kd.R_below Xc.out hb)
  clear Xc
  have Xc := n_
  clear n_
  have n_ := Aside0.mk (blk_below BK1.out hb)
  clear BK1
  have BK1 := n_
  clear n_
  have n_ := Aside0.mk (below_step HB.out hb)
  clear HB
  have HB := n_
  clear n_
  have n_ := Aside0.mk (And.intro (hb.size) HZ.out)
  clear HZ
  have HZ := n_
  clear n_
  clear hb
  obtain ⟨A_Xt, c_Xt, e_Xt⟩ := Kd.R_slice ho0
  subst e_Xt
  have Xt := Aside0.mk (R_mk (base := w.heap.size) ho0 (by have z := HZ.out; omega))
  clear ho0
  go_wp2_with fail
  go_at_call 38
  refine (spec_PlanCrowd.calls k2 a0 _ _ c _ _ tr a2 t b _ (Kd.R_reads' Xc.out).2.2 (Kd.R_reads' Xc.out).2.1 (Kd.R_reads' Xt.out).2.2 (Kd.R_reads' Xt.out).2.1 E2.out).mono ?_
  rintro e w6 ⟨va, rfl, ho0, hb⟩
  have n_ := Aside0.mk (Kd.R_below Xc.out hb)
  clear Xc
  have Xc := n_
  clear n_
  have n_ := Aside0.mk (Kd.R_below Xt.out hb)
  clear Xt
  have Xt := n_
  clear n_
  have n_ := Aside0.mk (blk_below BK1.out hb)
  clear BK1
  have BK1 := n_
  clear n_
  have n_ := Aside0.mk (below_step HB.out hb)
  clear HB
  have HB := n_
  clear n_
  have n_ := Aside0.mk (And.intro (hb.size) HZ.out)
  clear HZ
  have HZ := n_
  clear n_
  clear hb
  obtain ⟨A_W0, c_W0, e_W0⟩ := Kd.S_slice ho0
  subst e_W0
  have W0 := Aside0.mk (S_mk (base := w.heap.size) ho0 (by have z := HZ.out; omega))
  clear ho0
  clear Xc
  clear Xt
  have hcz0 : w6.cell? ⟨gb1, 0, none⟩ = some (.int .i64 a0) := (blk_cell BK1.out 0).trans rfl
  have hfz0 := blk_frozen BK1.out 0
  have hcz1 : w6.cell? ⟨gb1, 1, none⟩ = some (.slice A0 l0.length c0) := (blk_cell BK1.out 1).trans rfl
  have hfz1 := blk_frozen BK1.out 1
  go_wp2_with fail
  go_at_call 26
  refine (laws_toCells.calls k0 a0 _ _ l0 a0 c _ (Kd.C_below HR0.out HB.out) HC0.out E0.out).mono ?_
  rintro e w7 ⟨va, rfl, ho0, hb⟩
  have n_ := Aside0.mk (Kd.S_below W0.out hb)
  clear W0
  have W0 := n_
  clear n_
  have n_ := Aside0.mk (blk_below BK1.out hb)
  clear BK1
  have BK1 := n_
  clear n_
  have n_ := Aside0.mk (below_step HB.out hb)
  clear HB
  have HB := n_
  clear n_
  have n_ := Aside0.mk (And.intro (hb.size) HZ.out)
  clear HZ
  have HZ := n_
  clear n_
  clear hb
  obtain ⟨A_Yc, c_Yc, e_Yc⟩ := Kd.R_slice ho0
  subst e_Yc
  have Yc := Aside0.mk (R_mk (base := w.heap.size) ho0 (by have z := HZ.out; omega))
  clear ho0
  clear hcz0 hfz0 hcz1 hfz1
  go_wp2_with (first | ((with_reducible refine gate_dst (N := 10) rfl ?_); refine box_event ?hg (N := 10) ?hd (cs := #[.int .i64 0, .slice none 0 0]) (t := 39) ?hr ?_; (case hd => rfl); (case hg => rfl); (case hr => first | (go_simp; done) | (go_simp; rfl)); intro gb6 hg w8 hbox hb; have G_gb6 := Aside0.mk hg; clear hg; have hcz0 : w8.cell? ⟨gb6, 0, none⟩ = some (.int .i64 0) := (blk_cell hbox 0).trans rfl; have hfz0 := blk_frozen hbox 0; have hcz1 : w8.cell? ⟨gb6, 1, none⟩ = some (.slice none 0 0) := (blk_cell hbox 1).trans rfl; have hfz1 := blk_frozen hbox 1))
  have n_ := Aside0.mk (Kd.S_below W0.out hb)
  clear W0
  have W0 := n_
  clear n_
  have n_ := Aside0.mk (Kd.R_below Yc.out hb)
  clear Yc
  have Yc := n_
  clear n_
  have n_ := Aside0.mk (blk_below BK1.out hb)
  clear BK1
  have BK1 := n_
  clear n_
  have n_ := Aside0.mk (below_step HB.out hb)
  clear HB
  have HB := n_
  clear n_
  have n_ := Aside0.mk (And.intro (hb.size) HZ.out)
  clear HZ
  have HZ := n_
  clear n_
  have BK6 := Aside0.mk hbox
  have L_gb6 := Aside0.mk (blk_lt hbox)
  clear hb hbox
  go_wp2_with fail
  have hk := kept_two (W := w8) (g := gb6) (.int .i64 a0) (.slice A_Yc c.length c_Yc) 0 1
  have hb2 : Below w.heap.size w ((w8.setCell ⟨gb6, 0, none⟩ (.int .i64 a0)).setCell ⟨gb6, 1, none⟩ (.slice A_Yc c.length c_Yc)) := below_set (below_set HB.out (by have z := HZ.out; have g1 := G_gb1.out; have l1 := L_gb1.out; have g6 := G_gb6.out; have l6 := L_gb6.out; omega)) (by have z := HZ.out; have g1 := G_gb1.out; have l1 := L_gb1.out; have g6 := G_gb6.out; have l6 := L_gb6.out; omega)
  have hnew : ((w8.setCell ⟨gb6, 0, none⟩ (.int .i64 a0)).setCell ⟨gb6, 1, none⟩ (.slice A_Yc c.length c_Yc)).heap[gb6]? = some (.cells #[.int .i64 a0, .slice A_Yc c.length c_Yc] 39 (0, 0)) := blk_put (cs := #[.int .i64 a0, .slice none 0 0]) (blk_put (cs := #[.int .i64 0, .slice none 0 0]) BK6.out 0 _ rfl) 1 _ rfl
  generalize ((w8.setCell ⟨gb6, 0, none⟩ (.int .i64 a0)).setCell ⟨gb6, 1, none⟩ (.slice A_Yc c.length c_Yc)) = w9 at hk hb2 hnew ⊢
  clear BK6 hcz0 hcz1 hfz0 hfz1
  have n_ := Aside0.mk (S_iv W0.out hk (by have z := HZ.out; have g1 := G_gb1.out; have l1 := L_gb1.out; have g6 := G_gb6.out; have l6 := L_gb6.out; omega))
  clear W0
  have W0 := n_
  clear n_
  have n_ := Aside0.mk (R_iv Yc.out hk (by have z := HZ.out; have g1 := G_gb1.out; have l1 := L_gb1.out; have g6 := G_gb6.out; have l6 := L_gb6.out; omega))
  clear Yc
  have Yc := n_
  clear n_
  have n_ := Aside0.mk (blk_iv BK1.out hk (by have z := HZ.out; have g1 := G_gb1.out; have l1 := L_gb1.out; have g6 := G_gb6.out; have l6 := L_gb6.out; omega))
  clear BK1
  have BK1 := n_
  clear n_
  have n_ := Aside0.mk (hb2)
  clear HB
  have HB := n_
  clear n_
  have n_ := Aside0.mk (And.intro (hk.1) HZ.out)
  clear HZ
  have HZ := n_
  clear n_
  have BK6 := Aside0.mk hnew
  clear hk hb2 hnew
  go_wp2_with fail
  go_at_call 27
  refine (laws_toTripS.calls k1 _ _ l1 tr _ (Kd.C_below HR1.out HB.out) HC1.out E1.out).mono ?_
  rintro e w10 ⟨va, rfl, ho0, hb⟩
  have n_ := Aside0.mk (Kd.S_below W0.out hb)
  clear W0
  have W0 := n_
  clear n_
  have n_ := Aside0.mk (Kd.R_below Yc.out hb)
  clear Yc
  have Yc := n_
  clear n_
  have n_ := Aside0.mk (blk_below BK1.out hb)
  clear BK1
  have BK1 := n_
  clear n_
  have n_ := Aside0.mk (blk_below BK6.out hb)
  clear BK6
  have BK6 := n_
  clear n_
  have n_ := Aside0.mk (below_step HB.out hb)
  clear HB
  have HB := n_
  clear n_
  have n_ := Aside0.mk (And.intro (hb.size) HZ.out)
  clear HZ
  have HZ := n_
  clear n_
  clear hb
  obtain ⟨A_Yt, c_Yt, e_Yt⟩ := Kd.R_slice ho0
  subst e_Yt
  have Yt := Aside0.mk (R_mk (base := w.heap.size) ho0 (by have z := HZ.out; have g1 := G_gb1.out; have l1 := L_gb1.out; have g6 := G_gb6.out; have l6 := L_gb6.out; omega))
  clear ho0
  have hcz0 : w10.cell? ⟨gb6, 0, none⟩ = some (.int .i64 a0) := (blk_cell BK6.out 0).trans rfl
  have hfz0 := blk_frozen BK6.out 0
  have hcz1 : w10.cell? ⟨gb6, 1, none⟩ = some (.slice A_Yc c.length c_Yc) := (blk_cell BK6.out 1).trans rfl
  have hfz1 := blk_frozen BK6.out 1
  go_wp2_with fail
  go_at_call 39
  refine (impl_PlanCrowd.calls k3 a0 _ _ c _ _ tr a2 t b _ (Kd.R_reads' Yc.out).2.2 (Kd.R_reads' Yc.out).2.1 (Kd.R_reads' Yt.out).2.2 (Kd.R_reads' Yt.out).2.1 E3.out).mono ?_
  rintro e w11 ⟨va, rfl, ho0, hb⟩
  have n_ := Aside0.mk (Kd.S_below W0.out hb)
  clear W0
  have W0 := n_
  clear n_
  have n_ := Aside0.mk (Kd.R_below Yc.out hb)
  clear Yc
  have Yc := n_
  clear n_
  have n_ := Aside0.mk (Kd.R_below Yt.out hb)
  clear Yt
  have Yt := n_
  clear n_
  have n_ := Aside0.mk (blk_below BK1.out hb)
  clear BK1
  have BK1 := n_
  clear n_
  have n_ := Aside0.mk (blk_below BK6.out hb)
  clear BK6
  have BK6 := n_
  clear n_
  have n_ := Aside0.mk (below_step HB.out hb)
  clear HB
  have HB := n_
  clear n_
  have n_ := Aside0.mk (And.intro (hb.size) HZ.out)
  clear HZ
  have HZ := n_
  clear n_
  clear hb
  obtain ⟨A_G, c_G, e_G⟩ := Kd.S_slice ho0
  subst e_G
  have G := Aside0.mk (S_mk (base := w.heap.size) ho0 (by have z := HZ.out; have g1 := G_gb1.out; have l1 := L_gb1.out; have g6 := G_gb6.out; have l6 := L_gb6.out; omega))
  clear ho0
  clear hcz0 hfz0 hcz1 hfz1
  go_wp2_with fail
  go_at_call 22
  refine (laws_eqIntSS.calls k4 _ _ t _ _ t true _ (Kd.S_reads' G.out).2.2 (Kd.S_reads' G.out).2.1 (Kd.S_reads' W0.out).2.2 (Kd.S_reads' W0.out).2.1 E4.out).mono ?_
  rintro e w12 ⟨rfl, hd⟩
  have hb := drawn_below hd
  clear hd
  have n_ := Aside0.mk (Kd.S_below W0.out hb)
  clear W0
  have W0 := n_
  clear n_
  have n_ := Aside0.mk (Kd.R_below Yc.out hb)
  clear Yc
  have Yc := n_
  clear n_
  have n_ := Aside0.mk (Kd.R_below Yt.out hb)
  clear Yt
  have Yt := n_
  clear n_
  have n_ := Aside0.mk (Kd.S_below G.out hb)
  clear G
  have G := n_
  clear n_
  have n_ := Aside0.mk (blk_below BK1.out hb)
  clear BK1
  have BK1 := n_
  clear n_
  have n_ := Aside0.mk (blk_below BK6.out hb)
  clear BK6
  have BK6 := n_
  clear n_
  have n_ := Aside0.mk (below_step HB.out hb)
  clear HB
  have HB := n_
  clear n_
  have n_ := Aside0.mk (And.intro (hb.size) HZ.out)
  clear HZ
  have HZ := n_
  clear n_
  clear hb
  go_wp2_with fail
  have hb : Below w12.heap.size w12 w12.drew := below_drew (Below.refl _ _)
  have n_ := Aside0.mk (Kd.S_below W0.out hb)
  clear W0
  have W0 := n_
  clear n_
  have n_ := Aside0.mk (Kd.R_below Yc.out hb)
  clear Yc
  have Yc := n_
  clear n_
  have n_ := Aside0.mk (Kd.R_below Yt.out hb)
  clear Yt
  have Yt := n_
  clear n_
  have n_ := Aside0.mk (Kd.S_below G.out hb)
  clear G
  have G := n_
  clear n_
  have n_ := Aside0.mk (blk_below BK1.out hb)
  clear BK1
  have BK1 := n_
  clear n_
  have n_ := Aside0.mk (blk_below BK6.out hb)
  clear BK6
  have BK6 := n_
  clear n_
  have n_ := Aside0.mk (below_step HB.out hb)
  clear HB
  have HB := n_
  clear n_
  have n_ := Aside0.mk (And.intro (hb.size) HZ.out)
  clear HZ
  have HZ := n_
  clear n_
  clear hb
  refine start_ (n := 5) (S := (fun w' => w'.cell? ⟨gb6, 0, none⟩ = some (.int .i64 a0) ∧ w'.cell? ⟨gb6, 1, none⟩ = some (.slice A_Yc c.length c_Yc) ∧ w'.cell? ⟨gb1, 0, none⟩ = some (.int .i64 a0) ∧ w'.cell? ⟨gb1, 1, none⟩ = some (.slice A0 l0.length c0))) (ds := []) #[false, false, false, false, false] (by kernel_rfl) rfl rfl ⟨(blk_cell BK6.out 0).trans rfl, (blk_cell BK6.out 1).trans rfl, (blk_cell BK1.out 0).trans rfl, (blk_cell BK1.out 1).trans rfl⟩ (fun hHeld => ?_)
  generalize w12.drew = w13 at W0 Yc Yt G BK1 BK6 HB HZ hHeld ⊢
  refine take_ (i := 0) (N := some 58) (v := ?_) (a' := ?_) #[true, false, false, false, false] rfl rfl (by kernel_rfl) (fun _ _ _ h => h) (Or.inl ⟨by rfl, ?_⟩) hHeld ?_ ?_
  rotate_left
  · rintro w' ⟨s0, s1, s2, s3⟩
    go_simp
    with_reducible rfl
  rotate_left
  · simp only [Act.put, List.setIfInBounds_toArray, List.set_cons_zero, List.set_cons_succ]
    rfl
  refine take_ (i := 1) (N := some 59) (v := ?_) (a' := ?_) #[true, true, false, false, false] rfl rfl (by kernel_rfl) (fun _ _ _ h => h) (Or.inl ⟨by rfl, ?_⟩) hHeld ?_ ?_
  rotate_left
  · rintro w' ⟨s0, s1, s2, s3⟩
    go_simp
    with_reducible rfl
  rotate_left
  · simp only [Act.put, List.setIfInBounds_toArray, List.set_cons_zero, List.set_cons_succ]
    rfl
  refine one_ (i := 2) (N := some 60) #[true, true, true, false, false] rfl rfl (by kernel_rfl) (by decide) (fun K hK => ?_)
  refine goes_ Try.func26 (by kernel_rfl) rfl #[.agg #[.int .i64 a0, .slice A0 l0.length c0]] (by rfl) rfl rfl (by simp only [List.map_toArray, List.map_cons, List.map_nil]; rfl) ?_
  refine (laws_toCells.calls k0 a0 _ _ l0 a0 c _ (Kd.C_below HR0.out HB.out) HC0.out E0.out).mono ?_
  rintro e w14 ⟨va, rfl, ho0, hb⟩
  refine ⟨_, rfl, ?_⟩
  have n_ := Aside0.mk (Kd.S_below W0.out hb)
  clear W0
  have W0 := n_
  clear n_
  have n_ := Aside0.mk (Kd.R_below Yc.out hb)
  clear Yc
  have Yc := n_
  clear n_
  have n_ := Aside0.mk (Kd.R_below Yt.out hb)
  clear Yt
  have Yt := n_
  clear n_
  have n_ := Aside0.mk (Kd.S_below G.out hb)
  clear G
  have G := n_
  clear n_
  have n_ := Aside0.mk (blk_below BK1.out hb)
  clear BK1
  have BK1 := n_
  clear n_
  have n_ := Aside0.mk (blk_below BK6.out hb)
  clear BK6
  have BK6 := n_
  clear n_
  have n_ := Aside0.mk (below_step HB.out hb)
  clear HB
  have HB := n_
  clear n_
  have n_ := Aside0.mk (And.intro (hb.size) HZ.out)
  clear HZ
  have HZ := n_
  clear n_
  clear hb
  obtain ⟨A_Vc, c_Vc, e_Vc⟩ := Kd.R_slice ho0
  subst e_Vc
  have Vc := Aside0.mk (R_mk (base := w.heap.size) ho0 (by have z := HZ.out; have g1 := G_gb1.out; have l1 := L_gb1.out; have g6 := G_gb6.out; have l6 := L_gb6.out; omega))
  clear ho0
  refine hK.out _ _ ⟨(blk_cell BK6.out 0).trans rfl, (blk_cell BK6.out 1).trans rfl, (blk_cell BK1.out 0).trans rfl, (blk_cell BK1.out 1).trans rfl⟩ (fun hHeld => ?_)
  clear hK K
  refine norm_ (a' := ?_) ?_ ?_
  rotate_left
  · show Act.put _ (some 60) _ = _
    simp only [Act.put, List.setIfInBounds_toArray, List.set_cons_zero, List.set_cons_succ]
    rfl
  refine one_ (i := 3) (N := some 61) #[true, true, true, true, false] rfl rfl (by kernel_rfl) (by decide) (fun K hK => ?_)
  refine goes_ Try.func29 (by kernel_rfl) rfl #[.agg #[.int .i64 a0, .slice A_Yc c.length c_Yc], .agg #[.int .i64 a0, .slice A_Vc c.length c_Vc]] (by rfl) rfl rfl (by simp only [List.map_toArray, List.map_cons, List.map_nil]; rfl) ?_
  refine (laws_eqCells.calls k5 a0 _ _ c a0 _ _ c true _ (Kd.R_reads' Yc.out).2.2 (Kd.R_reads' Yc.out).2.1 (Kd.R_reads' Vc.out).2.2 (Kd.R_reads' Vc.out).2.1 E5.out).mono ?_
  rintro e w15 ⟨rfl, hb⟩
  refine ⟨_, rfl, ?_⟩
  have n_ := Aside0.mk (Kd.S_below W0.out hb)
  clear W0
  have W0 := n_
  clear n_
  have n_ := Aside0.mk (Kd.R_below Yc.out hb)
  clear Yc
  have Yc := n_
  clear n_
  have n_ := Aside0.mk (Kd.R_below Yt.out hb)
  clear Yt
  have Yt := n_
  clear n_
  have n_ := Aside0.mk (Kd.S_below G.out hb)
  clear G
  have G := n_
  clear n_
  have n_ := Aside0.mk (Kd.R_below Vc.out hb)
  clear Vc
  have Vc := n_
  clear n_
  have n_ := Aside0.mk (blk_below BK1.out hb)
  clear BK1
  have BK1 := n_
  clear n_
  have n_ := Aside0.mk (blk_below BK6.out hb)
  clear BK6
  have BK6 := n_
  clear n_
  have n_ := Aside0.mk (below_step HB.out hb)
  clear HB
  have HB := n_
  clear n_
  have n_ := Aside0.mk (And.intro (hb.size) HZ.out)
  clear HZ
  have HZ := n_
  clear n_
  clear hb
  refine hK.out _ _ ⟨(blk_cell BK6.out 0).trans rfl, (blk_cell BK6.out 1).trans rfl, (blk_cell BK1.out 0).trans rfl, (blk_cell BK1.out 1).trans rfl⟩ (fun hHeld => ?_)
  clear hK K
  refine norm_ (a' := ?_) ?_ ?_
  rotate_left
  · show Act.put _ (some 61) _ = _
    simp only [Act.put, List.setIfInBounds_toArray, List.set_cons_zero, List.set_cons_succ]
    rfl
  clear Vc
  refine pure_ (i := 4) (N := some 62) (v := ?_) (a' := ?_) #[true, true, true, true, true] rfl rfl (by kernel_rfl) (fun _ _ _ h => h) (Or.inl ⟨by rfl, ?_⟩) ?_ ?_
  rotate_left
  · intro w'
    go_simp
    with_reducible rfl
  rotate_left
  · simp only [Act.put, List.setIfInBounds_toArray, List.set_cons_zero, List.set_cons_succ]
    rfl
  refine done_ (by kernel_rfl) ?_
  go_wp2_with fail
  go_at_call 27
  refine (laws_toTripS.calls k1 _ _ l1 tr _ (Kd.C_below HR1.out HB.out) HC1.out E1.out).mono ?_
  rintro e w16 ⟨va, rfl, ho0, hb⟩
  have n_ := Aside0.mk (Kd.S_below W0.out hb)
  clear W0
  have W0 := n_
  clear n_
  have n_ := Aside0.mk (Kd.R_below Yc.out hb)
  clear Yc
  have Yc := n_
  clear n_
  have n_ := Aside0.mk (Kd.R_below Yt.out hb)
  clear Yt
  have Yt := n_
  clear n_
  have n_ := Aside0.mk (Kd.S_below G.out hb)
  clear G
  have G := n_
  clear n_
  have n_ := Aside0.mk (blk_below BK1.out hb)
  clear BK1
  have BK1 := n_
  clear n_
  have n_ := Aside0.mk (blk_below BK6.out hb)
  clear BK6
  have BK6 := n_
  clear n_
  have n_ := Aside0.mk (below_step HB.out hb)
  clear HB
  have HB := n_
  clear n_
  have n_ := Aside0.mk (And.intro (hb.size) HZ.out)
  clear HZ
  have HZ := n_
  clear n_
  clear hb
  obtain ⟨A_Vt, c_Vt, e_Vt⟩ := Kd.R_slice ho0
  subst e_Vt
  have Vt := Aside0.mk (R_mk (base := w.heap.size) ho0 (by have z := HZ.out; have g1 := G_gb1.out; have l1 := L_gb1.out; have g6 := G_gb6.out; have l6 := L_gb6.out; omega))
  clear ho0
  go_wp2_with fail
  go_at_call 30
  refine (laws_eqTripS.calls k6 _ _ tr _ _ tr true _ (Kd.R_reads' Yt.out).2.2 (Kd.R_reads' Yt.out).2.1 (Kd.R_reads' Vt.out).2.2 (Kd.R_reads' Vt.out).2.1 E6.out).mono ?_
  rintro e w17 ⟨rfl, hb⟩
  have n_ := Aside0.mk (Kd.S_below W0.out hb)
  clear W0
  have W0 := n_
  clear n_
  have n_ := Aside0.mk (Kd.R_below Yc.out hb)
  clear Yc
  have Yc := n_
  clear n_
  have n_ := Aside0.mk (Kd.R_below Yt.out hb)
  clear Yt
  have Yt := n_
  clear n_
  have n_ := Aside0.mk (Kd.S_below G.out hb)
  clear G
  have G := n_
  clear n_
  have n_ := Aside0.mk (Kd.R_below Vt.out hb)
  clear Vt
  have Vt := n_
  clear n_
  have n_ := Aside0.mk (blk_below BK1.out hb)
  clear BK1
  have BK1 := n_
  clear n_
  have n_ := Aside0.mk (blk_below BK6.out hb)
  clear BK6
  have BK6 := n_
  clear n_
  have n_ := Aside0.mk (below_step HB.out hb)
  clear HB
  have HB := n_
  clear n_
  have n_ := Aside0.mk (And.intro (hb.size) HZ.out)
  clear HZ
  have HZ := n_
  clear n_
  clear hb
  clear Vt
  have hcz0 : w17.cell? ⟨gb6, 0, none⟩ = some (.int .i64 a0) := (blk_cell BK6.out 0).trans rfl
  have hfz0 := blk_frozen BK6.out 0
  have hcz1 : w17.cell? ⟨gb6, 1, none⟩ = some (.slice A_Yc c.length c_Yc) := (blk_cell BK6.out 1).trans rfl
  have hfz1 := blk_frozen BK6.out 1
  go_wp2_with fail
  go_at_call 40
  refine (laws_markCells.calls k7 a0 (Ivl w6.heap.size w7.heap.size) _ c 1 mc cm w _ HB.out Yc.out E7.out).mono ?_
  rintro e w18 ⟨rfl, hy0, hb2, hk⟩
  clear hy0 Yc
  clear hcz0 hfz0 hcz1 hfz1
  have n_ := Aside0.mk (S_iv W0.out hk (by have z := HZ.out; have g1 := G_gb1.out; have l1 := L_gb1.out; have g6 := G_gb6.out; have l6 := L_gb6.out; omega))
  clear W0
  have W0 := n_
  clear n_
  have n_ := Aside0.mk (R_iv Yt.out hk (by have z := HZ.out; have g1 := G_gb1.out; have l1 := L_gb1.out; have g6 := G_gb6.out; have l6 := L_gb6.out; omega))
  clear Yt
  have Yt := n_
  clear n_
  have n_ := Aside0.mk (S_iv G.out hk (by have z := HZ.out; have g1 := G_gb1.out; have l1 := L_gb1.out; have g6 := G_gb6.out; have l6 := L_gb6.out; omega))
  clear G
  have G := n_
  clear n_
  have n_ := Aside0.mk (blk_iv BK1.out hk (by have z := HZ.out; have g1 := G_gb1.out; have l1 := L_gb1.out; have g6 := G_gb6.out; have l6 := L_gb6.out; omega))
  clear BK1
  have BK1 := n_
  clear n_
  have n_ := Aside0.mk (blk_iv BK6.out hk (by have z := HZ.out; have g1 := G_gb1.out; have l1 := L_gb1.out; have g6 := G_gb6.out; have l6 := L_gb6.out; omega))
  clear BK6
  have BK6 := n_
  clear n_
  have n_ := Aside0.mk (hb2)
  clear HB
  have HB := n_
  clear n_
  have n_ := Aside0.mk (And.intro (hk.1) HZ.out)
  clear HZ
  have HZ := n_
  clear n_
  clear hk hb2
  go_wp2_with fail
  go_at_call 41
  refine (laws_markTripS.calls k8 (Ivl w9.heap.size w10.heap.size) _ tr mc mt trm w _ HB.out Yt.out E8.out).mono ?_
  rintro e w19 ⟨rfl, hy0, hb2, hk⟩
  clear hy0 Yt
  have n_ := Aside0.mk (S_iv W0.out hk (by have z := HZ.out; have g1 := G_gb1.out; have l1 := L_gb1.out; have g6 := G_gb6.out; have l6 := L_gb6.out; omega))
  clear W0
  have W0 := n_
  clear n_
  have n_ := Aside0.mk (S_iv G.out hk (by have z := HZ.out; have g1 := G_gb1.out; have l1 := L_gb1.out; have g6 := G_gb6.out; have l6 := L_gb6.out; omega))
  clear G
  have G := n_
  clear n_
  have n_ := Aside0.mk (blk_iv BK1.out hk (by have z := HZ.out; have g1 := G_gb1.out; have l1 := L_gb1.out; have g6 := G_gb6.out; have l6 := L_gb6.out; omega))
  clear BK1
  have BK1 := n_
  clear n_
  have n_ := Aside0.mk (blk_iv BK6.out hk (by have z := HZ.out; have g1 := G_gb1.out; have l1 := L_gb1.out; have g6 := G_gb6.out; have l6 := L_gb6.out; omega))
  clear BK6
  have BK6 := n_
  clear n_
  have n_ := Aside0.mk (hb2)
  clear HB
  have HB := n_
  clear n_
  have n_ := Aside0.mk (And.intro (hk.1) HZ.out)
  clear HZ
  have HZ := n_
  clear n_
  clear hk hb2
  go_wp2_with fail
  go_at_call 22
  refine (laws_eqIntSS.calls k4 _ _ t _ _ t true _ (Kd.S_reads' G.out).2.2 (Kd.S_reads' G.out).2.1 (Kd.S_reads' W0.out).2.2 (Kd.S_reads' W0.out).2.1 E4.out).mono ?_
  rintro e w20 ⟨rfl, hd⟩
  have hb := drawn_below hd
  clear hd
  have n_ := Aside0.mk (Kd.S_below W0.out hb)
  clear W0
  have W0 := n_
  clear n_
  have n_ := Aside0.mk (Kd.S_below G.out hb)
  clear G
  have G := n_
  clear n_
  have n_ := Aside0.mk (blk_below BK1.out hb)
  clear BK1
  have BK1 := n_
  clear n_
  have n_ := Aside0.mk (blk_below BK6.out hb)
  clear BK6
  have BK6 := n_
  clear n_
  have n_ := Aside0.mk (below_step HB.out hb)
  clear HB
  have HB := n_
  clear n_
  have n_ := Aside0.mk (And.intro (hb.size) HZ.out)
  clear HZ
  have HZ := n_
  clear n_
  clear hb
  go_wp2_with fail
  go_at_call 42
  refine (laws_markIntSS.calls k9 (Ivl w10.heap.size w11.heap.size) _ t 1 mm t' w _ HB.out G.out E9.out).mono ?_
  rintro e w21 ⟨rfl, ho0, hb2, hk⟩
  clear G
  have n_ := Aside0.mk (S_iv W0.out hk (by have z := HZ.out; have g1 := G_gb1.out; have l1 := L_gb1.out; have g6 := G_gb6.out; have l6 := L_gb6.out; omega))
  clear W0
  have W0 := n_
  clear n_
  have n_ := Aside0.mk (blk_iv BK1.out hk (by have z := HZ.out; have g1 := G_gb1.out; have l1 := L_gb1.out; have g6 := G_gb6.out; have l6 := L_gb6.out; omega))
  clear BK1
  have BK1 := n_
  clear n_
  have n_ := Aside0.mk (blk_iv BK6.out hk (by have z := HZ.out; have g1 := G_gb1.out; have l1 := L_gb1.out; have g6 := G_gb6.out; have l6 := L_gb6.out; omega))
  clear BK6
  have BK6 := n_
  clear n_
  have n_ := Aside0.mk (hb2)
  clear HB
  have HB := n_
  clear n_
  have n_ := Aside0.mk (And.intro (hk.1) HZ.out)
  clear HZ
  have HZ := n_
  clear n_
  have G := Aside0.mk ho0
  have HE := Aside0.mk (Kd.S_reads' G.out).1
  clear ho0 hk hb2
  go_wp2_with fail
  go_at_call 43
  refine (calls_of_args (by rw [HE.out]) (laws_heldIntSS.calls ka A_G c_G t' 1 mm _ (Kd.S_reads' G.out).2.2 (by rw [← HE.out]; exact (Kd.S_reads' G.out).2.1) Ea.out)).mono ?_
  rintro e w22 ⟨rfl, hd⟩
  have hb := drawn_below hd
  clear hd
  have n_ := Aside0.mk (Kd.S_below W0.out hb)
  clear W0
  have W0 := n_
  clear n_
  have n_ := Aside0.mk (Kd.S_below G.out hb)
  clear G
  have G := n_
  clear n_
  have n_ := Aside0.mk (blk_below BK1.out hb)
  clear BK1
  have BK1 := n_
  clear n_
  have n_ := Aside0.mk (blk_below BK6.out hb)
  clear BK6
  have BK6 := n_
  clear n_
  have n_ := Aside0.mk (below_step HB.out hb)
  clear HB
  have HB := n_
  clear n_
  have n_ := Aside0.mk (And.intro (hb.size) HZ.out)
  clear HZ
  have HZ := n_
  clear n_
  clear hb
  have hcz0 : w22.cell? ⟨gb1, 0, none⟩ = some (.int .i64 a0) := (blk_cell BK1.out 0).trans rfl
  have hfz0 := blk_frozen BK1.out 0
  have hcz1 : w22.cell? ⟨gb1, 1, none⟩ = some (.slice A0 l0.length c0) := (blk_cell BK1.out 1).trans rfl
  have hfz1 := blk_frozen BK1.out 1
  go_wp2_with fail
  go_at_call 26
  refine (laws_toCells.calls k0 a0 _ _ l0 a0 c _ (Kd.C_below HR0.out HB.out) HC0.out E0.out).mono ?_
  rintro e w23 ⟨va, rfl, ho0, hb⟩
  have n_ := Aside0.mk (Kd.S_below W0.out hb)
  clear W0
  have W0 := n_
  clear n_
  have n_ := Aside0.mk (Kd.S_below G.out hb)
  clear G
  have G := n_
  clear n_
  have n_ := Aside0.mk (blk_below BK1.out hb)
  clear BK1
  have BK1 := n_
  clear n_
  have n_ := Aside0.mk (blk_below BK6.out hb)
  clear BK6
  have BK6 := n_
  clear n_
  have n_ := Aside0.mk (below_step HB.out hb)
  clear HB
  have HB := n_
  clear n_
  have n_ := Aside0.mk (And.intro (hb.size) HZ.out)
  clear HZ
  have HZ := n_
  clear n_
  clear hb
  obtain ⟨A_Uc, c_Uc, e_Uc⟩ := Kd.R_slice ho0
  subst e_Uc
  have Uc := Aside0.mk (R_mk (base := w.heap.size) ho0 (by have z := HZ.out; have g1 := G_gb1.out; have l1 := L_gb1.out; have g6 := G_gb6.out; have l6 := L_gb6.out; omega))
  clear ho0
  clear hcz0 hfz0 hcz1 hfz1
  go_wp2_with fail
  go_at_call 27
  refine (laws_toTripS.calls k1 _ _ l1 tr _ (Kd.C_below HR1.out HB.out) HC1.out E1.out).mono ?_
  rintro e w24 ⟨va, rfl, ho0, hb⟩
  have n_ := Aside0.mk (Kd.S_below W0.out hb)
  clear W0
  have W0 := n_
  clear n_
  have n_ := Aside0.mk (Kd.S_below G.out hb)
  clear G
  have G := n_
  clear n_
  have n_ := Aside0.mk (Kd.R_below Uc.out hb)
  clear Uc
  have Uc := n_
  clear n_
  have n_ := Aside0.mk (blk_below BK1.out hb)
  clear BK1
  have BK1 := n_
  clear n_
  have n_ := Aside0.mk (blk_below BK6.out hb)
  clear BK6
  have BK6 := n_
  clear n_
  have n_ := Aside0.mk (below_step HB.out hb)
  clear HB
  have HB := n_
  clear n_
  have n_ := Aside0.mk (And.intro (hb.size) HZ.out)
  clear HZ
  have HZ := n_
  clear n_
  clear hb
  obtain ⟨A_Ut, c_Ut, e_Ut⟩ := Kd.R_slice ho0
  subst e_Ut
  have Ut := Aside0.mk (R_mk (base := w.heap.size) ho0 (by have z := HZ.out; have g1 := G_gb1.out; have l1 := L_gb1.out; have g6 := G_gb6.out; have l6 := L_gb6.out; omega))
  clear ho0
  go_wp2_with fail
  go_at_call 39
  refine (impl_PlanCrowd.calls k3 a0 _ _ c _ _ tr a2 t b _ (Kd.R_reads' Uc.out).2.2 (Kd.R_reads' Uc.out).2.1 (Kd.R_reads' Ut.out).2.2 (Kd.R_reads' Ut.out).2.1 E3.out).mono ?_
  rintro e w25 ⟨va, rfl, ho0, hb⟩
  have n_ := Aside0.mk (Kd.S_below W0.out hb)
  clear W0
  have W0 := n_
  clear n_
  have n_ := Aside0.mk (Kd.S_below G.out hb)
  clear G
  have G := n_
  clear n_
  have n_ := Aside0.mk (Kd.R_below Uc.out hb)
  clear Uc
  have Uc := n_
  clear n_
  have n_ := Aside0.mk (Kd.R_below Ut.out hb)
  clear Ut
  have Ut := n_
  clear n_
  have n_ := Aside0.mk (blk_below BK1.out hb)
  clear BK1
  have BK1 := n_
  clear n_
  have n_ := Aside0.mk (blk_below BK6.out hb)
  clear BK6
  have BK6 := n_
  clear n_
  have n_ := Aside0.mk (below_step HB.out hb)
  clear HB
  have HB := n_
  clear n_
  have n_ := Aside0.mk (And.intro (hb.size) HZ.out)
  clear HZ
  have HZ := n_
  clear n_
  clear hb
  obtain ⟨A_H, c_H, e_H⟩ := Kd.S_slice ho0
  subst e_H
  have H := Aside0.mk (S_mk (base := w.heap.size) ho0 (by have z := HZ.out; have g1 := G_gb1.out; have l1 := L_gb1.out; have g6 := G_gb6.out; have l6 := L_gb6.out; omega))
  clear ho0
  clear Uc
  clear Ut
  go_wp2_with fail
  go_at_call 22
  refine (laws_eqIntSS.calls k4 _ _ t _ _ t true _ (Kd.S_reads' H.out).2.2 (Kd.S_reads' H.out).2.1 (Kd.S_reads' W0.out).2.2 (Kd.S_reads' W0.out).2.1 E4.out).mono ?_
  rintro e w26 ⟨rfl, hd⟩
  have hb := drawn_below hd
  clear hd
  have n_ := Aside0.mk (Kd.S_below W0.out hb)
  clear W0
  have W0 := n_
  clear n_
  have n_ := Aside0.mk (Kd.S_below G.out hb)
  clear G
  have G := n_
  clear n_
  have n_ := Aside0.mk (Kd.S_below H.out hb)
  clear H
  have H := n_
  clear n_
  have n_ := Aside0.mk (blk_below BK1.out hb)
  clear BK1
  have BK1 := n_
  clear n_
  have n_ := Aside0.mk (blk_below BK6.out hb)
  clear BK6
  have BK6 := n_
  clear n_
  have n_ := Aside0.mk (below_step HB.out hb)
  clear HB
  have HB := n_
  clear n_
  have n_ := Aside0.mk (And.intro (hb.size) HZ.out)
  clear HZ
  have HZ := n_
  clear n_
  clear hb
  go_wp2_with fail
  go_at_call 43
  refine (calls_of_args (by rw [HE.out]) (laws_heldIntSS.calls ka A_G c_G t' 1 mm _ (Kd.S_reads' G.out).2.2 (by rw [← HE.out]; exact (Kd.S_reads' G.out).2.1) Ea.out)).mono ?_
  rintro e w27 ⟨rfl, hd⟩
  have hb := drawn_below hd
  clear hd
  have n_ := Aside0.mk (Kd.S_below W0.out hb)
  clear W0
  have W0 := n_
  clear n_
  have n_ := Aside0.mk (Kd.S_below G.out hb)
  clear G
  have G := n_
  clear n_
  have n_ := Aside0.mk (Kd.S_below H.out hb)
  clear H
  have H := n_
  clear n_
  have n_ := Aside0.mk (blk_below BK1.out hb)
  clear BK1
  have BK1 := n_
  clear n_
  have n_ := Aside0.mk (blk_below BK6.out hb)
  clear BK6
  have BK6 := n_
  clear n_
  have n_ := Aside0.mk (below_step HB.out hb)
  clear HB
  have HB := n_
  clear n_
  have n_ := Aside0.mk (And.intro (hb.size) HZ.out)
  clear HZ
  have HZ := n_
  clear n_
  clear hb
  go_wp2_with fail
  go_ret
  exact ⟨rfl, HB.out⟩

end Go.Proofs.Ytcldlljnaijmhaa.Pr
/-
Own text: marks are 1, 2, ..; what is held is what was marked.
-/
namespace Go.Proofs.Ytcldlljnaijmhaa.Pure
open Go.RowKit Go.Proofs.YtcldlljnaijmhaaW.PrintWords Go.Proofs.YtcldlljnaijmhaaW.PrintLast Go.Proofs.Ytcldlljnaijmhaa.Pr Go.Proofs.Ytcldlljnaijmhaa.EvKit

/-- a, a + 1, .., n of them. -/
def seqI (a : Int) (n : Nat) : List Int := (List.range n).map fun j : Nat => a + (j : Int)
theorem seqI_length (a : Int) (n : Nat) : (seqI a n).length = n := by simp [seqI]
theorem rd_seqI (a : Int) (n i : Nat) (h : i < n) : rd (seqI a n) (i : Int) = a + i := by
  simp [rd, seqI, List.getD_eq_getElem?_getD, h]

theorem markIntS_l0 (n : Nat) (a : Int) (ha : 0 ≤ a) (han : a + n ≤ 9223372036854775806) (d : Nat) : ∀ (i : Nat) (l : List Int), i + d = n → l.length = n → (l.take i = seqI a i) →
    Ev (fun k => laws_markIntS.l0 k l (a + i) i) (a + n, seqI a n) := by
  induction d with
  | zero =>
    intro i l hi hl ht
    apply Ev.succ
    simp only [laws_markIntS.l0, show ¬ ((i : Int) < (l.length : Int)) by omega, if_false]
    have : i = n := by omega
    subst this
    refine Ev.some ?_
    rw [← ht, List.take_of_length_le (by omega)]
  | succ d ih =>
    intro i l hi hl ht
    apply Ev.succ
    simp only [laws_markIntS.l0, show ((i : Int) < (l.length : Int)) by omega, show (0 : Int) ≤ (i : Int) by omega, if_true, Int.toNat_natCast]
    rw [show wrap64 ((i : Int) + 1) = ((i + 1 : Nat) : Int) by rw [wrap64_id (by omega) (by omega)]; omega, show wrap64 (a + (i : Int) + 1) = a + ((i + 1 : Nat) : Int) by rw [wrap64_id (by omega) (by omega)]; omega]
    refine ih (i + 1) _ (by omega) (by simpa using hl) ?_
    rw [List.take_succ_eq_append_getElem (by simp; omega), List.take_set_of_le (by omega), ht]
    simp [seqI, List.range_succ]
theorem markIntS_ev (l : List Int) (a : Int) (ha : 0 ≤ a) (han : a + l.length ≤ 9223372036854775806) : Ev (fun k => laws_markIntS.f k l a) (a + l.length, seqI a l.length) := by
  simp only [laws_markIntS.f]
  have := markIntS_l0 l.length a ha han l.length 0 l (by omega) rfl (by simp [seqI])
  simpa using this

theorem heldIntS_l0 (n : Nat) (a : Int) (ha : 0 ≤ a) (han : a + n ≤ 9223372036854775806) (d : Nat) : ∀ i : Nat, i + d = n → Ev (fun k => laws_heldIntS.l0 k (seqI a n) (a + i) i) (a + n) := by
  induction d with
  | zero =>
    intro i hi
    apply Ev.succ
    simp only [laws_heldIntS.l0, seqI_length, show ¬ ((i : Int) < (n : Int)) by omega, if_false]
    exact Ev.some (by omega)
  | succ d ih =>
    intro i hi
    apply Ev.succ
    simp only [laws_heldIntS.l0, seqI_length, rd_seqI a n i (by omega), show ((i : Int) < (n : Int)) by omega, show (0 : Int) ≤ (i : Int) by omega, if_true]
    rw [show wrap64 ((i : Int) + 1) = ((i + 1 : Nat) : Int) by rw [wrap64_id (by omega) (by omega)]; omega, show wrap64 (a + (i : Int) + 1) = a + ((i + 1 : Nat) : Int) by rw [wrap64_id (by omega) (by omega)]; omega]
    exact ih (i + 1) (by omega)
theorem heldIntS_ev (n : Nat) (a : Int) (ha : 0 ≤ a) (han : a + n ≤ 9223372036854775806) : Ev (fun k => laws_heldIntS.f k (seqI a n) a) (a + n) := by
  simp only [laws_heldIntS.f]
  have := heldIntS_l0 n a ha han n 0 (by omega)
  simpa using this
end Go.Proofs.Ytcldlljnaijmhaa.Pure
/- markIntSS and heldIntSS, to their ends. -/
namespace Go.Proofs.Ytcldlljnaijmhaa.Pure
open Go.RowKit Go.Proofs.YtcldlljnaijmhaaW.PrintWords Go.Proofs.YtcldlljnaijmhaaW.PrintLast Go.Proofs.Ytcldlljnaijmhaa.Pr Go.Proofs.Ytcldlljnaijmhaa.EvKit
set_option linter.unusedVariables false
def mk : List (List Int) → Int → List (List Int)
  | [], _ => []
  | y :: Y, a => seqI a y.length :: mk Y (a + y.length)
def tot : List (List Int) → Nat
  | [] => 0
  | y :: Y => y.length + tot Y
theorem mk_length (Y : List (List Int)) : ∀ a, (mk Y a).length = Y.length := by
  induction Y with
  | nil => intro a; rfl
  | cons y Y ih => intro a; simp [mk, ih]
theorem markIntSS_l0 (Y : List (List Int)) : ∀ (X : List (List Int)) (a : Int), 0 ≤ a → a + tot Y ≤ 9223372036854775806 → X.length + Y.length ≤ 1048576 →
    Ev (fun k => laws_markIntSS.l0 k (X ++ Y) a X.length) (a + tot Y, X ++ mk Y a) := by
  induction Y with
  | nil =>
    intro X a h0 h1 h2
    refine Ev.succ ?_
    simp only [laws_markIntSS.l0, List.append_nil, show ¬ ((X.length : Int) < (X.length : Int)) by omega, if_false]
    exact Ev.some (by simp [tot, mk])
  | cons y Y ih =>
    intro X a h0 h1 h2
    simp only [tot, List.length_cons] at h1 h2
    refine Ev.succ ?_
    have hl : (X ++ y :: Y).length = X.length + Y.length + 1 := by simp; omega
    simp only [laws_markIntSS.l0, hl, show ((X.length : Int) < ((X.length + Y.length + 1 : Nat) : Int)) by omega, show (0 : Int) ≤ (X.length : Int) by omega, if_true, Int.toNat_natCast]
    rw [show (X ++ y :: Y).getD X.length [] = y by rw [List.getD_eq_getElem?_getD, List.getElem?_append_right (Nat.le_refl _)]; simp]
    refine Ev.bnd (markIntS_ev y a h0 (by omega)) ?_
    rw [show (X ++ y :: Y).set X.length (a + (y.length : Int), seqI a y.length).2 = (X ++ [seqI a y.length]) ++ Y by rw [List.set_append, if_neg (by omega), Nat.sub_self]; simp]
    have := ih (X ++ [seqI a y.length]) (a + y.length) (by omega) (by omega) (by simp; omega)
    rw [show ((X ++ [seqI a y.length]).length : Int) = wrap64 ((X.length : Int) + 1) by rw [wrap64_id (by omega) (by omega)]; simp] at this
    refine Ev.eq this ?_
    simp only [tot, mk, List.append_assoc, List.singleton_append, Int.natCast_add, Prod.mk.injEq, and_true]
    omega
theorem markIntSS_ev (l : List (List Int)) (a : Int) (h0 : 0 ≤ a) (h1 : a + tot l ≤ 9223372036854775806) (h2 : l.length ≤ 1048576) : Ev (fun k => laws_markIntSS.f k l a) (a + tot l, mk l a) := by
  simp only [laws_markIntSS.f]
  exact markIntSS_l0 l [] a h0 h1 (by simpa using h2)
theorem heldIntSS_l0 (Y : List (List Int)) : ∀ (X : List (List Int)) (a : Int), 0 ≤ a → a + tot Y ≤ 9223372036854775806 → X.length + Y.length ≤ 1048576 →
    Ev (fun k => laws_heldIntSS.l0 k (X ++ mk Y a) a X.length) (a + tot Y) := by
  induction Y with
  | nil =>
    intro X a h0 h1 h2
    refine Ev.succ ?_
    simp only [laws_heldIntSS.l0, mk, List.append_nil, show ¬ ((X.length : Int) < (X.length : Int)) by omega, if_false]
    exact Ev.some (by simp [tot])
  | cons y Y ih =>
    intro X a h0 h1 h2
    simp only [tot, List.length_cons] at h1 h2
    refine Ev.succ ?_
    have hl : (X ++ mk (y :: Y) a).length = X.length + Y.length + 1 := by simp [mk, mk_length]; omega
    simp only [laws_heldIntSS.l0, hl, show ((X.length : Int) < ((X.length + Y.length + 1 : Nat) : Int)) by omega, show (0 : Int) ≤ (X.length : Int) by omega, if_true]
    rw [show rd_L1 (X ++ mk (y :: Y) a) (X.length : Int) = seqI a y.length by unfold rd_L1; rw [Int.toNat_natCast, List.getD_eq_getElem?_getD, List.getElem?_append_right (Nat.le_refl _)]; simp [mk]]
    refine Ev.bnd (heldIntS_ev y.length a h0 (by omega)) (Ev.neg (by omega) ?_)
    have := ih (X ++ [seqI a y.length]) (a + y.length) (by omega) (by omega) (by simp; omega)
    rw [show ((X ++ [seqI a y.length]).length : Int) = wrap64 ((X.length : Int) + 1) by rw [wrap64_id (by omega) (by omega)]; simp, List.append_assoc, List.singleton_append] at this
    refine Ev.eq this ?_
    simp only [tot, Int.natCast_add]
    omega
theorem heldIntSS_ev (l : List (List Int)) (a : Int) (h0 : 0 ≤ a) (h1 : a + tot l ≤ 9223372036854775806) (h2 : l.length ≤ 1048576) : Ev (fun k => laws_heldIntSS.f k (mk l a) a) (a + tot l) := by
  simp only [laws_heldIntSS.f]
  exact heldIntSS_l0 l [] a h0 h1 (by simpa using h2)
theorem tot_le (l : List (List Int)) (B : Nat) (h : ∀ x ∈ l, x.length ≤ B) : tot l ≤ l.length * B := by
  induction l with
  | nil => simp [tot]
  | cons y Y ih =>
    have h1 := h y (List.mem_cons_self ..)
    have h2 := ih (fun x hx => h x (List.mem_cons_of_mem _ hx))
    simp only [tot, List.length_cons, Nat.succ_mul]
    omega
end Go.Proofs.Ytcldlljnaijmhaa.Pure
/-
Own text: the reference's path, in its own lists, is the plan.
-/
namespace Go.Proofs.Ytcldlljnaijmhaa.Pure
open Go.RowKit Go.Proofs.YtcldlljnaijmhaaW.PrintWords Go.Proofs.YtcldlljnaijmhaaW.PrintLast Go.Proofs.Ytcldlljnaijmhaa.Pr Go.Proofs.Ytcldlljnaijmhaa.EvKit
open Classical

theorem hits_ev (p : List Int) (k : Nat) (a b : Int) (hk : k < p.length) (h2 : p.length ≤ 1048576) : spec_l20Hits.f p k a b = some (decide (Hits p k a b)) := by
  have e : rd p (k : Int) = PA p k := rfl
  have hh : Hits p k a b ↔ (PA p k = b ∨ (0 < k ∧ PA p (k - 1) = b ∧ PA p k = a)) := Iff.rfl
  simp only [spec_l20Hits.f, e, show (0 : Int) ≤ (k : Int) by omega, show (k : Int) < (p.length : Int) by omega, if_true]
  by_cases h1 : PA p k = b
  · rw [if_pos h1, decide_eq_true (hh.2 (.inl h1))]
  · rw [if_neg h1]
    by_cases h3 : k > 0
    · have e3 : rd p ((k : Int) - 1) = PA p (k - 1) := by
        unfold rd PA
        rw [show ((k : Int) - 1).toNat = k - 1 by omega]
      rw [if_pos (by omega), wrap64_id (x := (k : Int) - 1) (by omega) (by omega), if_pos (by omega), if_pos (by omega), e3]
      by_cases h4 : PA p (k - 1) = b
      · rw [if_pos h4]
        by_cases h5 : PA p k = a
        · rw [decide_eq_true (hh.2 (.inr ⟨h3, h4, h5⟩)), beq_iff_eq.2 h5]
        · rw [decide_eq_false (fun h => h5 ((hh.1 h).resolve_left h1).2.2), beq_eq_false_iff_ne.2 h5]
      · rw [if_neg h4, decide_eq_false (fun h => h4 ((hh.1 h).resolve_left h1).2.1)]
    · rw [if_neg (by omega), decide_eq_false (fun h => h3 ((hh.1 h).resolve_left h1).1)]
/-- All paths are as long as the plan. -/
def Len (P : List (List Int)) (m : Nat) : Prop := ∀ p ∈ P, p.length = m
theorem free_l0 (P : List (List Int)) (m : Nat) (hP : Len P m) (hm : m ≤ 1048576) (hn : P.length ≤ 1048576) (k : Nat) (hk : k < m) (a b : Int) (d : Nat) : ∀ i : Nat, i + d = P.length → Ev (fun q => spec_l20Free.l0 q k a b P (P.length : Int) i) (decide (May (P.drop i) k a b)) := by
  induction d with
  | zero =>
    intro i hi
    apply Ev.succ
    simp only [spec_l20Free.l0]
    rw [List.drop_eq_nil_of_le (by omega)]
    exact Ev.neg (by omega) (Ev.some (decide_eq_true (show May [] k a b from fun p hp => by cases hp)).symm)
  | succ d ih =>
    intro i hi
    have hdr : P.drop i = P.getD i [] :: P.drop (i + 1) := by
      rw [List.drop_eq_getElem_cons (show i < P.length by omega)]
      congr 1
      simp [List.getD_eq_getElem?_getD, List.getElem?_eq_getElem (show i < P.length by omega)]
    have e : rd_L1 P (i : Int) = P.getD i [] := rfl
    have hm1 := getD_mem P i [] (show i < P.length by omega)
    have hl := hP _ hm1
    apply Ev.succ
    simp only [spec_l20Free.l0, e, succ_w (show i < 35184372088833 by omega)]
    rw [hdr]
    refine Ev.pos (by omega) (Ev.pos (by omega) (Ev.pos (by omega) (Ev.bnd0 (hits_ev _ k a b (by omega) (by omega)) (Ev.ite (fun h => ?_) (fun h => ?_)))))
    · exact Ev.some (decide_eq_false (show ¬ May _ k a b from fun hh => hh _ (.head _) (by simpa using h))).symm
    · refine Ev.eq (ih (i + 1) (by omega)) ?_
      rw [decide_eq_decide]
      constructor
      · intro hh p hp
        rcases List.mem_cons.1 hp with rfl | hp
        · simpa using h
        · exact hh p hp
      · exact fun hh p hp => hh p (.tail _ hp)
theorem free_ev (P : List (List Int)) (m : Nat) (hP : Len P m) (hm : m ≤ 1048576) (hn : P.length ≤ 1048576) (k : Nat) (hk : k < m) (a b : Int) : Ev (fun q => spec_l20Free.f q P k a b) (decide (May P k a b)) := by
  simp only [spec_l20Free.f]
  have := free_l0 P m hP hm hn k hk a b P.length 0 (by omega)
  exact this

theorem Gos_len' (w : Int) (c : List Int) (a : Int) : (Gos w c a).length ≤ 100 := by
  unfold Gos
  refine Nat.le_trans (List.length_filter_le _ _) ?_
  simp
/-! ### the table of who comes there in time -/
section
variable {w : Int} {c : List Int} {P : List (List Int)} {S T : Int} {N e : Nat}
/-- A row of the table. -/
def RowIs (n : Nat) (row : List Bool) (C : Int → Prop) : Prop := row.length = n ∧ ∀ x : Int, 0 ≤ x → x < n → rdOf false row x = decide (C x)
theorem RowIs.set {n : Nat} {row : List Bool} {C C' : Int → Prop} (h : RowIs n row C) {x : Int} (h0 : 0 ≤ x) (b : Bool) (hb : b = decide (C' x)) (hC : ∀ y : Int, y ≠ x → (C y ↔ C' y)) : RowIs n (row.set x.toNat b) C' := by
  obtain ⟨hl, hr⟩ := h
  refine ⟨by simp [hl], fun y hy0 hy1 => ?_⟩
  by_cases e : y = x
  · subst e
    unfold rdOf
    rw [List.getD_eq_getElem?_getD, List.getElem?_set_self (by omega)]
    exact hb
  · have h1 := hr y hy0 hy1
    rw [decide_eq_decide.2 (hC y e)] at h1
    rw [← h1]
    unfold rdOf
    rw [List.getD_eq_getElem?_getD, List.getD_eq_getElem?_getD, List.getElem?_set_ne (by omega)]
theorem RowIs.congr {n : Nat} {row : List Bool} {C C' : Int → Prop} (h : RowIs n row C) (hC : ∀ y : Int, 0 ≤ y → y < n → (C y ↔ C' y)) : RowIs n row C' := ⟨h.1, fun y h0 h1 => (h.2 y h0 h1).trans (decide_eq_decide.2 (hC y h0 h1))⟩
theorem RowIs.none (n : Nat) : RowIs n (List.replicate n false) (fun _ => False) := ⟨by simp, fun x h0 h1 => by
  unfold rdOf
  rw [List.getD_eq_getElem?_getD, List.getElem?_replicate, if_pos (by omega)]
  simp⟩
theorem row_set (CL : List (List Bool)) (k j : Nat) (row : List Bool) (hk : k < CL.length) : rd_L5 (CL.set k row) (j : Int) = if j = k then row else rd_L5 CL (j : Int) := by
  unfold rd_L5
  simp only [Int.toNat_natCast, List.getD_eq_getElem?_getD]
  by_cases e : j = k
  · subst e
    rw [List.getElem?_set_self hk, if_pos rfl]
    rfl
  · rw [List.getElem?_set_ne (Ne.symm e), if_neg e]
/-- The rows from k on stand; those ahead hold nothing. -/
def Tab (w : Int) (c : List Int) (P : List (List Int)) (T : Int) (e k : Nat) (CL : List (List Bool)) : Prop := CL.length = e + 1 ∧ ∀ j, j ≤ e → RowIs c.length (rd_L5 CL (j : Int)) (fun x => k ≤ j ∧ reach w c P T (e - j) j x)
theorem path_l5 (hP : Len P (N + 1)) (hN : N ≤ 1000) (hPn : P.length ≤ 1048576) (he : e ≤ N) (r : List Int × Bool) (k i : Nat) (hk : k < e) (hi : i < c.length) (hn : c.length ≤ 256) (l : List Int) (hl : ∀ y ∈ l, Fr c y) (h100 : l.length ≤ 100) (d : Nat) :
    ∀ (j : Nat) (CL : List (List Bool)) (C0 : Int → Prop) (done : Prop), j + d = l.length → CL.length = e + 1 → RowIs c.length (rd_L5 CL (k : Int)) (fun x => C0 x ∨ (x = i ∧ done)) → ¬ C0 i → RowIs c.length (rd_L5 CL ((k + 1 : Nat) : Int)) (fun x => reach w c P T (e - (k + 1)) (k + 1) x) →
    (∀ CL' : List (List Bool), CL'.length = e + 1 → RowIs c.length (rd_L5 CL' (k : Int)) (fun x => C0 x ∨ (x = i ∧ (done ∨ ∃ y ∈ l.drop j, reach w c P T (e - (k + 1)) (k + 1) y ∧ May P (k + 1) i y))) → (∀ q : Nat, q ≠ k → rd_L5 CL' (q : Int) = rd_L5 CL (q : Int)) →
      Ev (fun m => spec_l20Path.l4 m P N c.length e CL' k ((i + 1 : Nat) : Int) w c S T) r) →
    Ev (fun m => spec_l20Path.l5 m P N c.length e CL k i l (l.length : Int) j w c S T) r := by
  induction d with
  | zero =>
    intro j CL C0 done hj hlen hrow hC0 _ hNx
    apply Ev.succ
    simp only [spec_l20Path.l5, succ_w (show i < 35184372088833 by omega)]
    refine Ev.neg (by omega) (hNx CL hlen ?_ (fun _ _ => rfl))
    refine hrow.congr (fun y _ _ => ?_)
    rw [List.drop_eq_nil_of_le (by omega)]
    simp
  | succ d ih =>
    intro j CL C0 done hj hlen hrow hC0 hnext hNx
    have hdr : l.drop j = l.getD j 0 :: l.drop (j + 1) := by
      rw [List.drop_eq_getElem_cons (show j < l.length by omega)]
      congr 1
      simp [List.getD_eq_getElem?_getD, List.getElem?_eq_getElem (show j < l.length by omega)]
    have en : rd l (j : Int) = l.getD j 0 := rfl
    have hfy := hl _ (getD_mem l j 0 (by omega))
    rw [hdr] at hNx
    generalize l.getD j 0 = y at hNx en hfy
    have hk1 : wrap64 ((k : Int) + 1) = ((k + 1 : Nat) : Int) := succ_w (by omega)
    have hat : rdOf false (rd_L5 CL (k : Int)) (i : Int) = decide done := by
      rw [hrow.2 i (by omega) (by omega), decide_eq_decide]
      exact ⟨fun h => h.elim (fun h => absurd h hC0) (fun h => h.2), fun h => .inr ⟨rfl, h⟩⟩
    have hy := hnext.2 y hfy.1 hfy.2.1
    have h1 := hfy.1
    have h2 := hfy.2.1
    have hkl : k < CL.length := by rw [hlen]; exact Nat.lt_succ_of_lt hk
    have step : ∀ (b : Bool) (done' : Prop), b = decide done' → (done' ↔ (done ∨ (reach w c P T (e - (k + 1)) (k + 1) y ∧ May P (k + 1) i y))) → Ev (fun m => spec_l20Path.l5 m P N c.length e (CL.set k ((rd_L5 CL (k : Int)).set i b)) k i l (l.length : Int) ((j + 1 : Nat) : Int) w c S T) r := by
      intro b done' hb hd
      have hr : ∀ q : Nat, rd_L5 (CL.set k ((rd_L5 CL (k : Int)).set i b)) (q : Int) = if q = k then (rd_L5 CL (k : Int)).set i b else rd_L5 CL (q : Int) := fun q => row_set CL k q _ hkl
      refine ih (j + 1) _ C0 done' (by omega) (by simp [hlen]) ?_ hC0 ?_ ?_
      · rw [hr k, if_pos rfl]
        have := hrow.set (C' := fun x => C0 x ∨ (x = i ∧ done')) (x := (i : Int)) (by omega) b (by rw [hb, decide_eq_decide]; exact ⟨fun h => .inr ⟨rfl, h⟩, fun h => h.elim (fun h => absurd h hC0) (fun h => h.2)⟩) (fun z hz => ⟨fun h => h.elim .inl (fun h => absurd h.1 hz), fun h => h.elim .inl (fun h => absurd h.1 hz)⟩)
        rw [Int.toNat_natCast] at this
        exact this
      · rw [hr (k + 1), if_neg (by omega)]
        exact hnext
      · intro CL' hlen' hrow' hoth
        refine hNx CL' hlen' ?_ (fun q hq => by rw [hoth q hq, hr q, if_neg hq])
        refine hrow'.congr (fun z _ _ => ?_)
        constructor
        · rintro (h | ⟨h, h3⟩)
          · exact .inl h
          · refine .inr ⟨h, ?_⟩
            rcases h3 with h3 | ⟨y', h4, h5⟩
            · rcases hd.1 h3 with h6 | h6
              · exact .inl h6
              · exact .inr ⟨y, .head _, h6⟩
            · exact .inr ⟨y', .tail _ h4, h5⟩
        · rintro (h | ⟨h, h3⟩)
          · exact .inl h
          · refine .inr ⟨h, ?_⟩
            rcases h3 with h3 | ⟨y', h4, h5⟩
            · exact .inl (hd.2 (.inl h3))
            · rcases List.mem_cons.1 h4 with e' | h4
              · subst e'
                exact .inl (hd.2 (.inr h5))
              · exact .inr ⟨y', h4, h5⟩
    apply Ev.succ
    simp only [spec_l20Path.l5, succ_w (show j < 35184372088833 by omega), en, hk1, hlen, hrow.1, hnext.1, Int.toNat_natCast, hat]
    have hN1 : N + 1 ≤ 1048576 := Nat.le_trans (Nat.succ_le_succ hN) (by decide)
    have hkN : k + 1 < N + 1 := Nat.succ_lt_succ (Nat.lt_of_lt_of_le hk he)
    have hke : ((k : Nat) : Int) < ((e + 1 : Nat) : Int) := Int.ofNat_lt.2 (Nat.lt_succ_of_lt hk)
    have hke2 : ((k + 1 : Nat) : Int) < ((e + 1 : Nat) : Int) := Int.ofNat_lt.2 (Nat.succ_lt_succ hk)
    refine Ev.pos (by omega) (Ev.pos (Int.natCast_nonneg _) (Ev.pos (by omega) (Ev.pos (Int.natCast_nonneg _) (Ev.pos hke (Ev.pos (Int.natCast_nonneg _) (Ev.pos (by omega) ?_))))))
    by_cases hd : done
    · exact Ev.pos (by simpa using hd) (step true True (by simp) (by simp [hd]))
    · refine Ev.neg (by simpa using hd) (Ev.pos (Int.natCast_nonneg _) (Ev.pos hke2 (Ev.pos h1 (Ev.pos h2 ?_))))
      rw [hy]
      by_cases hc : reach w c P T (e - (k + 1)) (k + 1) y
      · refine Ev.pos (by simpa using hc) (Ev.bnd (free_ev P (N + 1) hP hN1 hPn (k + 1) hkN i y) ?_)
        exact step _ _ rfl (by simp [hd, hc])
      · refine Ev.neg (by simpa using hc) (step false False (by simp) (by simp [hd, hc]))
theorem path_l4 (hw : Cl w c) (hP : Len P (N + 1)) (hN : N ≤ 1000) (hPn : P.length ≤ 1048576) (he : e ≤ N) (r : List Int × Bool) (k : Nat) (hk : k < e) (d : Nat) :
    ∀ (i : Nat) (CL : List (List Bool)), i + d = c.length → CL.length = e + 1 → RowIs c.length (rd_L5 CL (k : Int)) (fun x => x < (i : Int) ∧ reach w c P T (e - k) k x) → RowIs c.length (rd_L5 CL ((k + 1 : Nat) : Int)) (fun x => reach w c P T (e - (k + 1)) (k + 1) x) →
    (∀ CL' : List (List Bool), CL'.length = e + 1 → RowIs c.length (rd_L5 CL' (k : Int)) (fun x => reach w c P T (e - k) k x) → (∀ q : Nat, q ≠ k → rd_L5 CL' (q : Int) = rd_L5 CL (q : Int)) → Ev (fun m => spec_l20Path.l3 m P N c.length e CL' (wrap64 ((k : Int) - 1)) w c S T) r) →
    Ev (fun m => spec_l20Path.l4 m P N c.length e CL k i w c S T) r := by
  have hn := hw.n256
  have hek : e - k = (e - (k + 1)) + 1 := by clear hN hPn; omega
  have hrs : ∀ x, reach w c P T (e - k) k x ↔ (Fr c x ∧ ∃ y ∈ Gos w c x, reach w c P T (e - (k + 1)) (k + 1) y ∧ May P (k + 1) x y) := fun x => by rw [hek]; simp only [reach]
  induction d with
  | zero =>
    intro i CL hi hlen hrow _ hNx
    apply Ev.succ
    simp only [spec_l20Path.l4]
    exact Ev.neg (by omega) (hNx CL hlen (hrow.congr (fun y _ h1 => ⟨fun h => h.2, fun h => ⟨by omega, h⟩⟩)) (fun _ _ => rfl))
  | succ d ih =>
    intro i CL hi hlen hrow hnext hNx
    apply Ev.succ
    simp only [spec_l20Path.l4, succ_w (show i < 35184372088833 by omega)]
    refine Ev.pos (by omega) (Ev.bnd0 (free_spec w c i) ?_)
    by_cases hf : Fr c (i : Int)
    · refine Ev.pos (by simpa using hf) (Ev.bnd (goes_ev hw hf).2 ?_)
      refine path_l5 hP hN hPn he r k i hk (by omega) hn (Gos w c i) (fun y hy => Gos_free hy) (Gos_len' w c i) _ 0 CL (fun x => x < (i : Int) ∧ reach w c P T (e - k) k x) False (Nat.zero_add _) hlen (hrow.congr (fun y _ _ => by simp)) (fun h => by have := h.1; omega) hnext ?_
      intro CL' hlen' hrow' hoth
      rw [List.drop_zero] at hrow'
      refine ih (i + 1) CL' (by omega) hlen' (hrow'.congr (fun y _ _ => ?_)) ?_ (fun CL2 h1 h2 h3 => hNx CL2 h1 h2 (fun q hq => (h3 q hq).trans (hoth q hq)))
      · constructor
        · rintro (h | ⟨h, h2⟩)
          · exact ⟨by omega, h.2⟩
          · subst h
            exact ⟨by omega, (hrs _).2 ⟨hf, h2.resolve_left (fun h => h)⟩⟩
        · rintro ⟨h1, h2⟩
          by_cases e1 : y = (i : Int)
          · subst e1
            exact .inr ⟨rfl, .inr ((hrs _).1 h2).2⟩
          · exact .inl ⟨by omega, h2⟩
      · rw [hoth (k + 1) (Nat.succ_ne_self k)]
        exact hnext
    · refine Ev.neg (by simpa using hf) (ih (i + 1) CL (by omega) hlen (hrow.congr (fun y _ _ => ?_)) hnext hNx)
      constructor
      · exact fun h => ⟨by omega, h.2⟩
      · rintro ⟨h1, h2⟩
        refine ⟨?_, h2⟩
        have : y ≠ (i : Int) := fun e1 => hf (e1 ▸ ((hrs _).1 h2).1)
        omega
theorem path_l3 (hw : Cl w c) (hP : Len P (N + 1)) (hN : N ≤ 1000) (hPn : P.length ≤ 1048576) (he : e ≤ N) (hS : Fr c S) (r : List Int × Bool)
    (hno : ¬ (reach w c P T e 0 S ∧ May P 0 S S) → Ev (fun m => spec_l20Path.l1 m P N c.length ((e + 1 : Nat) : Int) w c S T) r)
    (hyes : reach w c P T e 0 S ∧ May P 0 S S → ∀ CL, Tab w c P T e 0 CL → Ev (fun m => spec_l20Path.l6 m P N e CL [S] 1 w c S T) r) (k : Nat) :
    ∀ CL : List (List Bool), k ≤ e → Tab w c P T e k CL → Ev (fun m => spec_l20Path.l3 m P N c.length e CL ((k : Int) - 1) w c S T) r := by
  have hN1 : N + 1 ≤ 1048576 := Nat.le_trans (Nat.succ_le_succ hN) (by decide)
  induction k with
  | zero =>
    intro CL _ ht
    have h0 := ht.2 0 (Nat.zero_le _)
    have hx := h0.2 S hS.1 hS.2.1
    have e0 : rd_L5 CL 0 = rd_L5 CL ((0 : Nat) : Int) := rfl
    apply Ev.succ
    simp only [spec_l20Path.l3, ht.1, e0, h0.1]
    refine Ev.neg (by omega) (Ev.pos (Int.ofNat_lt.2 (Nat.succ_pos e)) (Ev.pos hS.1 (Ev.pos hS.2.1 ?_)))
    have hwe : wrap64 ((e : Int) + 1) = ((e + 1 : Nat) : Int) := succ_w (Nat.lt_of_le_of_lt (Nat.le_trans he hN) (by decide))
    have jt : ¬ (reach w c P T e 0 S ∧ May P 0 S S) → Ev (fun m => spec_l20Path.j7 m P N c.length e CL true w c S T) r := fun h => by
      apply Ev.succ
      simp only [spec_l20Path.j7, hwe, if_true]
      exact hno h
    by_cases hr : reach w c P T e 0 S
    · refine Ev.pos (by rw [hx]; simpa using hr) (Ev.bnd (free_ev P (N + 1) hP hN1 hPn 0 (Nat.succ_pos N) S S) ?_)
      by_cases hm : May P 0 S S
      · rw [decide_eq_true hm]
        apply Ev.succ
        simp only [spec_l20Path.j7, Bool.not_true, Bool.false_eq_true, if_false]
        exact hyes ⟨hr, hm⟩ CL ht
      · rw [decide_eq_false hm]
        exact jt (fun h => hm h.2)
    · exact Ev.neg (by rw [hx]; simpa using hr) (jt (fun h => hr h.1))
  | succ k ih =>
    intro CL hk ht
    have hk' : k < e := hk
    have hke : (k : Int) ≤ 1000 := by have := Nat.le_trans (Nat.le_of_lt hk') (Nat.le_trans he hN); omega
    have ek : ((k + 1 : Nat) : Int) - 1 = (k : Int) := by omega
    rw [ek]
    apply Ev.succ
    simp only [spec_l20Path.l3]
    refine Ev.pos (Int.natCast_nonneg k) ?_
    have hrow := ht.2 k (Nat.le_of_lt hk')
    have hnext := ht.2 (k + 1) hk
    refine path_l4 hw hP hN hPn he r k hk' c.length 0 CL (Nat.zero_add _) ht.1 (hrow.congr (fun y h0 _ => ⟨fun h => absurd h.1 (Nat.not_succ_le_self k), fun h => by have := h.1; omega⟩)) (hnext.congr (fun y _ _ => ⟨fun h => h.2, fun h => ⟨Nat.le_refl _, h⟩⟩)) ?_
    intro CL' hlen' hrow' hoth
    rw [wrap64_id (x := (k : Int) - 1) (by omega) (by omega)]
    refine ih CL' (Nat.le_of_lt hk') ⟨hlen', fun j hj => ?_⟩
    by_cases e1 : j = k
    · subst e1
      exact hrow'.congr (fun y _ _ => ⟨fun h => ⟨Nat.le_refl _, h⟩, fun h => h.2⟩)
    · rw [hoth j e1]
      refine (ht.2 j hj).congr (fun y _ _ => ?_)
      constructor
      · exact fun h => ⟨Nat.le_of_succ_le h.1, h.2⟩
      · exact fun h => ⟨Nat.lt_of_le_of_ne h.1 (Ne.symm e1), h.2⟩
theorem path_l2 (hN : N ≤ 1000) (he : e ≤ N) (hn : c.length ≤ 256) (hT : Fr c T) (r : List Int × Bool) (hNx : ∀ CL, Tab w c P T e e CL → Ev (fun m => spec_l20Path.l3 m P N c.length e CL ((e : Int) - 1) w c S T) r) (d : Nat) :
    ∀ (i : Nat) (CL : List (List Bool)), i + d = e + 1 → CL.length = e + 1 → (∀ j, j < i → rd_L5 CL (j : Int) = List.replicate c.length false) → Ev (fun m => spec_l20Path.l2 m P N c.length e CL ((e + 1 : Nat) : Int) i w c S T) r := by
  have hle : e ≤ 1000 := Nat.le_trans he hN
  induction d with
  | zero =>
    intro i CL hi hlen hrows
    have hre := hrows e (by omega)
    have hwe : wrap64 ((e : Int) - 1) = (e : Int) - 1 := wrap64_id (by omega) (by omega)
    apply Ev.succ
    simp only [spec_l20Path.l2, hlen, hre, List.length_replicate, hwe, Int.toNat_natCast]
    refine Ev.neg (by omega) (Ev.pos (by omega) (Ev.pos (by omega) (Ev.pos hT.1 (Ev.pos hT.2.1 (hNx _ ⟨by simp [hlen], fun j hj => ?_⟩)))))
    rw [row_set CL e j _ (by omega)]
    have hnone := RowIs.none c.length
    by_cases e1 : j = e
    · subst e1
      rw [if_pos rfl]
      have hz : ∀ y, reach w c P T (j - j) j y ↔ y = T := fun y => by rw [Nat.sub_self]; exact Iff.rfl
      refine hnone.set hT.1 true ?_ (fun y hy => ⟨False.elim, fun h => hy ((hz y).1 h.2)⟩)
      have h2 : j ≤ j ∧ reach w c P T (j - j) j T := ⟨Nat.le_refl _, (hz T).2 rfl⟩
      exact (by simpa using h2.2)
    · rw [if_neg e1, hrows j (by omega)]
      exact hnone.congr (fun y _ _ => ⟨False.elim, fun h => e1 (Nat.le_antisymm hj h.1)⟩)
  | succ d ih =>
    intro i CL hi hlen hrows
    apply Ev.succ
    simp only [spec_l20Path.l2, hlen, succ_w (show i < 35184372088833 by omega), Int.toNat_natCast]
    refine Ev.pos (by omega) (Ev.pos (by omega) (Ev.pos (by omega) (Ev.pos (by omega) (Ev.pos (by omega) (ih (i + 1) _ (by omega) (by simp [hlen]) (fun j hj => ?_))))))
    rw [row_set CL i j _ (by omega)]
    by_cases e1 : j = i
    · rw [if_pos e1]
    · rw [if_neg e1]
      exact hrows j (by omega)

/-! ### the path itself -/
theorem range_map_snoc {α : Type} (f : Nat → α) (k : Nat) : (List.range (k + 1)).map f = (List.range k).map f ++ [f k] := by rw [List.range_succ, List.map_append]; rfl
theorem path_l8 (hN : N ≤ 1000) (f : Nat → Int) (r : List Int) (d : Nat) : ∀ k, k + d = N + 1 → (∀ j, k ≤ j → j ≤ N → f j = T) → r = (List.range (N + 1)).map f → Ev (fun m => spec_l20Path.l8 m N ((List.range k).map f) S T) (r, true) := by
  induction d with
  | zero =>
    intro k hk hf hr
    obtain rfl : k = N + 1 := by omega
    apply Ev.succ
    simp only [spec_l20Path.l8, List.length_map, List.length_range]
    exact Ev.neg (by omega) (Ev.some (by rw [hr]))
  | succ d ih =>
    intro k hk hf hr
    apply Ev.succ
    simp only [spec_l20Path.l8, List.length_map, List.length_range]
    have := ih (k + 1) (by omega) (fun j h1 h2 => hf j (by omega) h2) hr
    rw [range_map_snoc, hf k (Nat.le_refl _) (by omega)] at this
    exact Ev.pos (by omega) (Ev.pos (by omega) this)
theorem path_l7 (hP : Len P (N + 1)) (hN : N ≤ 1000) (hPn : P.length ≤ 1048576) (he : e ≤ N) (CL : List (List Bool)) (ht : Tab w c P T e 0 CL) (r : List Int × Bool) (k : Nat) (hk : k ≤ e) (out : List Int) (ho : out.length ≤ 1001) (x y : Int) (l : List Int) (hl : ∀ y ∈ l, Fr c y) (h100 : l.length ≤ 100)
    (hN2 : Ev (fun m => spec_l20Path.l6 m P N e CL (out ++ [y]) ((k + 1 : Nat) : Int) w c S T) r) (d : Nat) :
    ∀ j : Nat, j + d = l.length → (l.drop j).find? (fun y => decide (reach w c P T (e - k) k y ∧ May P k x y)) = some y → Ev (fun m => spec_l20Path.l7 m P N e CL out k x l (l.length : Int) j w c S T) r := by
  have hN1 : N + 1 ≤ 1048576 := Nat.le_trans (Nat.succ_le_succ hN) (by decide)
  have hkN : k < N + 1 := Nat.lt_succ_of_le (Nat.le_trans hk he)
  have hrow := ht.2 k hk
  have hwk : wrap64 ((k : Int) + 1) = ((k + 1 : Nat) : Int) := succ_w (by omega)
  have hke : (k : Int) < ((e + 1 : Nat) : Int) := Int.ofNat_lt.2 (Nat.lt_succ_of_le hk)
  induction d with
  | zero =>
    intro j hj hf
    rw [List.drop_eq_nil_of_le (by omega)] at hf
    cases hf
  | succ d ih =>
    intro j hj hf
    have hdr : l.drop j = l.getD j 0 :: l.drop (j + 1) := by
      rw [List.drop_eq_getElem_cons (show j < l.length by omega)]
      congr 1
      simp [List.getD_eq_getElem?_getD, List.getElem?_eq_getElem (show j < l.length by omega)]
    have en : rd l (j : Int) = l.getD j 0 := rfl
    have hfz := hl _ (getD_mem l j 0 (by omega))
    rw [hdr, List.find?_cons] at hf
    generalize l.getD j 0 = z at hf en hfz
    have hz := hrow.2 z hfz.1 hfz.2.1
    have hj1 : (j : Int) < (l.length : Int) := by omega
    apply Ev.succ
    simp only [spec_l20Path.l7, succ_w (show j < 35184372088833 by omega), en, ht.1, hrow.1, hz, hwk]
    refine Ev.pos hj1 (Ev.pos (Int.natCast_nonneg _) (Ev.pos hj1 (Ev.pos (Int.natCast_nonneg _) (Ev.pos hke (Ev.pos hfz.1 (Ev.pos hfz.2.1 ?_))))))
    by_cases hr : reach w c P T (e - k) k z
    · refine Ev.pos (by simpa using hr) (Ev.bnd (free_ev P (N + 1) hP hN1 hPn k hkN x z) ?_)
      by_cases hm : May P k x z
      · rw [decide_eq_true (⟨hr, hm⟩ : reach w c P T (e - k) k z ∧ May P k x z)] at hf
        cases hf
        exact Ev.pos (by simpa using hm) (Ev.pos (by omega) hN2)
      · rw [decide_eq_false (fun h : reach w c P T (e - k) k z ∧ May P k x z => hm h.2)] at hf
        exact Ev.neg (by simpa using hm) (ih (j + 1) (by omega) hf)
    · rw [decide_eq_false (fun h : reach w c P T (e - k) k z ∧ May P k x z => hr h.1)] at hf
      exact Ev.neg (by simpa using hr) (ih (j + 1) (by omega) hf)
/-- What the walk back is: a good step each time. -/
theorem gst_good {k : Nat} (hk : k < e) (hr : reach w c P T (e - k) k (gst w c P S T (fun k x => reach w c P T (e - k) k x) k)) :
    good w c P (fun k x => reach w c P T (e - k) k x) (k + 1) (gst w c P S T (fun k x => reach w c P T (e - k) k x) k) = some (gst w c P S T (fun k x => reach w c P T (e - k) k x) (k + 1)) ∧ reach w c P T (e - (k + 1)) (k + 1) (gst w c P S T (fun k x => reach w c P T (e - k) k x) (k + 1)) := by
  have hm : e - k = (e - (k + 1)) + 1 := by omega
  rw [hm] at hr
  simp only [reach] at hr
  obtain ⟨_, y, h3, h4, h5⟩ := hr
  simp only [gst]
  generalize hx : gst w c P S T (fun k x => reach w c P T (e - k) k x) k = x at h3 h5 ⊢
  cases hg : good w c P (fun k x => reach w c P T (e - k) k x) (k + 1) x with
  | none =>
    unfold good at hg
    have := List.find?_eq_none.1 hg y h3
    simp only [decide_eq_true_eq] at this
    exact absurd ⟨h4, h5⟩ this
  | some z =>
    refine ⟨rfl, ?_⟩
    unfold good at hg
    have := List.find?_some hg
    simp only [decide_eq_true_eq] at this
    exact this.1
theorem path_l6 (hw : Cl w c) (hP : Len P (N + 1)) (hN : N ≤ 1000) (hPn : P.length ≤ 1048576) (he : e ≤ N) (CL : List (List Bool)) (ht : Tab w c P T e 0 CL) (r : List Int) (hr : r = (List.range (N + 1)).map fun k => if k ≤ e then gst w c P S T (fun k x => reach w c P T (e - k) k x) k else T) (d : Nat) :
    ∀ k : Nat, k + d = e → reach w c P T (e - k) k (gst w c P S T (fun k x => reach w c P T (e - k) k x) k) → Fr c (gst w c P S T (fun k x => reach w c P T (e - k) k x) k) →
    Ev (fun m => spec_l20Path.l6 m P N e CL ((List.range (k + 1)).map fun k => if k ≤ e then gst w c P S T (fun k x => reach w c P T (e - k) k x) k else T) ((k + 1 : Nat) : Int) w c S T) (r, true) := by
  have hn := hw.n256
  have hle : e ≤ 1000 := Nat.le_trans he hN
  induction d with
  | zero =>
    intro k hk _ _
    apply Ev.succ
    simp only [spec_l20Path.l6]
    have hlt : e < k + 1 := by omega
    refine Ev.neg (by omega) ?_
    refine path_l8 hN _ r (N - k) (k + 1) (by omega) (fun j h1 h2 => ?_) hr
    rw [if_neg (by omega)]
  | succ d ih =>
    intro k hk hre hfk
    have hke : k < e := by omega
    obtain ⟨g1, g2⟩ := gst_good hke hre
    have hw1 : wrap64 (((k + 1 : Nat) : Int) - 1) = (k : Int) := by rw [wrap64_id (by omega) (by omega)]; omega
    have hrd : rd ((List.range (k + 1)).map fun k => if k ≤ e then gst w c P S T (fun k x => reach w c P T (e - k) k x) k else T) (k : Int) = gst w c P S T (fun k x => reach w c P T (e - k) k x) k := by
      unfold rd
      rw [Int.toNat_natCast, List.getD_eq_getElem?_getD, List.getElem?_map, List.getElem?_range (Nat.lt_succ_self k)]
      simp only [Option.map_some, Option.getD_some]
      rw [if_pos (Nat.le_of_lt hke)]
    have hgf : Fr c (gst w c P S T (fun k x => reach w c P T (e - k) k x) (k + 1)) := by
      unfold good at g1
      exact Gos_free (List.mem_of_find?_eq_some g1)
    have hnx := ih (k + 1) (by omega) g2 hgf
    rw [range_map_snoc, if_pos (show k + 1 ≤ e from hke)] at hnx
    apply Ev.succ
    simp only [spec_l20Path.l6, hw1, List.length_map, List.length_range, hrd]
    refine Ev.pos (by omega) (Ev.pos (Int.natCast_nonneg _) (Ev.pos (by omega) (Ev.bnd (goes_ev hw hfk).2 ?_)))
    exact path_l7 hP hN hPn he CL ht (r, true) (k + 1) hke _ (by simp; omega) _ _ _ (fun y hy => Gos_free hy) (Gos_len' w c _) hnx _ 0 (Nat.zero_add _) (by rw [List.drop_zero]; exact g1)
theorem path_l1 (hw : Cl w c) (hP : Len P (N + 1)) (hN : N ≤ 1000) (hPn : P.length ≤ 1048576) (hS : Fr c S) (hT : Fr c T) (d : Nat) :
    ∀ e : Nat, e + d = N + 1 → Ev (fun m => spec_l20Path.l1 m P N c.length e w c S T) (match ((List.range (N + 1)).drop e).find? (fun e => decide (reach w c P T e 0 S ∧ May P 0 S S)) with
      | some e => ((List.range (N + 1)).map (fun k => if k ≤ e then gst w c P S T (fun k x => reach w c P T (e - k) k x) k else T), true)
      | none => ([], false)) := by
  have hn := hw.n256
  induction d with
  | zero =>
    intro e he
    rw [List.drop_eq_nil_of_le (by simp; omega)]
    apply Ev.succ
    simp only [spec_l20Path.l1]
    exact Ev.neg (by omega) (Ev.some rfl)
  | succ d ih =>
    intro e he
    have heN : e ≤ N := by omega
    have hdr : (List.range (N + 1)).drop e = e :: (List.range (N + 1)).drop (e + 1) := by
      rw [List.drop_eq_getElem_cons (by simp; omega)]
      simp
    have hwe : wrap64 ((e : Int) + 1) = ((e + 1 : Nat) : Int) := succ_w (by omega)
    rw [hdr, List.find?_cons]
    have nx := ih (e + 1) (by omega)
    apply Ev.succ
    simp only [spec_l20Path.l1, hwe, Int.toNat_natCast, Option.bind_some, List.length_replicate]
    refine Ev.pos (by omega) (Ev.pos (by omega) (Ev.pos (by omega) ?_))
    refine path_l2 hN heN hn hT _ (fun CL ht => ?_) (e + 1) 0 _ (Nat.zero_add _) (by simp) (fun j hj => absurd hj (Nat.not_lt_zero j))
    refine path_l3 hw hP hN hPn heN hS _ (fun h => ?_) (fun hr CL2 ht2 => ?_) e CL (Nat.le_refl _) ht
    · rw [decide_eq_false h]
      exact nx
    · rw [decide_eq_true hr]
      exact path_l6 (S := S) hw hP hN hPn heN CL2 ht2 _ rfl e 0 (Nat.zero_add _) hr.1 hS
theorem path_l0 (_hw : Cl w c) (hP : Len P (N + 1)) (hN : N ≤ 1000) (hPn : P.length ≤ 1048576) (r : List Int × Bool) (hNx : ∀ s : Nat, s ≤ N + 1 → Stay P T N s → (s = 0 ∨ ¬ Clear P T (s - 1)) → Ev (fun m => spec_l20Path.l1 m P N c.length s w c S T) r) (s : Nat) :
    s ≤ N + 1 → Stay P T N s → Ev (fun m => spec_l20Path.l0 m P N c.length s w c S T) r := by
  have hN1 : N + 1 ≤ 1048576 := Nat.le_trans (Nat.succ_le_succ hN) (by decide)
  have jx : ∀ s : Nat, s ≤ N + 1 → Stay P T N s → (s = 0 ∨ ¬ Clear P T (s - 1)) → Ev (fun m => spec_l20Path.j1 m P N c.length s w c S T) r := fun s h1 h2 h3 => by
    apply Ev.succ
    simp only [spec_l20Path.j1]
    exact hNx s h1 h2 h3
  induction s with
  | zero =>
    intro h1 h2
    apply Ev.succ
    simp only [spec_l20Path.l0]
    exact Ev.neg (by omega) (jx 0 h1 h2 (.inl rfl))
  | succ s ih =>
    intro h1 h2
    have hw1 : wrap64 (((s + 1 : Nat) : Int) - 1) = (s : Int) := by rw [wrap64_id (by omega) (by omega)]; omega
    apply Ev.succ
    simp only [spec_l20Path.l0, hw1]
    refine Ev.pos (by omega) (Ev.bnd (free_ev P (N + 1) hP hN1 hPn s h1 T T) ?_)
    by_cases hm : Clear P T s
    · refine Ev.pos (by simpa using may_stay.2 hm) (ih (Nat.le_of_succ_le h1) (fun j h3 h4 => ?_))
      by_cases e1 : j = s
      · rw [e1]; exact hm
      · exact h2 j (Nat.lt_of_le_of_ne h3 (Ne.symm e1)) h4
    · refine Ev.neg (fun h => hm (may_stay.1 (by simpa using h))) (jx (s + 1) h1 h2 (.inr hm))
/-- The reference's path is the plan. -/
theorem path_spec (hw : Cl w c) (hP : Len P (N + 1)) (hN : N ≤ 1000) (hPn : P.length ≤ 1048576) (hS : Fr c S) (hT : Fr c T) : Ev (fun m => spec_l20Path.f m w c S T P N) ((planI w c P S T N).getD [], (planI w c P S T N).isSome) := by
  have hwN : wrap64 ((N : Int) + 1) = ((N + 1 : Nat) : Int) := succ_w (by omega)
  simp only [spec_l20Path.f, hwN]
  refine path_l0 hw hP hN hPn _ (fun s h1 h2 h3 => ?_) (N + 1) (Nat.le_refl _) (fun j h1 h2 => absurd h2 (Nat.not_le_of_lt h1))
  have hl := path_l1 hw hP hN hPn hS hT (N + 1 - s) s (by omega)
  refine Ev.eq hl ?_
  rw [plan_both hT N]
  unfold planS
  have hmay : May P 0 S S ↔ ¬ ∃ p ∈ P, PA p 0 = S := by
    rw [may_stay]
    exact ⟨fun h ⟨p, hp, e1⟩ => h p hp e1, fun h p hp e1 => h ⟨p, hp, e1⟩⟩
  by_cases hx : ∃ p ∈ P, PA p 0 = S
  · rw [if_pos hx]
    have : ((List.range (N + 1)).drop s).find? (fun e => decide (reach w c P T e 0 S ∧ May P 0 S S)) = none := by
      rw [List.find?_eq_none]
      intro e _
      simp only [decide_eq_true_eq]
      exact fun h => (hmay.1 h.2) hx
    rw [this]
    rfl
  · rw [if_neg hx]
    have hcg : (List.range (N + 1)).find? (fun e => decide (Stay P T N e ∧ reach w c P T e 0 S)) = ((List.range (N + 1)).drop s).find? (fun e => decide (reach w c P T e 0 S ∧ May P 0 S S)) := by
      conv => lhs; rw [← List.take_append_drop s (List.range (N + 1))]
      rw [List.find?_append]
      have h4 : ((List.range (N + 1)).take s).find? (fun e => decide (Stay P T N e ∧ reach w c P T e 0 S)) = none := by
        rw [List.find?_eq_none]
        intro e he
        simp only [decide_eq_true_eq]
        intro h
        rcases h3 with h3 | h3
        · rw [h3] at he
          simp at he
        · have hes : e < s := by
            obtain ⟨i, hi, h5⟩ := List.mem_iff_getElem.1 he
            simp at hi h5
            omega
          exact h3 (h.1 (s - 1) (by omega) (by omega))
      rw [h4, Option.none_or]
      refine find_congr _ _ _ (fun e he => ?_)
      have hes : s ≤ e := by
        obtain ⟨i, hi, h5⟩ := List.mem_iff_getElem.1 he
        simp at hi h5
        omega
      rw [decide_eq_decide]
      exact ⟨fun h => ⟨h.2, hmay.2 hx⟩, fun h => ⟨fun j h5 h6 => h2 j (by omega) h6, h.1⟩⟩
    rw [hcg]
    cases ((List.range (N + 1)).drop s).find? (fun e => decide (reach w c P T e 0 S ∧ May P 0 S S)) with
    | none => rfl
    | some e => rfl
end
end Go.Proofs.Ytcldlljnaijmhaa.Pure
/-
Own text: a crowd's plan: the program and the reference tell the same paths; what each path is good for.
-/
namespace Go.Proofs.Ytcldlljnaijmhaa.Pure
open Go.RowKit Go.Proofs.YtcldlljnaijmhaaW.PrintWords Go.Proofs.YtcldlljnaijmhaaW.PrintLast Go.Proofs.Ytcldlljnaijmhaa.Pr Go.Proofs.Ytcldlljnaijmhaa.EvKit
open Classical

/-- A path of N ticks from S to T that meets none of P. -/
structure GoodP (w : Int) (c : List Int) (P : List (List Int)) (S T : Int) (N : Nat) (p : List Int) : Prop where
  len : p.length = N + 1
  from_ : PA p 0 = S
  to_ : PA p N = T
  go : ∀ k, k < N → PA p (k + 1) ∈ Gos w c (PA p k)
  free : ∀ k, k ≤ N → Fr c (PA p k)
  start : ∀ q ∈ P, ¬ PA q 0 = S
  may : ∀ k, k < N → May P (k + 1) (PA p k) (PA p (k + 1))
theorem PA_map (f : Nat → Int) {N k : Nat} (h : k < N) : PA ((List.range N).map f) k = f k := by
  unfold PA
  rw [List.getD_eq_getElem?_getD, List.getElem?_map, List.getElem?_range h]
  rfl
theorem plan_good {w : Int} {c : List Int} {P : List (List Int)} {S T : Int} {N : Nat} {p : List Int} (hS : Fr c S) (h : planI w c P S T N = some p) : GoodP w c P S T N p := by
  unfold planI at h
  split at h
  · cases h
  rename_i hno
  cases hf : (List.range (N + 1)).find? (fun a => decide (still w c P T a N 0 S)) with
  | none => rw [hf] at h; cases h
  | some a =>
    rw [hf] at h
    simp only [Option.map_some, Option.some.injEq] at h
    have hst := List.find?_some hf
    simp only [decide_eq_true_eq] at hst
    have step : ∀ k, k < N → still w c P T a (N - k) k (gst w c P S T (fun k x => still w c P T a (N - k) k x) k) →
        gst w c P S T (fun k x => still w c P T a (N - k) k x) (k + 1) ∈ Gos w c (gst w c P S T (fun k x => still w c P T a (N - k) k x) k) ∧ still w c P T a (N - (k + 1)) (k + 1) (gst w c P S T (fun k x => still w c P T a (N - k) k x) (k + 1)) ∧
        May P (k + 1) (gst w c P S T (fun k x => still w c P T a (N - k) k x) k) (gst w c P S T (fun k x => still w c P T a (N - k) k x) (k + 1)) := by
      intro k hk hs
      have e : N - k = (N - (k + 1)) + 1 := by omega
      rw [e] at hs
      simp only [still] at hs
      obtain ⟨_, _, y, h3, h4, h5⟩ := hs
      simp only [gst]
      generalize gst w c P S T (fun k x => still w c P T a (N - k) k x) k = x at h3 h5 ⊢
      cases hg : good w c P (fun k x => still w c P T a (N - k) k x) (k + 1) x with
      | none =>
        unfold good at hg
        have := List.find?_eq_none.1 hg y h3
        simp only [decide_eq_true_eq] at this
        exact absurd ⟨h4, h5⟩ this
      | some z =>
        unfold good at hg
        have h6 := List.find?_some hg
        simp only [decide_eq_true_eq] at h6
        exact ⟨List.mem_of_find?_eq_some hg, h6.1, h6.2⟩
    have all : ∀ k, k ≤ N → still w c P T a (N - k) k (gst w c P S T (fun k x => still w c P T a (N - k) k x) k) ∧ Fr c (gst w c P S T (fun k x => still w c P T a (N - k) k x) k) := by
      intro k
      induction k with
      | zero => intro _; exact ⟨hst, hS⟩
      | succ k ih =>
        intro hk
        obtain ⟨h1, h2, _⟩ := step k hk (ih (Nat.le_of_succ_le hk)).1
        exact ⟨h2, Gos_free h1⟩
    subst h
    have pa : ∀ k, k ≤ N → PA ((List.range (N + 1)).map (gst w c P S T fun k x => still w c P T a (N - k) k x)) k = gst w c P S T (fun k x => still w c P T a (N - k) k x) k := fun k hk => PA_map _ (Nat.lt_succ_of_le hk)
    refine ⟨by simp, ?_, ?_, fun k hk => ?_, fun k hk => ?_, fun q hq e => hno ⟨q, hq, e⟩, fun k hk => ?_⟩
    · rw [pa 0 (Nat.zero_le _)]
      rfl
    · rw [pa N (Nat.le_refl _)]
      have := (all N (Nat.le_refl _)).1
      rw [Nat.sub_self] at this
      exact this
    · rw [pa k (Nat.le_of_lt hk), pa (k + 1) hk]
      exact (step k hk (all k (Nat.le_of_lt hk)).1).1
    · rw [pa k hk]
      exact (all k hk).2
    · rw [pa k (Nat.le_of_lt hk), pa (k + 1) hk]
      exact (step k hk (all k (Nat.le_of_lt hk)).1).2.2
/-- The paths one behind the other. -/
noncomputable def crowdV (w : Int) (c : List Int) (N : Nat) : List S49 → List (List Int) → Option (List (List Int))
  | [], P => some P
  | t :: l, P => match planI w c P t.f0 t.f1 N with
    | none => none
    | some p => crowdV w c N l (P ++ [p])
/-- As Go tells it. -/
def tell (o : Option (List (List Int))) : List (List Int) × Bool := match o with
  | none => ([], false)
  | some P => (P, true)
theorem crowd_l0 {w : Int} {c : List Int} (hw : Cl w c) (N : Nat) (hN : N ≤ 20) (l : List S49) (hl5 : l.length ≤ 5) (hl : ∀ t ∈ l, Fr c t.f0 ∧ Fr c t.f1) (d : Nat) : ∀ (i : Nat) (P : List (List Int)), i + d = l.length → P.length = i → Len P (N + 1) →
    Ev (fun k => impl_PlanCrowd.l0 k N P l (l.length : Int) i w c) (tell (crowdV w c N (l.drop i) P)) ∧ Ev (fun k => spec_PlanCrowd.l0 k N P l (l.length : Int) i w c) (tell (crowdV w c N (l.drop i) P)) := by
  induction d with
  | zero =>
    intro i P hi hP hPl
    rw [List.drop_eq_nil_of_le (by omega)]
    refine ⟨Ev.succ ?_, Ev.succ ?_⟩
    · simp only [impl_PlanCrowd.l0]
      exact Ev.neg (by omega) (Ev.some rfl)
    · simp only [spec_PlanCrowd.l0]
      exact Ev.neg (by omega) (Ev.some rfl)
  | succ d ih =>
    intro i P hi hP hPl
    have hdr : l.drop i = l.getD i z49 :: l.drop (i + 1) := by
      rw [List.drop_eq_getElem_cons (show i < l.length by omega)]
      congr 1
      simp [List.getD_eq_getElem?_getD, List.getElem?_eq_getElem (show i < l.length by omega)]
    have e : rd_T49 l (i : Int) = l.getD i z49 := rfl
    have hft := hl _ (getD_mem l i z49 (show i < l.length by omega))
    rw [hdr]
    generalize l.getD i z49 = t at e hft
    have hsp := path_spec (P := P) (S := t.f0) (T := t.f1) (N := N) hw hPl (by omega) (by omega) hft.1 hft.2
    have him : impl_Cells_plan.f w c t.f0 t.f1 N P = some ((planI w c P t.f0 t.f1 N).getD [], (planI w c P t.f0 t.f1 N).isSome) := by
      unfold impl_Cells_plan.f
      rw [if_pos (show planOk w c t.f0 t.f1 N P from ⟨hw, hft.1, hft.2, by omega, by omega, by omega, by rw [Int.toNat_natCast]; exact hPl⟩), Int.toNat_natCast]
    simp only [crowdV]
    cases hp : planI w c P t.f0 t.f1 N with
    | none =>
      rw [hp] at hsp him
      refine ⟨Ev.succ ?_, Ev.succ ?_⟩
      · simp only [impl_PlanCrowd.l0, e]
        exact Ev.pos (by omega) (Ev.pos (by omega) (Ev.pos (by omega) (Ev.bnd0 him (Ev.neg (by simp) (Ev.some rfl)))))
      · simp only [spec_PlanCrowd.l0, e]
        exact Ev.pos (by omega) (Ev.pos (by omega) (Ev.pos (by omega) (Ev.bnd hsp (Ev.neg (by simp) (Ev.some rfl)))))
    | some p =>
      rw [hp] at hsp him
      have hg := plan_good hft.1 hp
      obtain ⟨a, b⟩ := ih (i + 1) (P ++ [p]) (by omega) (by simp [hP]) (fun q hq => (List.mem_append.1 hq).elim (hPl q) (fun h => by rw [List.mem_singleton.1 h]; exact hg.len))
      have hlen : P.length < 5864062014805 := by omega
      refine ⟨Ev.succ ?_, Ev.succ ?_⟩
      · simp only [impl_PlanCrowd.l0, e, succ_w (show i < 35184372088833 by omega)]
        exact Ev.pos (by omega) (Ev.pos (by omega) (Ev.pos (by omega) (Ev.bnd0 him (Ev.pos (by simp) (Ev.pos hlen a)))))
      · simp only [spec_PlanCrowd.l0, e, succ_w (show i < 35184372088833 by omega)]
        exact Ev.pos (by omega) (Ev.pos (by omega) (Ev.pos (by omega) (Ev.bnd hsp (Ev.pos (by simp) (Ev.pos hlen b)))))
theorem gt_free {w : Int} {c : List Int} {l : List S49} (h : Gt w c l) : ∀ t ∈ l, Fr c t.f0 ∧ Fr c t.f1 := by
  intro t ht
  obtain ⟨i, hi⟩ := List.getElem?_of_mem ht
  have hlt := (List.getElem?_eq_some_iff.1 hi).1
  have := (h.2.2 i (Nat.zero_le _) hlt).1
  unfold TR at this
  rw [List.getD_eq_getElem?_getD, hi] at this
  exact this
/-- What PlanCrowd comes to. -/
noncomputable def planV (w : Int) (c : List Int) (l : List S49) (ticks : Int) : Option (List (List Int)) := if Gt w c l ∧ 0 ≤ ticks ∧ ticks ≤ 20 then crowdV w c ticks.toNat l [] else none
theorem crowd_both (w : Int) (c : List Int) (l : List S49) (ticks : Int) (hn : c.length ≤ 35184372088832) : Ev (fun k => impl_PlanCrowd.f k w c l ticks) (tell (planV w c l ticks)) ∧ Ev (fun k => spec_PlanCrowd.f k w c l ticks) (tell (planV w c l ticks)) := by
  obtain ⟨a, b⟩ := goodTrips_both w c l hn
  have no : Ev (fun k => impl_PlanCrowd.j0 k l ticks true w c) (tell none) ∧ Ev (fun k => spec_PlanCrowd.j0 k l ticks true w c) (tell none) := by
    refine ⟨Ev.succ ?_, Ev.succ ?_⟩
    · simp only [impl_PlanCrowd.j0, if_true]; exact Ev.some rfl
    · simp only [spec_PlanCrowd.j0, if_true]; exact Ev.some rfl
  simp only [impl_PlanCrowd.f, spec_PlanCrowd.f]
  unfold planV
  by_cases hg : Gt w c l
  · by_cases h0 : ticks < 0
    · rw [if_neg (fun h => by have := h.2.1; omega)]
      exact ⟨Ev.bnd a (Ev.pos (by simpa using hg) (Ev.pos h0 no.1)), Ev.bnd b (Ev.pos (by simpa using hg) (Ev.pos h0 no.2))⟩
    · by_cases h1 : ticks > 20
      · rw [if_neg (fun h => by have := h.2.2; omega), decide_eq_true h1]
        exact ⟨Ev.bnd a (Ev.pos (by simpa using hg) (Ev.neg h0 no.1)), Ev.bnd b (Ev.pos (by simpa using hg) (Ev.neg h0 no.2))⟩
      · rw [if_pos ⟨hg, by omega, by omega⟩, decide_eq_false h1]
        obtain ⟨N, rfl⟩ : ∃ N : Nat, ticks = (N : Int) := ⟨ticks.toNat, by omega⟩
        rw [Int.toNat_natCast]
        obtain ⟨x, y⟩ := crowd_l0 hg.1 N (by omega) l hg.2.1 (gt_free hg) l.length 0 [] (by omega) rfl (fun p hp => by cases hp)
        refine ⟨Ev.bnd a (Ev.pos (by simpa using hg) (Ev.neg h0 (Ev.succ ?_))), Ev.bnd b (Ev.pos (by simpa using hg) (Ev.neg h0 (Ev.succ ?_)))⟩
        · simp only [impl_PlanCrowd.j0, Bool.false_eq_true, if_false]
          exact x
        · simp only [spec_PlanCrowd.j0, Bool.false_eq_true, if_false]
          exact y
  · rw [if_neg (fun h => hg h.1)]
    exact ⟨Ev.bnd a (Ev.neg (by simpa using hg) no.1), Ev.bnd b (Ev.neg (by simpa using hg) no.2)⟩
end Go.Proofs.Ytcldlljnaijmhaa.Pure
