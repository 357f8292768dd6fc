-- Joined and pruned by wip/tools/prune.py out of this session's own texts (Pr21, PureAlone)
import Derived.Test.YtcldlljnaijmhaaZjt6
-- Written by this session's own print (wip/tools/mkmp.py) out of the translation. Lean checks it.
namespace Go.Proofs.Ytcldlljnaijmhaa.Pr
open Go.RowKit Go.Proofs.YtcldlljnaijmhaaW.PrintWords Go.Proofs.YtcldlljnaijmhaaW.PrintLast Go.Proofs.YtcldlljnaijmhaaW.PrintMore
attribute [local go_sem] max2_int min2_int max_two min_two max_three min_three max_four min_four   -- for this text's walks alone
set_option linter.unusedVariables false
set_option linter.unusedSimpArgs false

set_option maxHeartbeats 8000000 in
set_option maxRecDepth 100000 in
theorem spec_JointTicks.calls (k : Nat) (a0_0 : Int) (A0_1 : Option Addr) (c0_1 : Nat) (l0_1 : List Int) (a1_0 : Int) (a1_1 : Int) (a2_0 : Int) (a2_1 : Int) (r : Int) (w : World) (hr0_1 : Kd.C (Kd.int .i64) w A0_1 l0_1.length l0_1) (hc0_1 : l0_1.length ≤ c0_1) (h : spec_JointTicks.f k a0_0 l0_1 a1_0 a1_1 a2_0 a2_1 = some r) :
   Calls Try.prog 34 #[.agg #[.int .i64 a0_0, .slice A0_1 l0_1.length c0_1], .agg #[.int .i64 a1_0, .int .i64 a1_1], .agg #[.int .i64 a2_0, .int .i64 a2_1]] w fun e w' => e = .returned (.int .i64 r) ∧ Below w.heap.size w w' := by
  have hu39 := Try.underlying39
  have hu49 := Try.underlying49
  have HR0_1 := Aside0.mk hr0_1
  have HC0_1 := Aside0.mk hc0_1
  clear hr0_1 hc0_1
  have HB := Aside0.mk (Below.refl w.heap.size w)
  have H : ((spec_GoodTrips.f k a0_0 l0_1 (([(⟨a1_0, a1_1⟩ : S49), (⟨a2_0, a2_1⟩ : S49)] : List (S49)))).bind fun t370 => (if t370 = true then (spec_JointTicks.j0 k (l0_1.length : Int) (decide ((l0_1.length : Int) > 36)) a0_0 l0_1 a1_0 a1_1 a2_0 a2_1) else (spec_JointTicks.j0 k (l0_1.length : Int) true a0_0 l0_1 a1_0 a1_1 a2_0 a2_1))) = some r := h
  clear h
  have HC4 := Aside0.mk H
  clear H
  go_enter Try.func34, Try.ntmps34
  go_upto_region 2 with (first | ((with_reducible refine gate_dst (N := 3) rfl ?_); refine box_event ?hg (N := 3) ?hd (cs := #[.int .i64 a0_0, .slice A0_1 l0_1.length c0_1]) (t := 39) ?hr ?_; (case hd => rfl); (case hg => rfl); (case hr => first | (go_simp; done) | (go_simp; rfl)); intro gb364 hg w5 hbox hb; have n0_ := Aside0.mk (below_step hb_ hb); have n1_ := Aside0.mk (hbox); have n2_ : Aside0 (w.heap.size ≤ gb364) := gz_; have n3_ : Aside0 (w.heap.size ≤ gb364) := gz_; clear HB; have HB := n0_; have BK364 := n1_; have GW364 := n2_; have GE364 := n3_; clear n0_ n1_ n2_ n3_; clear hb hbox hg) | ((with_reducible refine gate_dst (N := 4) rfl ?_); refine box_event ?hg (N := 4) ?hd (cs := #[.int .i64 a1_0, .int .i64 a1_1]) (t := 49) ?hr ?_; (case hd => rfl); (case hg => rfl); (case hr => first | (go_simp; done) | (go_simp; rfl)); intro gb365 hg w6 hbox hb; have n0_ := bb_ BK364 hb; have n1_ := Aside0.mk (below_step hb_ hb); have n2_ := Aside0.mk (hbox); have n3_ : Aside0 (w.heap.size ≤ gb365) := gz_; have n4_ : Aside0 (w.heap.size ≤ gb365) := gz_; have n5_ := Aside0.mk ((by rw [hg]; exact Nat.ne_of_lt (blk_lt (g := gb364) (o := .cells #[.int .i64 a0_0, .slice A0_1 l0_1.length c0_1] 39 (0, 0)) (bk_ BK364.out)) : gb364 ≠ gb365)); have n6_ := Aside0.mk ((by rw [hg]; exact Nat.ne_of_gt (blk_lt (g := gb364) (o := .cells #[.int .i64 a0_0, .slice A0_1 l0_1.length c0_1] 39 (0, 0)) (bk_ BK364.out)) : gb365 ≠ gb364)); clear BK364; clear HB; have BK364 := n0_; have HB := n1_; have BK365 := n2_; have GW365 := n3_; have GE365 := n4_; have NB364_365 := n5_; have NB365_364 := n6_; clear n0_ n1_ n2_ n3_ n4_ n5_ n6_; clear hb hbox hg) | ((with_reducible refine gate_dst (N := 5) rfl ?_); refine box_event ?hg (N := 5) ?hd (cs := #[.int .i64 a2_0, .int .i64 a2_1]) (t := 49) ?hr ?_; (case hd => rfl); (case hg => rfl); (case hr => first | (go_simp; done) | (go_simp; rfl)); intro gb366 hg w7 hbox hb; have n0_ := bb_ BK364 hb; have n1_ := bb_ BK365 hb; have n2_ := Aside0.mk (below_step hb_ hb); have n3_ := Aside0.mk (hbox); have n4_ : Aside0 (w.heap.size ≤ gb366) := gz_; have n5_ : Aside0 (w.heap.size ≤ gb366) := gz_; have n6_ := Aside0.mk ((by rw [hg]; exact Nat.ne_of_lt (blk_lt (g := gb364) (o := .cells #[.int .i64 a0_0, .slice A0_1 l0_1.length c0_1] 39 (0, 0)) (bk_ BK364.out)) : gb364 ≠ gb366)); have n7_ := Aside0.mk ((by rw [hg]; exact Nat.ne_of_gt (blk_lt (g := gb364) (o := .cells #[.int .i64 a0_0, .slice A0_1 l0_1.length c0_1] 39 (0, 0)) (bk_ BK364.out)) : gb366 ≠ gb364)); have n8_ := Aside0.mk ((by rw [hg]; exact Nat.ne_of_lt (blk_lt (g := gb365) (o := .cells #[.int .i64 a1_0, .int .i64 a1_1] 49 (0, 0)) (bk_ BK365.out)) : gb365 ≠ gb366)); have n9_ := Aside0.mk ((by rw [hg]; exact Nat.ne_of_gt (blk_lt (g := gb365) (o := .cells #[.int .i64 a1_0, .int .i64 a1_1] 49 (0, 0)) (bk_ BK365.out)) : gb366 ≠ gb365)); clear BK364; clear BK365; clear HB; have BK364 := n0_; have BK365 := n1_; have HB := n2_; have BK366 := n3_; have GW366 := n4_; have GE366 := n5_; have NB364_366 := n6_; have NB366_364 := n7_; have NB365_366 := n8_; have NB366_365 := n9_; clear n0_ n1_ n2_ n3_ n4_ n5_ n6_ n7_ n8_ n9_; clear hb hbox hg; have hnb8 := NB364_365.out; have hnc8 := NB365_364.out; have hnb9 := NB364_366.out; have hnc9 := NB366_364.out; have hcz10_0 : w7.cell? ⟨gb364, 0, none⟩ = some (.int .i64 a0_0) := (blk_cell BK364.out 0).trans rfl; have hcz10_1 : w7.cell? ⟨gb364, 1, none⟩ = some (.slice A0_1 l0_1.length c0_1) := (blk_cell BK364.out 1).trans rfl; have hfz10_0 := blk_frozen BK364.out 0; have hfz10_1 := blk_frozen BK364.out 1))
  (try simp only [Act.put, List.setIfInBounds_toArray, List.set_cons_zero, List.set_cons_succ])
  go_cut [31] (fun v31 wc => ∃ (kq : Nat) (x31_3 : Bool), v31 = .bool x31_3 ∧ Aside0 (spec_JointTicks.j0 kq (l0_1.length : Int) x31_3 a0_0 l0_1 a1_0 a1_1 a2_0 a2_1 = some r) ∧ Aside0 (kq ≤ k) ∧ Aside0 (wc.heap[gb364]? = some (.cells #[.int .i64 a0_0, (.slice A0_1 l0_1.length c0_1)] 39 (0, 0))) ∧ Aside0 (wc.heap[gb365]? = some (.cells #[.int .i64 a1_0, .int .i64 a1_1] 49 (0, 0))) ∧ Aside0 (wc.heap[gb366]? = some (.cells #[.int .i64 a2_0, .int .i64 a2_1] 49 (0, 0))) ∧ Aside0 (Below w.heap.size w wc))
  case first =>
   have H := HC4.out
   clear HC4
   obtain ⟨y367, hy367⟩ : ∃ y_ : List (S49), y_ = (([(⟨a1_0, a1_1⟩ : S49), (⟨a2_0, a2_1⟩ : S49)] : List (S49))) := ⟨_, rfl⟩
   replace H : ((spec_GoodTrips.f k a0_0 l0_1 y367).bind fun t370 => (if t370 = true then (spec_JointTicks.j0 k (l0_1.length : Int) (decide ((l0_1.length : Int) > 36)) a0_0 l0_1 a1_0 a1_1 a2_0 a2_1) else (spec_JointTicks.j0 k (l0_1.length : Int) true a0_0 l0_1 a1_0 a1_1 a2_0 a2_1))) = some r := by first | (rw [hy367]; with_reducible exact H) | (have H2_ := (Option.bind_some _ _).symm.trans H; rw [hy367]; with_reducible exact H2_) | (have H2_ := (Option.bind_some _ _).symm.trans H; with_reducible exact H2_) | with_reducible exact H | (rw [hy367]; exact H) | exact H
   have Ny367 := Aside0.mk hy367
   clear hy367
   replace H := Option.bind_eq_some_iff.mp H
   obtain ⟨t370, A110, H⟩ := H
   replace H : (if t370 = true then (spec_JointTicks.j0 k (l0_1.length : Int) (decide ((l0_1.length : Int) > 36)) a0_0 l0_1 a1_0 a1_1 a2_0 a2_1) else (spec_JointTicks.j0 k (l0_1.length : Int) true a0_0 l0_1 a1_0 a1_1 a2_0 a2_1)) = some r := H
   have A11 := Aside0.mk A110
   clear A110
   by_cases c12 : t370 = true
   ·subst c12
    rw [if_pos rfl] at H
    have H' := Aside0.mk H
    clear H
    have hnb13 := NB364_365.out
    have hnc13 := NB365_364.out
    have hnb14 := NB364_366.out
    have hnc14 := NB366_364.out
    have hcz15_0 : w7.cell? ⟨gb364, 0, none⟩ = some (.int .i64 a0_0) := (blk_cell BK364.out 0).trans rfl
    have hcz15_1 : w7.cell? ⟨gb364, 1, none⟩ = some (.slice A0_1 l0_1.length c0_1) := (blk_cell BK364.out 1).trans rfl
    have hfz15_0 := blk_frozen BK364.out 0
    have hfz15_1 := blk_frozen BK364.out 1
    have hnb16 := NB365_366.out
    have hnc16 := NB366_365.out
    have hcz17_0 : w7.cell? ⟨gb365, 0, none⟩ = some (.int .i64 a1_0) := (blk_cell BK365.out 0).trans rfl
    have hcz17_1 : w7.cell? ⟨gb365, 1, none⟩ = some (.int .i64 a1_1) := (blk_cell BK365.out 1).trans rfl
    have hfz17_0 := blk_frozen BK365.out 0
    have hfz17_1 := blk_frozen BK365.out 1
    have hcz18_0 : w7.cell? ⟨gb366, 0, none⟩ = some (.int .i64 a2_0) := (blk_cell BK366.out 0).trans rfl
    have hcz18_1 : w7.cell? ⟨gb366, 1, none⟩ = some (.int .i64 a2_1) := (blk_cell BK366.out 1).trans rfl
    have hfz18_0 := blk_frozen BK366.out 0
    have hfz18_1 := blk_frozen BK366.out 1
    go_wp2_with (first | ((with_reducible refine gate_dst (N := 25) rfl ?_); refine Kd.R_lit k49 _ 49 ?hg (N := 25) ?hd (xs := ([(⟨a1_0, a1_1⟩ : S49), (⟨a2_0, a2_1⟩ : S49)] : List (S49))) (inner := [.int .i64 a1_0, .int .i64 a1_1, .int .i64 a2_0, .int .i64 a2_1]) (ok := fun _ => True) (okp := fun _ => True) ?hr ?hp (fun _ hk => hk) trivial (Below.refl _ _) (Nat.le_refl _) (by simp) ?_; (case hd => rfl); (case hg => rfl); (case hr => first | (go_simp; done) | (go_simp; rfl)); (case hp => exact (Reps.c2 (show Kd.M k49 _ _ _ (⟨a1_0, a1_1⟩ : S49) [.int .i64 a1_0, .int .i64 a1_1] from (k49_mkM _ _ _ (⟨a1_0, a1_1⟩ : S49) )) (Reps.c2 (show Kd.M k49 _ _ _ (⟨a2_0, a2_1⟩ : S49) [.int .i64 a2_0, .int .i64 a2_1] from (k49_mkM _ _ _ (⟨a2_0, a2_1⟩ : S49) )) (Reps.none _ _)))); intro v368 w19 ho20 hb hg_ hnew_; clear hg_ hnew_; (first | rw [← Ny367.out] at ho20 | (simp only [Int.reduceToNat] at ho20; rw [← Ny367.out] at ho20)); have n0_ := Aside0.mk (Kd.R_lower (Kd.R_newB (Kd.R_newB ho20 (g := gb365) (o := .cells #[.int .i64 a1_0, .int .i64 a1_1] 49 (0, 0)) (bk_ BK365.out)) (g := gb366) (o := .cells #[.int .i64 a2_0, .int .i64 a2_1] 49 (0, 0)) (bk_ BK366.out)) (below_size hb_)); have n1_ := bb_ BK364 hb; have n2_ := bb_ BK365 hb; have n3_ := bb_ BK366 hb; have n4_ := Aside0.mk (below_step hb_ hb); clear BK364; clear BK365; clear BK366; clear HB; have HO369 := n0_; have BK364 := n1_; have BK365 := n2_; have BK366 := n3_; have HB := n4_; clear n0_ n1_ n2_ n3_ n4_; clear hb ho20; obtain ⟨Ao21, co21, eo21⟩ := Kd.R_slice HO369.out; subst eo21) | ((with_reducible refine gate_callee (f := 25) rfl ?_); refine goesL_ (some 26) rfl rfl Try.func25 (by kernel_rfl) rfl #[.agg #[.int .i64 a0_0, .slice A0_1 l0_1.length c0_1], .slice Ao21 y367.length co21] rfl ls_ ?_; (with_reducible refine (spec_GoodTrips.calls k a0_0 _ _ l0_1 _ _ y367 true _ ?side1 ?side2 ?side3 ?side4 A11.out).mono ?_); (case side1 => exact cb_ HR0_1.out); (case side2 => exact HC0_1.out); (case side3 => exact ca_ (Kd.R_reads' HO369.out).2.2); (case side4 => exact (Kd.R_reads' HO369.out).2.1); rintro e w22 ⟨rfl, hb⟩; refine ⟨_, rfl, ?_⟩; have n0_ := Aside0.mk (Kd.R_below (ra_ HO369.out) hb); have n1_ := bb_ BK364 hb; have n2_ := bb_ BK365 hb; have n3_ := bb_ BK366 hb; have n4_ := Aside0.mk (below_step hb_ hb); clear HO369; clear BK364; clear BK365; clear BK366; clear HB; have HO369 := n0_; have BK364 := n1_; have BK365 := n2_; have BK366 := n3_; have HB := n4_; clear n0_ n1_ n2_ n3_ n4_; (try clear hb); (try clear hb2); (try clear hk); (try clear hi)))
    go_meet
    case rel => exact ⟨_, (decide ((l0_1.length : Int) > 36)), es_, H', ⟨by first | omega | exact Nat.le_refl _⟩, ⟨bk_ BK364.out⟩, ⟨bk_ BK365.out⟩, ⟨bk_ BK366.out⟩, ⟨hb_⟩⟩
   ·replace c12 := Bool.eq_false_iff.mpr c12
    subst c12
    rw [if_neg (show ¬ (false = true) by decide)] at H
    have H' := Aside0.mk H
    clear H
    have hnb23 := NB364_365.out
    have hnc23 := NB365_364.out
    have hnb24 := NB364_366.out
    have hnc24 := NB366_364.out
    have hcz25_0 : w7.cell? ⟨gb364, 0, none⟩ = some (.int .i64 a0_0) := (blk_cell BK364.out 0).trans rfl
    have hcz25_1 : w7.cell? ⟨gb364, 1, none⟩ = some (.slice A0_1 l0_1.length c0_1) := (blk_cell BK364.out 1).trans rfl
    have hfz25_0 := blk_frozen BK364.out 0
    have hfz25_1 := blk_frozen BK364.out 1
    have hnb26 := NB365_366.out
    have hnc26 := NB366_365.out
    have hcz27_0 : w7.cell? ⟨gb365, 0, none⟩ = some (.int .i64 a1_0) := (blk_cell BK365.out 0).trans rfl
    have hcz27_1 : w7.cell? ⟨gb365, 1, none⟩ = some (.int .i64 a1_1) := (blk_cell BK365.out 1).trans rfl
    have hfz27_0 := blk_frozen BK365.out 0
    have hfz27_1 := blk_frozen BK365.out 1
    have hcz28_0 : w7.cell? ⟨gb366, 0, none⟩ = some (.int .i64 a2_0) := (blk_cell BK366.out 0).trans rfl
    have hcz28_1 : w7.cell? ⟨gb366, 1, none⟩ = some (.int .i64 a2_1) := (blk_cell BK366.out 1).trans rfl
    have hfz28_0 := blk_frozen BK366.out 0
    have hfz28_1 := blk_frozen BK366.out 1
    go_wp2_with (first | ((with_reducible refine gate_dst (N := 25) rfl ?_); refine Kd.R_lit k49 _ 49 ?hg (N := 25) ?hd (xs := ([(⟨a1_0, a1_1⟩ : S49), (⟨a2_0, a2_1⟩ : S49)] : List (S49))) (inner := [.int .i64 a1_0, .int .i64 a1_1, .int .i64 a2_0, .int .i64 a2_1]) (ok := fun _ => True) (okp := fun _ => True) ?hr ?hp (fun _ hk => hk) trivial (Below.refl _ _) (Nat.le_refl _) (by simp) ?_; (case hd => rfl); (case hg => rfl); (case hr => first | (go_simp; done) | (go_simp; rfl)); (case hp => exact (Reps.c2 (show Kd.M k49 _ _ _ (⟨a1_0, a1_1⟩ : S49) [.int .i64 a1_0, .int .i64 a1_1] from (k49_mkM _ _ _ (⟨a1_0, a1_1⟩ : S49) )) (Reps.c2 (show Kd.M k49 _ _ _ (⟨a2_0, a2_1⟩ : S49) [.int .i64 a2_0, .int .i64 a2_1] from (k49_mkM _ _ _ (⟨a2_0, a2_1⟩ : S49) )) (Reps.none _ _)))); intro v368 w29 ho30 hb hg_ hnew_; clear hg_ hnew_; (first | rw [← Ny367.out] at ho30 | (simp only [Int.reduceToNat] at ho30; rw [← Ny367.out] at ho30)); have n0_ := Aside0.mk (Kd.R_lower (Kd.R_newB (Kd.R_newB ho30 (g := gb365) (o := .cells #[.int .i64 a1_0, .int .i64 a1_1] 49 (0, 0)) (bk_ BK365.out)) (g := gb366) (o := .cells #[.int .i64 a2_0, .int .i64 a2_1] 49 (0, 0)) (bk_ BK366.out)) (below_size hb_)); have n1_ := bb_ BK364 hb; have n2_ := bb_ BK365 hb; have n3_ := bb_ BK366 hb; have n4_ := Aside0.mk (below_step hb_ hb); clear BK364; clear BK365; clear BK366; clear HB; have HO369 := n0_; have BK364 := n1_; have BK365 := n2_; have BK366 := n3_; have HB := n4_; clear n0_ n1_ n2_ n3_ n4_; clear hb ho30; obtain ⟨Ao31, co31, eo31⟩ := Kd.R_slice HO369.out; subst eo31) | ((with_reducible refine gate_callee (f := 25) rfl ?_); refine goesL_ (some 26) rfl rfl Try.func25 (by kernel_rfl) rfl #[.agg #[.int .i64 a0_0, .slice A0_1 l0_1.length c0_1], .slice Ao31 y367.length co31] rfl ls_ ?_; (with_reducible refine (spec_GoodTrips.calls k a0_0 _ _ l0_1 _ _ y367 false _ ?side1 ?side2 ?side3 ?side4 A11.out).mono ?_); (case side1 => exact cb_ HR0_1.out); (case side2 => exact HC0_1.out); (case side3 => exact ca_ (Kd.R_reads' HO369.out).2.2); (case side4 => exact (Kd.R_reads' HO369.out).2.1); rintro e w32 ⟨rfl, hb⟩; refine ⟨_, rfl, ?_⟩; have n0_ := Aside0.mk (Kd.R_below (ra_ HO369.out) hb); have n1_ := bb_ BK364 hb; have n2_ := bb_ BK365 hb; have n3_ := bb_ BK366 hb; have n4_ := Aside0.mk (below_step hb_ hb); clear HO369; clear BK364; clear BK365; clear BK366; clear HB; have HO369 := n0_; have BK364 := n1_; have BK365 := n2_; have BK366 := n3_; have HB := n4_; clear n0_ n1_ n2_ n3_ n4_; (try clear hb); (try clear hb2); (try clear hk); (try clear hi)))
    go_meet
    case rel => exact ⟨_, (true), es_, H', ⟨by first | omega | exact Nat.le_refl _⟩, ⟨bk_ BK364.out⟩, ⟨bk_ BK365.out⟩, ⟨bk_ BK366.out⟩, ⟨hb_⟩⟩
  case rest =>
   clear HC4
   try clear c1
   try clear c2
   try clear p2
   try clear c3
   try clear c8
   try clear c9
   try clear c12
   try clear c13
   try clear c14
   try clear c16
   try clear c23
   try clear c24
   try clear c25
   try clear c26
   try clear hcz10_0
   try clear hcz10_1
   try clear hcz15_0
   try clear hcz15_1
   try clear hcz17_0
   try clear hcz17_1
   try clear hcz18_0
   try clear hcz18_1
   try clear hcz25_0
   try clear hcz25_1
   try clear hcz27_0
   try clear hcz27_1
   try clear hcz28_0
   try clear hcz28_1
   try clear hfz10_0
   try clear hfz10_1
   try clear hfz15_0
   try clear hfz15_1
   try clear hfz17_0
   try clear hfz17_1
   try clear hfz18_0
   try clear hfz18_1
   try clear hfz25_0
   try clear hfz25_1
   try clear hfz27_0
   try clear hfz27_1
   try clear hfz28_0
   try clear hfz28_1
   obtain ⟨kq, x31_3, rfl, HA, HJ3, BK364, BK365, BK366, HB⟩ := hcut
   cases kq with
   | zero => exact absurd HA.out (by simp [spec_JointTicks.j0])
   | succ kj3 =>
    have H := HA.out
    clear HA
    simp only [spec_JointTicks.j0] at H
    by_cases c33 : x31_3 = true
    ·subst c33
     rw [if_pos rfl] at H
     obtain rfl := Option.some.inj H
     go_wp2
     go_ret
     exact ⟨er_, hb_⟩
    ·replace c33 := Bool.eq_false_iff.mpr c33
     subst c33
     rw [if_neg (show ¬ (false = true) by decide)] at H
     obtain ⟨ji34, hji34⟩ : ∃ j_ : Int, (wrap64 ((l0_1.length : Int) * (l0_1.length : Int))) = j_ := ⟨_, rfl⟩
     replace H : (if 0 ≤ (ji34) then (if (ji34 : Int).toNat ≤ 35184372088832 then ((some (List.replicate (ji34 : Int).toNat 0 : List Int)).bind fun y371 => (spec_JointTicks.l0 kj3 (l0_1.length : Int) y371 (y371.length : Int) 0 a0_0 l0_1 a1_0 a1_1 a2_0 a2_1)) else (none)) else (none)) = some r := by first | (rw [hji34] at H; exact H) | (simp only [hji34] at H ⊢; exact H)
     have hji34w : (IntKind.i64.wrap ((l0_1.length : Int) * (l0_1.length : Int))) = ji34 := (i64_w _).trans hji34
     by_cases c35 : 0 ≤ (ji34)
     ·rw [if_pos c35] at H
      have c35b0 := eq_true c35
      have c35b1 : decide (0 ≤ (ji34)) = true := decide_eq_true c35
      clear c35
      by_cases c36 : (ji34 : Int).toNat ≤ 35184372088832
      ·rw [if_pos c36] at H
       have c36b0 := eq_true c36
       have c36b1 : decide ((ji34 : Int).toNat ≤ 35184372088832) = true := decide_eq_true c36
       clear c36
       obtain ⟨y371, hy371⟩ : ∃ y_ : List Int, y_ = (List.replicate (ji34 : Int).toNat 0) := ⟨_, rfl⟩
       replace H : (spec_JointTicks.l0 kj3 (l0_1.length : Int) y371 (y371.length : Int) 0 a0_0 l0_1 a1_0 a1_1 a2_0 a2_1) = some r := by first | (rw [hy371]; with_reducible exact H) | (have H2_ := (Option.bind_some _ _).symm.trans H; rw [hy371]; with_reducible exact H2_) | (have H2_ := (Option.bind_some _ _).symm.trans H; with_reducible exact H2_) | with_reducible exact H | (rw [hy371]; exact H) | exact H
       have Ny371 := Aside0.mk hy371
       clear hy371
       have H' := Aside0.mk H
       clear H
       go_wp2_with (first | ((with_reducible refine gate_dst (N := 35) rfl ?_); refine Kd.R_make (Kd.int .i64) _ 3 rfl (N := 35) rfl 22 _ _ rfl ji34 rfl rfl Try.underlying22 (.int .i64 0) 8 info3 rfl (by decide) (by omega) 0 (ok := fun _ => True) (okp := fun _ => True) rfl (fun _ hk => hk) trivial (of_decide_eq_true as_) (Nat.le_trans (Nat.mul_le_mul_right _ (of_decide_eq_true as_ : ji34.toNat ≤ 35184372088832)) (by omega)) (Below.refl _ _) (Nat.le_refl _) ?_; intro v372 w37 ho38 hb hg_ hnew_; clear hg_ hnew_; (first | rw [← Ny371.out] at ho38 | (simp only [Int.reduceToNat] at ho38; rw [← Ny371.out] at ho38)); have n0_ := Aside0.mk (Kd.R_lower ho38 (below_size hb_)); have n1_ := bb_ BK364 hb; have n2_ := bb_ BK365 hb; have n3_ := bb_ BK366 hb; have n4_ := Aside0.mk (below_step hb_ hb); clear BK364; clear BK365; clear BK366; clear HB; have HO373 := n0_; have BK364 := n1_; have BK365 := n2_; have BK366 := n3_; have HB := n4_; clear n0_ n1_ n2_ n3_ n4_; clear hb ho38; obtain ⟨Ao39, co39, eo39⟩ := Kd.R_slice HO373.out; subst eo39))
       go_loopg [38] kj3 (fun kq v38 w' => ∃ (x8_2 : List Int) (x38_2 : Int), v38 = .int .i64 x38_2 ∧ Aside0 (spec_JointTicks.l0 kq (l0_1.length : Int) x8_2 (y371.length : Int) x38_2 a0_0 l0_1 a1_0 a1_1 a2_0 a2_1 = some r) ∧ Aside0 (kq ≤ kj3) ∧ Aside0 (Kd.R (Kd.int .i64) 3 w' w.heap.size (fun _ => True) (.slice Ao39 y371.length co39) x8_2) ∧ Aside0 (w'.heap[gb364]? = some (.cells #[.int .i64 a0_0, (.slice A0_1 l0_1.length c0_1)] 39 (0, 0))) ∧ Aside0 (w'.heap[gb365]? = some (.cells #[.int .i64 a1_0, .int .i64 a1_1] 49 (0, 0))) ∧ Aside0 (w'.heap[gb366]? = some (.cells #[.int .i64 a2_0, .int .i64 a2_1] 49 (0, 0))) ∧ Aside0 (Below w.heap.size w w'))
       case atStart => exact ⟨(y371), (0), es_, H', ⟨Nat.le_refl _⟩, ⟨ra_ HO373.out⟩, ⟨bk_ BK364.out⟩, ⟨bk_ BK365.out⟩, ⟨bk_ BK366.out⟩, ⟨hb_⟩⟩
       case round =>
        clear H'
        try clear c1
        try clear c2
        try clear p2
        try clear c3
        try clear p6
        try clear c8
        try clear c9
        try clear c12
        try clear c13
        try clear c14
        try clear c16
        try clear c23
        try clear c24
        try clear c25
        try clear c26
        try clear c33
        try clear c34
        try clear c35
        try clear c35b0
        try clear c35b1
        try clear c36
        try clear c36b0
        try clear c36b1
        try clear hcz10_0
        try clear hcz10_1
        try clear hcz15_0
        try clear hcz15_1
        try clear hcz17_0
        try clear hcz17_1
        try clear hcz18_0
        try clear hcz18_1
        try clear hcz25_0
        try clear hcz25_1
        try clear hcz27_0
        try clear hcz27_1
        try clear hcz28_0
        try clear hcz28_1
        try clear hfz10_0
        try clear hfz10_1
        try clear hfz15_0
        try clear hfz15_1
        try clear hfz17_0
        try clear hfz17_1
        try clear hfz18_0
        try clear hfz18_1
        try clear hfz25_0
        try clear hfz25_1
        try clear hfz27_0
        try clear hfz27_1
        try clear hfz28_0
        try clear hfz28_1
        try clear p2
        obtain ⟨x8_2, x38_2, rfl, HA, HK2, HO_8, BK364, BK365, BK366, HB⟩ := hrel
        have hl8_2 := (Kd.R_reads' HO_8.out).1
        rw [hl8_2] at HO_8
        (try simp only [hl8_2])
        (try simp only [hl8_2] at BK364)
        (try simp only [hl8_2] at BK365)
        (try simp only [hl8_2] at BK366)
        cases gk with
        | zero => exact absurd HA.out (by simp [spec_JointTicks.l0])
        | succ k2 =>
         have H := HA.out
         clear HA
         simp only [spec_JointTicks.l0] at H
         by_cases c40 : x38_2 < (y371.length : Int)
         ·rw [if_pos c40] at H
          have c40b0 : decide (x38_2 < (y371.length : Int)) = true := decide_eq_true c40
          (try simp only [hl8_2] at c40b0)
          clear c40
          by_cases c41 : 0 ≤ x38_2
          ·rw [if_pos c41] at H
           have c41b0 : decide (0 ≤ x38_2) = true := decide_eq_true c41
           clear c41
           by_cases c42 : x38_2 < (x8_2.length : Int)
           ·rw [if_pos c42] at H
            have c42b0 : decide (x38_2 < (x8_2.length : Int)) = true := decide_eq_true c42
            (try simp only [hl8_2] at c42b0)
            clear c42
            obtain ⟨y374, hy374⟩ : ∃ y_ : List Int, y_ = (x8_2.set (x38_2 : Int).toNat (-1)) := ⟨_, rfl⟩
            replace H : (spec_JointTicks.l0 k2 (l0_1.length : Int) y374 (y371.length : Int) (wrap64 (x38_2 + 1)) a0_0 l0_1 a1_0 a1_1 a2_0 a2_1) = some r := by first | (rw [hy374]; with_reducible exact H) | (have H2_ := (Option.bind_some _ _).symm.trans H; rw [hy374]; with_reducible exact H2_) | (have H2_ := (Option.bind_some _ _).symm.trans H; with_reducible exact H2_) | with_reducible exact H | (rw [hy374]; exact H) | exact H
            have Ny374 := Aside0.mk hy374
            clear hy374
            have H' := Aside0.mk H
            clear H
            have p43 : 0 ≤ (x38_2 : Int) := of_decide_eq_true as_
            have q43 : (x38_2 : Int) < ((x8_2.length : Int) : Int) := of_decide_eq_true as_
            obtain ⟨go43, co43, eo43, gb43, gl43, cl43, HG43⟩ := Kd.R_form HO_8.out (by omega)
            (first | cases eo43 | (injection eo43 with ea_ en_ ec_; (first | subst ea_ | (injection ea_ with ea_; subst ea_)); subst ec_; clear en_))
            have GB43 := Aside0.mk gb43
            have GG43 := Aside0.mk HG43
            clear gb43 gl43 HG43
            obtain ⟨hx43_0, hf43_0⟩ := Kd.R_celln 0 HO_8.out (x38_2 : Int) p43 q43
            replace p43 := eq_true p43
            replace q43 := eq_true q43
            have HP44 := Kd.R_putg HO_8.out (x38_2 : Int) (-1)
            go_wp2_with (first | ((with_reducible refine gate_store (t := 3) (p := 43) rfl ?_); refine store_event (t := 3) (p := 43) (v := ?vo_w45) (w1 := (wr.setCell ⟨go43, (x38_2 : Int).toNat, none⟩ (.int .i64 (-1)))) ?hg ?ho ?hn ?hr ?_; (case ho => rfl); (case hg => rfl); (case hn => rfl); (case hr => first | (go_simp; done) | (go_simp; rfl)); intro w45 hw; have hg : wr.grownBy w45 (some go43) := (by rw [hw]; exact HP44.2); have hp_ : Kd.R (Kd.int .i64) 3 w45 w.heap.size (fun _ => True) (.slice (some ⟨go43, 0, none⟩) x8_2.length co39) y374 := (by rw [hw, Ny374.out]; exact HP44.1); clear HP44; have n0_ := Aside0.mk (hp_); have n1_ := Aside0.mk (blk_grown (g := gb364) (o := .cells #[.int .i64 a0_0, .slice A0_1 l0_1.length c0_1] 39 (0, 0)) (bk_ BK364.out) hg (Kd.R_ne HO_8.out BK364.out (by decide))); have n2_ := Aside0.mk (blk_grown (g := gb365) (o := .cells #[.int .i64 a1_0, .int .i64 a1_1] 49 (0, 0)) (bk_ BK365.out) hg (Kd.R_ne HO_8.out BK365.out (by decide))); have n3_ := Aside0.mk (blk_grown (g := gb366) (o := .cells #[.int .i64 a2_0, .int .i64 a2_1] 49 (0, 0)) (bk_ BK366.out) hg (Kd.R_ne HO_8.out BK366.out (by decide))); have n4_ := Aside0.mk ((by rw [hw]; exact below_set (HB.out) GB43.out : Below w.heap.size w w45)); clear HO_8; clear BK364; clear BK365; clear BK366; clear HB; have HO_8 := n0_; have BK364 := n1_; have BK365 := n2_; have BK366 := n3_; have HB := n4_; clear n0_ n1_ n2_ n3_ n4_; clear hg hw hp_))
            (try simp only [← hl8_2])
            go_roundg k2
            case measure => have := HJ3.out; have := HK2.out; omega
            case rel => exact ⟨(y374), (wrap64 (x38_2 + 1)), es_, H', ⟨by have := HJ3.out; have := HK2.out; omega⟩, ⟨by (try simp only [hl8_2]); (with_reducible repeat (first | apply Kd.R_alloc | apply Kd.R_drewN | apply Kd.R_drew)); exact HO_8.out⟩, ⟨by (try simp only [hl8_2]); (with_reducible repeat (first | refine blk_drewN ?_ _ | refine blk_drew ?_ | refine blk_alloc ?_ _)); exact BK364.out⟩, ⟨by (try simp only [hl8_2]); (with_reducible repeat (first | refine blk_drewN ?_ _ | refine blk_drew ?_ | refine blk_alloc ?_ _)); exact BK365.out⟩, ⟨by (try simp only [hl8_2]); (with_reducible repeat (first | refine blk_drewN ?_ _ | refine blk_drew ?_ | refine blk_alloc ?_ _)); exact BK366.out⟩, ⟨hb_⟩⟩
           ·rw [if_neg c42] at H
            exact absurd H (by simp)
          ·rw [if_neg c41] at H
           exact absurd H (by simp)
         ·rw [if_neg c40] at H
          have c40b0 : decide (x38_2 < (y371.length : Int)) = false := decide_eq_false c40
          (try simp only [hl8_2] at c40b0)
          clear c40
          obtain ⟨ji46, hji46⟩ : ∃ j_ : Int, (wrap64 ((wrap64 (a1_0 * (l0_1.length : Int))) + a2_0)) = j_ := ⟨_, rfl⟩
          replace H : (if 0 ≤ (ji46) then (if (ji46) < (x8_2.length : Int) then (spec_JointTicks.l1 k2 (l0_1.length : Int) (x8_2.set ((ji46) : Int).toNat 0) (([ji46] : List Int)) 0 a0_0 l0_1 a1_0 a1_1 a2_0 a2_1) else (none)) else (none)) = some r := by first | (rw [hji46] at H; exact H) | (simp only [hji46] at H ⊢; exact H)
          have hji46w : (IntKind.i64.wrap ((wrap64 (a1_0 * (l0_1.length : Int))) + a2_0)) = ji46 := (i64_w _).trans hji46
          by_cases c47 : 0 ≤ (ji46)
          ·rw [if_pos c47] at H
           have c47b0 : decide (0 ≤ (ji46)) = true := decide_eq_true c47
           clear c47
           by_cases c48 : (ji46) < (x8_2.length : Int)
           ·rw [if_pos c48] at H
            have c48b0 : decide ((ji46) < (x8_2.length : Int)) = true := decide_eq_true c48
            (try simp only [hl8_2] at c48b0)
            clear c48
            obtain ⟨y375, hy375⟩ : ∃ y_ : List Int, y_ = (x8_2.set ((ji46) : Int).toNat 0) := ⟨_, rfl⟩
            replace H : (spec_JointTicks.l1 k2 (l0_1.length : Int) y375 (([ji46] : List Int)) 0 a0_0 l0_1 a1_0 a1_1 a2_0 a2_1) = some r := by first | (rw [hy375]; with_reducible exact H) | (have H2_ := (Option.bind_some _ _).symm.trans H; rw [hy375]; with_reducible exact H2_) | (have H2_ := (Option.bind_some _ _).symm.trans H; with_reducible exact H2_) | with_reducible exact H | (rw [hy375]; exact H) | exact H
            have Ny375 := Aside0.mk hy375
            clear hy375
            obtain ⟨y376, hy376⟩ : ∃ y_ : List Int, y_ = (([ji46] : List Int)) := ⟨_, rfl⟩
            replace H : (spec_JointTicks.l1 k2 (l0_1.length : Int) y375 y376 0 a0_0 l0_1 a1_0 a1_1 a2_0 a2_1) = some r := by first | (rw [hy376]; with_reducible exact H) | (have H2_ := (Option.bind_some _ _).symm.trans H; rw [hy376]; with_reducible exact H2_) | (have H2_ := (Option.bind_some _ _).symm.trans H; with_reducible exact H2_) | with_reducible exact H | (rw [hy376]; exact H) | exact H
            have Ny376 := Aside0.mk hy376
            clear hy376
            have H' := Aside0.mk H
            clear H
            have hnb50 := NB365_364.out
            have hnc50 := NB364_365.out
            have hnb51 := NB365_366.out
            have hnc51 := NB366_365.out
            have hcz52_0 : wr.cell? ⟨gb365, 0, none⟩ = some (.int .i64 a1_0) := (blk_cell BK365.out 0).trans rfl
            have hcz52_1 : wr.cell? ⟨gb365, 1, none⟩ = some (.int .i64 a1_1) := (blk_cell BK365.out 1).trans rfl
            have hfz52_0 := blk_frozen BK365.out 0
            have hfz52_1 := blk_frozen BK365.out 1
            have hnb53 := NB366_364.out
            have hnc53 := NB364_366.out
            have hcz54_0 : wr.cell? ⟨gb366, 0, none⟩ = some (.int .i64 a2_0) := (blk_cell BK366.out 0).trans rfl
            have hcz54_1 : wr.cell? ⟨gb366, 1, none⟩ = some (.int .i64 a2_1) := (blk_cell BK366.out 1).trans rfl
            have hfz54_0 := blk_frozen BK366.out 0
            have hfz54_1 := blk_frozen BK366.out 1
            have p49 : 0 ≤ ((ji46) : Int) := of_decide_eq_true as_
            have q49 : ((ji46) : Int) < ((x8_2.length : Int) : Int) := of_decide_eq_true as_
            obtain ⟨go49, co49, eo49, gb49, gl49, cl49, HG49⟩ := Kd.R_form HO_8.out (by omega)
            (first | cases eo49 | (injection eo49 with ea_ en_ ec_; (first | subst ea_ | (injection ea_ with ea_; subst ea_)); subst ec_; clear en_))
            have GB49 := Aside0.mk gb49
            have GG49 := Aside0.mk HG49
            clear gb49 gl49 HG49
            obtain ⟨hx49_0, hf49_0⟩ := Kd.R_celln 0 HO_8.out ((ji46) : Int) p49 q49
            replace p49 := eq_true p49
            replace q49 := eq_true q49
            have HP55 := Kd.R_putg HO_8.out ((ji46) : Int) 0
            go_wp2_with (first | ((with_reducible refine gate_store (t := 3) (p := 54) rfl ?_); refine store_event (t := 3) (p := 54) (v := ?vo_w56) (w1 := (wr.setCell ⟨go49, ((ji46) : Int).toNat, none⟩ (.int .i64 0))) ?hg ?ho ?hn ?hr ?_; (case ho => rfl); (case hg => rfl); (case hn => rfl); (case hr => first | (go_simp; done) | (go_simp; rfl)); intro w56 hw; have hg : wr.grownBy w56 (some go49) := (by rw [hw]; exact HP55.2); have hp_ : Kd.R (Kd.int .i64) 3 w56 w.heap.size (fun _ => True) (.slice (some ⟨go49, 0, none⟩) x8_2.length co39) y375 := (by rw [hw, Ny375.out]; exact HP55.1); clear HP55; have n0_ := Aside0.mk (hp_); have n1_ := Aside0.mk (blk_grown (g := gb364) (o := .cells #[.int .i64 a0_0, .slice A0_1 l0_1.length c0_1] 39 (0, 0)) (bk_ BK364.out) hg (Kd.R_ne HO_8.out BK364.out (by decide))); have n2_ := Aside0.mk (blk_grown (g := gb365) (o := .cells #[.int .i64 a1_0, .int .i64 a1_1] 49 (0, 0)) (bk_ BK365.out) hg (Kd.R_ne HO_8.out BK365.out (by decide))); have n3_ := Aside0.mk (blk_grown (g := gb366) (o := .cells #[.int .i64 a2_0, .int .i64 a2_1] 49 (0, 0)) (bk_ BK366.out) hg (Kd.R_ne HO_8.out BK366.out (by decide))); have n4_ := Aside0.mk ((by rw [hw]; exact below_set (HB.out) GB49.out : Below w.heap.size w w56)); clear HO_8; clear BK364; clear BK365; clear BK366; clear HB; have HO_8 := n0_; have BK364 := n1_; have BK365 := n2_; have BK366 := n3_; have HB := n4_; clear n0_ n1_ n2_ n3_ n4_; clear hg hw hp_) | ((with_reducible refine gate_dst (N := 56) rfl ?_); refine Kd.R_lit (Kd.int .i64) _ 3 ?hg (N := 56) ?hd (xs := ([ji46] : List Int)) (inner := [.int .i64 ji46]) (ok := fun _ => True) (okp := fun _ => True) ?hr ?hp (fun _ hk => hk) trivial (Below.refl _ _) (Nat.le_refl _) (by simp) ?_; (case hd => rfl); (case hg => rfl); (case hr => first | (go_simp; done) | (go_simp; rfl)); (case hp => exact (Reps.one (show Kd.M (Kd.int .i64) _ _ _ ji46 [.int .i64 ji46] from rfl) (Reps.none _ _))); intro v377 w57 ho58 hb hg_ hnew_; clear hg_ hnew_; (first | rw [← Ny376.out] at ho58 | (simp only [Int.reduceToNat] at ho58; rw [← Ny376.out] at ho58)); have n0_ := Aside0.mk (Kd.R_elder' (ra_ HO_8.out) (Kd.R_base ho58) hb); have n1_ := Aside0.mk (Kd.R_lower (Kd.R_new' ho58 (Kd.R_lt (ra_ HO_8.out))) (below_size hb_)); have n2_ := bb_ BK364 hb; have n3_ := bb_ BK365 hb; have n4_ := bb_ BK366 hb; have n5_ := Aside0.mk (below_step hb_ hb); clear HO_8; clear BK364; clear BK365; clear BK366; clear HB; have HO_8 := n0_; have HO378 := n1_; have BK364 := n2_; have BK365 := n3_; have BK366 := n4_; have HB := n5_; clear n0_ n1_ n2_ n3_ n4_ n5_; clear hb ho58))
            go_loopg [11, 12] k2 (fun kq v11 v12 w' => ∃ (x8_3 : List Int) (x11_3 : List Int) (x12_3 : Int), v12 = .int .i64 x12_3 ∧ Aside0 (spec_JointTicks.l1 kq (l0_1.length : Int) x8_3 x11_3 x12_3 a0_0 l0_1 a1_0 a1_1 a2_0 a2_1 = some r) ∧ Aside0 (kq ≤ k2) ∧ Aside0 (Kd.R (Kd.int .i64) 3 w' w.heap.size (fun k_ => some k_ ≠ (v11 : Value).ownBlock) (.slice (some ⟨go49, 0, none⟩) x8_2.length co39) x8_3) ∧ Aside0 (Kd.R (Kd.int .i64) 3 w' w.heap.size (fun k_ => some k_ ≠ ((.slice (some ⟨go49, 0, none⟩) x8_2.length co39) : Value).ownBlock) v11 x11_3) ∧ Aside0 (w'.heap[gb364]? = some (.cells #[.int .i64 a0_0, (.slice A0_1 l0_1.length c0_1)] 39 (0, 0))) ∧ Aside0 (w'.heap[gb365]? = some (.cells #[.int .i64 a1_0, .int .i64 a1_1] 49 (0, 0))) ∧ Aside0 (w'.heap[gb366]? = some (.cells #[.int .i64 a2_0, .int .i64 a2_1] 49 (0, 0))) ∧ Aside0 (Below w.heap.size w w'))
            case atStart => exact ⟨(y375), (y376), (0), es_, H', ⟨Nat.le_refl _⟩, ⟨by (try simp only [hl8_2]); (with_reducible repeat (first | apply Kd.R_alloc | apply Kd.R_drewN | apply Kd.R_drew)); exact Kd.R_mono HO_8.out (fun _ hk => hk.2)⟩, ⟨by (try simp only [hl8_2]); (with_reducible repeat (first | apply Kd.R_alloc | apply Kd.R_drewN | apply Kd.R_drew)); exact Kd.R_mono HO378.out (fun _ hk => hk.2)⟩, ⟨by (try simp only [hl8_2]); (with_reducible repeat (first | refine blk_drewN ?_ _ | refine blk_drew ?_ | refine blk_alloc ?_ _)); exact BK364.out⟩, ⟨by (try simp only [hl8_2]); (with_reducible repeat (first | refine blk_drewN ?_ _ | refine blk_drew ?_ | refine blk_alloc ?_ _)); exact BK365.out⟩, ⟨by (try simp only [hl8_2]); (with_reducible repeat (first | refine blk_drewN ?_ _ | refine blk_drew ?_ | refine blk_alloc ?_ _)); exact BK366.out⟩, ⟨hb_⟩⟩
            case round =>
             clear H'
             try clear c1
             try clear c2
             try clear p2
             try clear c3
             try clear c4
             try clear p4
             try clear q4
             try clear hx4
             try clear hf4
             try clear c5
             try clear p6
             try clear c8
             try clear c9
             try clear c12
             try clear c13
             try clear c14
             try clear c16
             try clear c23
             try clear c24
             try clear c25
             try clear c26
             try clear c33
             try clear c34
             try clear c35
             try clear c35b0
             try clear c35b1
             try clear c36
             try clear c36b0
             try clear c36b1
             try clear c40
             try clear c40b0
             try clear c41
             try clear c41b0
             try clear c42
             try clear c42b0
             try clear p43
             try clear q43
             try clear hx43
             try clear hf43
             try clear c47
             try clear c47b0
             try clear c48
             try clear c48b0
             try clear p49
             try clear q49
             try clear hx49
             try clear hf49
             try clear c50
             try clear c51
             try clear c53
             try clear hcz10_0
             try clear hcz10_1
             try clear hcz15_0
             try clear hcz15_1
             try clear hcz17_0
             try clear hcz17_1
             try clear hcz18_0
             try clear hcz18_1
             try clear hcz25_0
             try clear hcz25_1
             try clear hcz27_0
             try clear hcz27_1
             try clear hcz28_0
             try clear hcz28_1
             try clear hcz52_0
             try clear hcz52_1
             try clear hcz54_0
             try clear hcz54_1
             try clear hfz10_0
             try clear hfz10_1
             try clear hfz15_0
             try clear hfz15_1
             try clear hfz17_0
             try clear hfz17_1
             try clear hfz18_0
             try clear hfz18_1
             try clear hfz25_0
             try clear hfz25_1
             try clear hfz27_0
             try clear hfz27_1
             try clear hfz28_0
             try clear hfz28_1
             try clear hfz52_0
             try clear hfz52_1
             try clear hfz54_0
             try clear hfz54_1
             try clear hx43_0
             try clear hx49_0
             try clear p2
             try clear p43
             try clear p49
             try clear p6
             try clear q43
             try clear q49
             obtain ⟨x8_3, x11_3, x12_3, rfl, HA, HK3, HO_8, HO_11, BK364, BK365, BK366, HB⟩ := hrel
             have hl8_3 := (Kd.R_reads' HO_8.out).1
             rw [hl8_3] at HO_8
             (try simp only [hl8_3])
             (try simp only [hl8_3] at BK364)
             (try simp only [hl8_3] at BK365)
             (try simp only [hl8_3] at BK366)
             (try simp only [hl8_3] at HO_11)
             cases gk with
             | zero => exact absurd HA.out (by simp [spec_JointTicks.l1])
             | succ k3 =>
              have H := HA.out
              clear HA
              simp only [spec_JointTicks.l1] at H
              by_cases c59 : x12_3 < (x11_3.length : Int)
              ·rw [if_pos c59] at H
               have c59b0 : decide (x12_3 < (x11_3.length : Int)) = true := decide_eq_true c59
               (try simp only [hl8_2] at c59b0)
               (try simp only [hl8_3] at c59b0)
               clear c59
               by_cases c60 : 0 ≤ x12_3
               ·rw [if_pos c60] at H
                have c60b0 : decide (0 ≤ x12_3) = true := decide_eq_true c60
                clear c60
                by_cases c61 : (l0_1.length : Int) = 0
                ·rw [if_pos c61] at H
                 exact absurd H (by simp)
                ·rw [if_neg c61] at H
                 have c61b0 : ((l0_1.length : Int) == 0) = false := beq_eq_false_iff_ne.mpr c61
                 (try simp only [hl8_2] at c61b0)
                 (try simp only [hl8_3] at c61b0)
                 have c61b1 : ((l0_1.length : Int) != 0) = true := bne_iff_ne.mpr c61
                 (try simp only [hl8_2] at c61b1)
                 (try simp only [hl8_3] at c61b1)
                 have c61b2 : ¬ (l0_1 = []) := fun h_ => c61 (by rw [h_]; rfl)
                 replace H := Option.bind_eq_some_iff.mp H
                 obtain ⟨t382, A620, H⟩ := H
                 replace H : (spec_JointTicks.l2 k3 (l0_1.length : Int) x8_3 x11_3 x12_3 (wrap64 (Int.tdiv (rd x11_3 x12_3) (l0_1.length : Int))) (Int.tmod (rd x11_3 x12_3) (l0_1.length : Int)) t382 (t382.length : Int) 0 a0_0 l0_1 a1_0 a1_1 a2_0 a2_1) = some r := H
                 have A62 := Aside0.mk A620
                 clear A620
                 have H' := Aside0.mk H
                 clear H
                 obtain ⟨Ao63, co63, eo63⟩ := Kd.R_slice HO_11.out
                 subst eo63
                 have p380 : 0 ≤ (x12_3 : Int) := of_decide_eq_true as_
                 have q380 : x12_3 < (x11_3.length : Int) := of_decide_eq_true as_
                 obtain ⟨ad380, e380, hx380_0⟩ := Kd.at_int (Kd.R_reads' HO_11.out).2.2 x12_3 p380 q380
                 cases e380
                 replace p380 := eq_true p380
                 replace q380 := eq_true q380
                 have p381 : 0 ≤ (x12_3 : Int) := of_decide_eq_true as_
                 have q381 : x12_3 < (x11_3.length : Int) := of_decide_eq_true as_
                 obtain ⟨ad381, e381, hx381_0⟩ := Kd.at_int (Kd.R_reads' HO_11.out).2.2 x12_3 p381 q381
                 obtain rfl : ad380 = ad381 := (by injection e381)
                 replace p381 := eq_true p381
                 replace q381 := eq_true q381
                 have hnb64 := NB364_365.out
                 have hnc64 := NB365_364.out
                 have hnb65 := NB364_366.out
                 have hnc65 := NB366_364.out
                 have hcz66_0 : wr.cell? ⟨gb364, 0, none⟩ = some (.int .i64 a0_0) := (blk_cell BK364.out 0).trans rfl
                 have hcz66_1 : wr.cell? ⟨gb364, 1, none⟩ = some (.slice A0_1 l0_1.length c0_1) := (blk_cell BK364.out 1).trans rfl
                 have hfz66_0 := blk_frozen BK364.out 0
                 have hfz66_1 := blk_frozen BK364.out 1
                 go_wp2_with (first | ((with_reducible refine gate_callee (f := 57) rfl ?_); refine goesL_ (some 77) rfl rfl Try.func57 (by kernel_rfl) rfl #[.agg #[.int .i64 a0_0, .slice A0_1 l0_1.length c0_1], .int .i64 (wrap64 (Int.tdiv (rd x11_3 x12_3) (l0_1.length : Int)))] rfl ls_ ?_; (with_reducible refine (spec_l20Next.calls k3 a0_0 _ _ l0_1 (wrap64 (Int.tdiv (rd x11_3 x12_3) (l0_1.length : Int))) t382 _ ?side1 ?side2 A62.out).mono ?_); (case side1 => exact cb_ HR0_1.out); (case side2 => exact HC0_1.out); rintro e w67 ⟨v383, rfl, ho0, hb⟩; refine ⟨_, rfl, ?_⟩; have n0_ := Aside0.mk (Kd.R_elder' (ra_ HO_8.out) (Kd.R_base ho0) hb); have n1_ := Aside0.mk (Kd.R_elder' (ra_ HO_11.out) (Kd.R_base ho0) hb); have n2_ := Aside0.mk (Kd.R_lower (Kd.R_new' (Kd.R_new' ho0 (Kd.R_lt (ra_ HO_8.out))) (Kd.R_lt (ra_ HO_11.out))) (below_size hb_)); have n3_ := bb_ BK364 hb; have n4_ := bb_ BK365 hb; have n5_ := bb_ BK366 hb; have n6_ := Aside0.mk (below_step hb_ hb); clear HO_8; clear HO_11; clear BK364; clear BK365; clear BK366; clear HB; have HO_8 := n0_; have HO_11 := n1_; have HO384 := n2_; have BK364 := n3_; have BK365 := n4_; have BK366 := n5_; have HB := n6_; clear n0_ n1_ n2_ n3_ n4_ n5_ n6_; (try clear hb); (try clear hb2); (try clear hk); (try clear hi); (try clear ho0); obtain ⟨Ao68, co68, eo68⟩ := Kd.R_slice HO384.out; subst eo68))
                 go_loopg [11, 79] k3 (fun kq v11 v79 w' => ∃ (x8_4 : List Int) (x11_4 : List Int) (x79_4 : Int), v79 = .int .i64 x79_4 ∧ Aside0 (spec_JointTicks.l2 kq (l0_1.length : Int) x8_4 x11_4 x12_3 (wrap64 (Int.tdiv (rd x11_3 x12_3) (l0_1.length : Int))) (Int.tmod (rd x11_3 x12_3) (l0_1.length : Int)) t382 (t382.length : Int) x79_4 a0_0 l0_1 a1_0 a1_1 a2_0 a2_1 = some r) ∧ Aside0 (kq ≤ k3) ∧ Aside0 (Kd.R (Kd.int .i64) 3 w' w.heap.size (fun k_ => some k_ ≠ (v11 : Value).ownBlock ∧ some k_ ≠ ((.slice Ao68 t382.length co68) : Value).ownBlock) (.slice (some ⟨go49, 0, none⟩) x8_3.length co39) x8_4) ∧ Aside0 (Kd.R (Kd.int .i64) 3 w' w.heap.size (fun k_ => some k_ ≠ ((.slice (some ⟨go49, 0, none⟩) x8_3.length co39) : Value).ownBlock ∧ some k_ ≠ ((.slice Ao68 t382.length co68) : Value).ownBlock) v11 x11_4) ∧ Aside0 (Kd.R (Kd.int .i64) 3 w' w.heap.size (fun k_ => some k_ ≠ ((.slice (some ⟨go49, 0, none⟩) x8_3.length co39) : Value).ownBlock ∧ some k_ ≠ (v11 : Value).ownBlock) (.slice Ao68 t382.length co68) t382) ∧ Aside0 (w'.heap[gb364]? = some (.cells #[.int .i64 a0_0, (.slice A0_1 l0_1.length c0_1)] 39 (0, 0))) ∧ Aside0 (w'.heap[gb365]? = some (.cells #[.int .i64 a1_0, .int .i64 a1_1] 49 (0, 0))) ∧ Aside0 (w'.heap[gb366]? = some (.cells #[.int .i64 a2_0, .int .i64 a2_1] 49 (0, 0))) ∧ Aside0 (Below w.heap.size w w'))
                 case atStart => exact ⟨(x8_3), (x11_3), (0), es_, H', ⟨Nat.le_refl _⟩, ⟨by (try simp only [hl8_2]); (try simp only [hl8_3]); (with_reducible repeat (first | apply Kd.R_alloc | apply Kd.R_drewN | apply Kd.R_drew)); exact HO_8.out⟩, ⟨by (try simp only [hl8_2]); (try simp only [hl8_3]); (with_reducible repeat (first | apply Kd.R_alloc | apply Kd.R_drewN | apply Kd.R_drew)); exact HO_11.out⟩, ⟨by (try simp only [hl8_2]); (try simp only [hl8_3]); (with_reducible repeat (first | apply Kd.R_alloc | apply Kd.R_drewN | apply Kd.R_drew)); exact Kd.R_mono HO384.out (fun _ hk => ⟨hk.1.2, hk.2⟩)⟩, ⟨by (try simp only [hl8_2]); (try simp only [hl8_3]); (with_reducible repeat (first | refine blk_drewN ?_ _ | refine blk_drew ?_ | refine blk_alloc ?_ _)); exact BK364.out⟩, ⟨by (try simp only [hl8_2]); (try simp only [hl8_3]); (with_reducible repeat (first | refine blk_drewN ?_ _ | refine blk_drew ?_ | refine blk_alloc ?_ _)); exact BK365.out⟩, ⟨by (try simp only [hl8_2]); (try simp only [hl8_3]); (with_reducible repeat (first | refine blk_drewN ?_ _ | refine blk_drew ?_ | refine blk_alloc ?_ _)); exact BK366.out⟩, ⟨hb_⟩⟩
                 case round =>
                  clear H'
                  try clear c1
                  try clear c2
                  try clear p2
                  try clear c3
                  try clear p3
                  try clear q3
                  try clear hx3
                  try clear c4
                  try clear p4
                  try clear q4
                  try clear hx4
                  try clear hf4
                  try clear c5
                  try clear c6
                  try clear p6
                  try clear c8
                  try clear c9
                  try clear c12
                  try clear c13
                  try clear c14
                  try clear c16
                  try clear c23
                  try clear c24
                  try clear c25
                  try clear c26
                  try clear c33
                  try clear c34
                  try clear c35
                  try clear c35b0
                  try clear c35b1
                  try clear c36
                  try clear c36b0
                  try clear c36b1
                  try clear p38
                  try clear q38
                  try clear hx38
                  try clear c40
                  try clear c40b0
                  try clear c41
                  try clear c41b0
                  try clear c42
                  try clear c42b0
                  try clear p43
                  try clear q43
                  try clear hx43
                  try clear hf43
                  try clear c47
                  try clear c47b0
                  try clear c48
                  try clear c48b0
                  try clear p49
                  try clear q49
                  try clear hx49
                  try clear hf49
                  try clear c50
                  try clear c51
                  try clear c53
                  try clear c57
                  try clear c59
                  try clear c59b0
                  try clear c60
                  try clear c60b0
                  try clear c61
                  try clear c61b0
                  try clear c61b1
                  try clear c61b2
                  try clear c64
                  try clear p64
                  try clear c65
                  try clear hcz10_0
                  try clear hcz10_1
                  try clear hcz15_0
                  try clear hcz15_1
                  try clear hcz17_0
                  try clear hcz17_1
                  try clear hcz18_0
                  try clear hcz18_1
                  try clear hcz25_0
                  try clear hcz25_1
                  try clear hcz27_0
                  try clear hcz27_1
                  try clear hcz28_0
                  try clear hcz28_1
                  try clear hcz52_0
                  try clear hcz52_1
                  try clear hcz54_0
                  try clear hcz54_1
                  try clear hcz66_0
                  try clear hcz66_1
                  try clear hfz10_0
                  try clear hfz10_1
                  try clear hfz15_0
                  try clear hfz15_1
                  try clear hfz17_0
                  try clear hfz17_1
                  try clear hfz18_0
                  try clear hfz18_1
                  try clear hfz25_0
                  try clear hfz25_1
                  try clear hfz27_0
                  try clear hfz27_1
                  try clear hfz28_0
                  try clear hfz28_1
                  try clear hfz52_0
                  try clear hfz52_1
                  try clear hfz54_0
                  try clear hfz54_1
                  try clear hfz66_0
                  try clear hfz66_1
                  try clear hx380_0
                  try clear hx381_0
                  try clear hx43_0
                  try clear hx49_0
                  try clear p2
                  try clear p380
                  try clear p381
                  try clear p4
                  try clear p43
                  try clear p49
                  try clear p6
                  try clear q380
                  try clear q381
                  try clear q4
                  try clear q43
                  try clear q49
                  obtain ⟨x8_4, x11_4, x79_4, rfl, HA, HK4, HO_8, HO_11, HO_77, BK364, BK365, BK366, HB⟩ := hrel
                  have hl8_4 := (Kd.R_reads' HO_8.out).1
                  rw [hl8_4] at HO_8
                  (try simp only [hl8_4])
                  (try simp only [hl8_4] at BK364)
                  (try simp only [hl8_4] at BK365)
                  (try simp only [hl8_4] at BK366)
                  (try simp only [hl8_4] at HO_11)
                  (try simp only [hl8_4] at HO_77)
                  cases gk with
                  | zero => exact absurd HA.out (by simp [spec_JointTicks.l2])
                  | succ k4 =>
                   have H := HA.out
                   clear HA
                   simp only [spec_JointTicks.l2] at H
                   by_cases c69 : x79_4 < (t382.length : Int)
                   ·rw [if_pos c69] at H
                    have c69b0 : decide (x79_4 < (t382.length : Int)) = true := decide_eq_true c69
                    (try simp only [hl8_2] at c69b0)
                    (try simp only [hl8_3] at c69b0)
                    (try simp only [hl8_4] at c69b0)
                    clear c69
                    by_cases c70 : 0 ≤ x79_4
                    ·rw [if_pos c70] at H
                     have c70b0 : decide (0 ≤ x79_4) = true := decide_eq_true c70
                     clear c70
                     by_cases c71 : x79_4 < (t382.length : Int)
                     ·rw [if_pos c71] at H
                      have c71b0 : decide (x79_4 < (t382.length : Int)) = true := decide_eq_true c71
                      (try simp only [hl8_2] at c71b0)
                      (try simp only [hl8_3] at c71b0)
                      (try simp only [hl8_4] at c71b0)
                      clear c71
                      replace H := Option.bind_eq_some_iff.mp H
                      obtain ⟨t386, A720, H⟩ := H
                      replace H : (spec_JointTicks.l3 k4 (l0_1.length : Int) x8_4 x11_4 x12_3 (wrap64 (Int.tdiv (rd x11_3 x12_3) (l0_1.length : Int))) (Int.tmod (rd x11_3 x12_3) (l0_1.length : Int)) (rd t382 x79_4) t382 (t382.length : Int) x79_4 t386 (t386.length : Int) 0 a0_0 l0_1 a1_0 a1_1 a2_0 a2_1) = some r := H
                      have A72 := Aside0.mk A720
                      clear A720
                      have H' := Aside0.mk H
                      clear H
                      have p385 : 0 ≤ (x79_4 : Int) := of_decide_eq_true as_
                      have q385 : x79_4 < (t382.length : Int) := of_decide_eq_true as_
                      obtain ⟨ad385, e385, hx385_0⟩ := Kd.at_int (Kd.R_reads' HO_77.out).2.2 x79_4 p385 q385
                      cases e385
                      replace p385 := eq_true p385
                      replace q385 := eq_true q385
                      have hnb73 := NB364_365.out
                      have hnc73 := NB365_364.out
                      have hnb74 := NB364_366.out
                      have hnc74 := NB366_364.out
                      have hcz75_0 : wr.cell? ⟨gb364, 0, none⟩ = some (.int .i64 a0_0) := (blk_cell BK364.out 0).trans rfl
                      have hcz75_1 : wr.cell? ⟨gb364, 1, none⟩ = some (.slice A0_1 l0_1.length c0_1) := (blk_cell BK364.out 1).trans rfl
                      have hfz75_0 := blk_frozen BK364.out 0
                      have hfz75_1 := blk_frozen BK364.out 1
                      go_wp2_with (first | ((with_reducible refine gate_callee (f := 57) rfl ?_); refine goesL_ (some 85) rfl rfl Try.func57 (by kernel_rfl) rfl #[.agg #[.int .i64 a0_0, .slice A0_1 l0_1.length c0_1], .int .i64 (Int.tmod (rd x11_3 x12_3) (l0_1.length : Int))] rfl ls_ ?_; (with_reducible refine (spec_l20Next.calls k4 a0_0 _ _ l0_1 (Int.tmod (rd x11_3 x12_3) (l0_1.length : Int)) t386 _ ?side1 ?side2 A72.out).mono ?_); (case side1 => exact cb_ HR0_1.out); (case side2 => exact HC0_1.out); rintro e w76 ⟨v387, rfl, ho0, hb⟩; refine ⟨_, rfl, ?_⟩; have n0_ := Aside0.mk (Kd.R_elder' (ra_ HO_8.out) (Kd.R_base ho0) hb); have n1_ := Aside0.mk (Kd.R_elder' (ra_ HO_11.out) (Kd.R_base ho0) hb); have n2_ := Aside0.mk (Kd.R_elder' (ra_ HO_77.out) (Kd.R_base ho0) hb); have n3_ := Aside0.mk (Kd.R_lower (Kd.R_new' (Kd.R_new' (Kd.R_new' ho0 (Kd.R_lt (ra_ HO_8.out))) (Kd.R_lt (ra_ HO_11.out))) (Kd.R_lt (ra_ HO_77.out))) (below_size hb_)); have n4_ := bb_ BK364 hb; have n5_ := bb_ BK365 hb; have n6_ := bb_ BK366 hb; have n7_ := Aside0.mk (below_step hb_ hb); clear HO_8; clear HO_11; clear HO_77; clear BK364; clear BK365; clear BK366; clear HB; have HO_8 := n0_; have HO_11 := n1_; have HO_77 := n2_; have HO388 := n3_; have BK364 := n4_; have BK365 := n5_; have BK366 := n6_; have HB := n7_; clear n0_ n1_ n2_ n3_ n4_ n5_ n6_ n7_; (try clear hb); (try clear hb2); (try clear hk); (try clear hi); (try clear ho0); obtain ⟨Ao77, co77, eo77⟩ := Kd.R_slice HO388.out; subst eo77))
                      go_loopg [11, 87] k4 (fun kq v11 v87 w' => ∃ (x8_5 : List Int) (x11_5 : List Int) (x87_5 : Int), v87 = .int .i64 x87_5 ∧ Aside0 (spec_JointTicks.l3 kq (l0_1.length : Int) x8_5 x11_5 x12_3 (wrap64 (Int.tdiv (rd x11_3 x12_3) (l0_1.length : Int))) (Int.tmod (rd x11_3 x12_3) (l0_1.length : Int)) (rd t382 x79_4) t382 (t382.length : Int) x79_4 t386 (t386.length : Int) x87_5 a0_0 l0_1 a1_0 a1_1 a2_0 a2_1 = some r) ∧ Aside0 (kq ≤ k4) ∧ Aside0 (Kd.R (Kd.int .i64) 3 w' w.heap.size (fun k_ => some k_ ≠ (v11 : Value).ownBlock ∧ some k_ ≠ ((.slice (some ad385) t382.length co68) : Value).ownBlock ∧ some k_ ≠ ((.slice Ao77 t386.length co77) : Value).ownBlock) (.slice (some ⟨go49, 0, none⟩) x8_4.length co39) x8_5) ∧ Aside0 (Kd.R (Kd.int .i64) 3 w' w.heap.size (fun k_ => some k_ ≠ ((.slice (some ⟨go49, 0, none⟩) x8_4.length co39) : Value).ownBlock ∧ some k_ ≠ ((.slice (some ad385) t382.length co68) : Value).ownBlock ∧ some k_ ≠ ((.slice Ao77 t386.length co77) : Value).ownBlock) v11 x11_5) ∧ Aside0 (Kd.R (Kd.int .i64) 3 w' w.heap.size (fun k_ => some k_ ≠ ((.slice (some ⟨go49, 0, none⟩) x8_4.length co39) : Value).ownBlock ∧ some k_ ≠ (v11 : Value).ownBlock ∧ some k_ ≠ ((.slice Ao77 t386.length co77) : Value).ownBlock) (.slice (some ad385) t382.length co68) t382) ∧ Aside0 (Kd.R (Kd.int .i64) 3 w' w.heap.size (fun k_ => some k_ ≠ ((.slice (some ⟨go49, 0, none⟩) x8_4.length co39) : Value).ownBlock ∧ some k_ ≠ (v11 : Value).ownBlock ∧ some k_ ≠ ((.slice (some ad385) t382.length co68) : Value).ownBlock) (.slice Ao77 t386.length co77) t386) ∧ Aside0 (w'.heap[gb364]? = some (.cells #[.int .i64 a0_0, (.slice A0_1 l0_1.length c0_1)] 39 (0, 0))) ∧ Aside0 (w'.heap[gb365]? = some (.cells #[.int .i64 a1_0, .int .i64 a1_1] 49 (0, 0))) ∧ Aside0 (w'.heap[gb366]? = some (.cells #[.int .i64 a2_0, .int .i64 a2_1] 49 (0, 0))) ∧ Aside0 (Below w.heap.size w w'))
                      case atStart => exact ⟨(x8_4), (x11_4), (0), es_, H', ⟨Nat.le_refl _⟩, ⟨by (try simp only [hl8_2]); (try simp only [hl8_3]); (try simp only [hl8_4]); (with_reducible repeat (first | apply Kd.R_alloc | apply Kd.R_drewN | apply Kd.R_drew)); exact Kd.R_mono HO_8.out (fun _ hk => ⟨hk.1.1, ⟨hk.1.2, hk.2⟩⟩)⟩, ⟨by (try simp only [hl8_2]); (try simp only [hl8_3]); (try simp only [hl8_4]); (with_reducible repeat (first | apply Kd.R_alloc | apply Kd.R_drewN | apply Kd.R_drew)); exact Kd.R_mono HO_11.out (fun _ hk => ⟨hk.1.1, ⟨hk.1.2, hk.2⟩⟩)⟩, ⟨by (try simp only [hl8_2]); (try simp only [hl8_3]); (try simp only [hl8_4]); (with_reducible repeat (first | apply Kd.R_alloc | apply Kd.R_drewN | apply Kd.R_drew)); exact Kd.R_mono HO_77.out (fun _ hk => ⟨hk.1.1, ⟨hk.1.2, hk.2⟩⟩)⟩, ⟨by (try simp only [hl8_2]); (try simp only [hl8_3]); (try simp only [hl8_4]); (with_reducible repeat (first | apply Kd.R_alloc | apply Kd.R_drewN | apply Kd.R_drew)); exact Kd.R_mono HO388.out (fun _ hk => ⟨hk.1.1.2, ⟨hk.1.2, hk.2⟩⟩)⟩, ⟨by (try simp only [hl8_2]); (try simp only [hl8_3]); (try simp only [hl8_4]); (with_reducible repeat (first | refine blk_drewN ?_ _ | refine blk_drew ?_ | refine blk_alloc ?_ _)); exact BK364.out⟩, ⟨by (try simp only [hl8_2]); (try simp only [hl8_3]); (try simp only [hl8_4]); (with_reducible repeat (first | refine blk_drewN ?_ _ | refine blk_drew ?_ | refine blk_alloc ?_ _)); exact BK365.out⟩, ⟨by (try simp only [hl8_2]); (try simp only [hl8_3]); (try simp only [hl8_4]); (with_reducible repeat (first | refine blk_drewN ?_ _ | refine blk_drew ?_ | refine blk_alloc ?_ _)); exact BK366.out⟩, ⟨hb_⟩⟩
                      case round =>
                       clear H'
                       try clear c1
                       try clear c2
                       try clear p2
                       try clear c3
                       try clear p3
                       try clear q3
                       try clear hx3
                       try clear c4
                       try clear p4
                       try clear q4
                       try clear hx4
                       try clear hf4
                       try clear c5
                       try clear c6
                       try clear p6
                       try clear c7
                       try clear c8
                       try clear c9
                       try clear c12
                       try clear c13
                       try clear c14
                       try clear c16
                       try clear c23
                       try clear c24
                       try clear c25
                       try clear c26
                       try clear c33
                       try clear c34
                       try clear c35
                       try clear c35b0
                       try clear c35b1
                       try clear c36
                       try clear c36b0
                       try clear c36b1
                       try clear p38
                       try clear q38
                       try clear hx38
                       try clear c40
                       try clear c40b0
                       try clear c41
                       try clear c41b0
                       try clear c42
                       try clear c42b0
                       try clear p43
                       try clear q43
                       try clear hx43
                       try clear hf43
                       try clear c47
                       try clear c47b0
                       try clear c48
                       try clear c48b0
                       try clear p49
                       try clear q49
                       try clear hx49
                       try clear hf49
                       try clear c50
                       try clear c51
                       try clear c53
                       try clear c57
                       try clear c59
                       try clear c59b0
                       try clear c60
                       try clear c60b0
                       try clear c61
                       try clear c61b0
                       try clear c61b1
                       try clear c61b2
                       try clear c64
                       try clear p64
                       try clear c65
                       try clear c69
                       try clear c69b0
                       try clear c70
                       try clear c70b0
                       try clear c71
                       try clear c71b0
                       try clear c73
                       try clear c74
                       try clear hcz10_0
                       try clear hcz10_1
                       try clear hcz15_0
                       try clear hcz15_1
                       try clear hcz17_0
                       try clear hcz17_1
                       try clear hcz18_0
                       try clear hcz18_1
                       try clear hcz25_0
                       try clear hcz25_1
                       try clear hcz27_0
                       try clear hcz27_1
                       try clear hcz28_0
                       try clear hcz28_1
                       try clear hcz52_0
                       try clear hcz52_1
                       try clear hcz54_0
                       try clear hcz54_1
                       try clear hcz66_0
                       try clear hcz66_1
                       try clear hcz75_0
                       try clear hcz75_1
                       try clear hfz10_0
                       try clear hfz10_1
                       try clear hfz15_0
                       try clear hfz15_1
                       try clear hfz17_0
                       try clear hfz17_1
                       try clear hfz18_0
                       try clear hfz18_1
                       try clear hfz25_0
                       try clear hfz25_1
                       try clear hfz27_0
                       try clear hfz27_1
                       try clear hfz28_0
                       try clear hfz28_1
                       try clear hfz52_0
                       try clear hfz52_1
                       try clear hfz54_0
                       try clear hfz54_1
                       try clear hfz66_0
                       try clear hfz66_1
                       try clear hfz75_0
                       try clear hfz75_1
                       try clear hx380_0
                       try clear hx381_0
                       try clear hx385_0
                       try clear hx43_0
                       try clear hx49_0
                       try clear p2
                       try clear p3
                       try clear p38
                       try clear p380
                       try clear p381
                       try clear p385
                       try clear p4
                       try clear p43
                       try clear p49
                       try clear p6
                       try clear p64
                       try clear q3
                       try clear q38
                       try clear q380
                       try clear q381
                       try clear q385
                       try clear q4
                       try clear q43
                       try clear q49
                       obtain ⟨x8_5, x11_5, x87_5, rfl, HA, HK5, HO_8, HO_11, HO_77, HO_85, BK364, BK365, BK366, HB⟩ := hrel
                       have hl8_5 := (Kd.R_reads' HO_8.out).1
                       rw [hl8_5] at HO_8
                       (try simp only [hl8_5])
                       (try simp only [hl8_5] at BK364)
                       (try simp only [hl8_5] at BK365)
                       (try simp only [hl8_5] at BK366)
                       (try simp only [hl8_5] at HO_11)
                       (try simp only [hl8_5] at HO_77)
                       (try simp only [hl8_5] at HO_85)
                       cases gk with
                       | zero => exact absurd HA.out (by simp [spec_JointTicks.l3])
                       | succ k5 =>
                        have H := HA.out
                        clear HA
                        simp only [spec_JointTicks.l3] at H
                        by_cases c78 : x87_5 < (t386.length : Int)
                        ·rw [if_pos c78] at H
                         have c78b0 : decide (x87_5 < (t386.length : Int)) = true := decide_eq_true c78
                         (try simp only [hl8_2] at c78b0)
                         (try simp only [hl8_3] at c78b0)
                         (try simp only [hl8_4] at c78b0)
                         (try simp only [hl8_5] at c78b0)
                         clear c78
                         by_cases c79 : 0 ≤ x87_5
                         ·rw [if_pos c79] at H
                          have c79b0 : decide (0 ≤ x87_5) = true := decide_eq_true c79
                          clear c79
                          by_cases c80 : x87_5 < (t386.length : Int)
                          ·rw [if_pos c80] at H
                           have c80b0 : decide (x87_5 < (t386.length : Int)) = true := decide_eq_true c80
                           (try simp only [hl8_2] at c80b0)
                           (try simp only [hl8_3] at c80b0)
                           (try simp only [hl8_4] at c80b0)
                           (try simp only [hl8_5] at c80b0)
                           clear c80
                           by_cases c81 : (rd t382 x79_4) = (rd t386 x87_5)
                           ·rw [if_pos c81] at H
                            have c81b0 : ((rd t382 x79_4) == (rd t386 x87_5)) = true := beq_iff_eq.mpr c81
                            have c81b1 : ((rd t382 x79_4) != (rd t386 x87_5)) = false := bne_eq_false_iff_eq.mpr c81
                            clear c81
                            have H' := Aside0.mk H
                            clear H
                            have p389 : 0 ≤ (x87_5 : Int) := of_decide_eq_true as_
                            have q389 : x87_5 < (t386.length : Int) := of_decide_eq_true as_
                            obtain ⟨ad389, e389, hx389_0⟩ := Kd.at_int (Kd.R_reads' HO_85.out).2.2 x87_5 p389 q389
                            cases e389
                            replace p389 := eq_true p389
                            replace q389 := eq_true q389
                            go_wp2
                            (try simp only [← hl8_5])
                            go_roundg k5
                            case measure => have := HJ3.out; have := HK2.out; have := HK3.out; have := HK4.out; have := HK5.out; omega
                            case rel => exact ⟨(x8_5), (x11_5), (wrap64 (x87_5 + 1)), es_, H', ⟨by have := HJ3.out; have := HK2.out; have := HK3.out; have := HK4.out; have := HK5.out; omega⟩, ⟨by (try simp only [hl8_2]); (try simp only [hl8_3]); (try simp only [hl8_4]); (try simp only [hl8_5]); (with_reducible repeat (first | apply Kd.R_alloc | apply Kd.R_drewN | apply Kd.R_drew)); exact HO_8.out⟩, ⟨by (try simp only [hl8_2]); (try simp only [hl8_3]); (try simp only [hl8_4]); (try simp only [hl8_5]); (with_reducible repeat (first | apply Kd.R_alloc | apply Kd.R_drewN | apply Kd.R_drew)); exact HO_11.out⟩, ⟨by (try simp only [hl8_2]); (try simp only [hl8_3]); (try simp only [hl8_4]); (try simp only [hl8_5]); (with_reducible repeat (first | apply Kd.R_alloc | apply Kd.R_drewN | apply Kd.R_drew)); exact HO_77.out⟩, ⟨by (try simp only [hl8_2]); (try simp only [hl8_3]); (try simp only [hl8_4]); (try simp only [hl8_5]); (with_reducible repeat (first | apply Kd.R_alloc | apply Kd.R_drewN | apply Kd.R_drew)); exact HO_85.out⟩, ⟨by (try simp only [hl8_2]); (try simp only [hl8_3]); (try simp only [hl8_4]); (try simp only [hl8_5]); (with_reducible repeat (first | refine blk_drewN ?_ _ | refine blk_drew ?_ | refine blk_alloc ?_ _)); exact BK364.out⟩, ⟨by (try simp only [hl8_2]); (try simp only [hl8_3]); (try simp only [hl8_4]); (try simp only [hl8_5]); (with_reducible repeat (first | refine blk_drewN ?_ _ | refine blk_drew ?_ | refine blk_alloc ?_ _)); exact BK365.out⟩, ⟨by (try simp only [hl8_2]); (try simp only [hl8_3]); (try simp only [hl8_4]); (try simp only [hl8_5]); (with_reducible repeat (first | refine blk_drewN ?_ _ | refine blk_drew ?_ | refine blk_alloc ?_ _)); exact BK366.out⟩, ⟨hb_⟩⟩
                           ·rw [if_neg c81] at H
                            have c81b0 : ((rd t382 x79_4) == (rd t386 x87_5)) = false := beq_eq_false_iff_ne.mpr c81
                            have c81b1 : ((rd t382 x79_4) != (rd t386 x87_5)) = true := bne_iff_ne.mpr c81
                            by_cases c82 : (rd t382 x79_4) = (Int.tmod (rd x11_3 x12_3) (l0_1.length : Int))
                            ·rw [if_pos c82] at H
                             have c82b0 : ((rd t382 x79_4) == (Int.tmod (rd x11_3 x12_3) (l0_1.length : Int))) = true := beq_iff_eq.mpr c82
                             (try simp only [hl8_2] at c82b0)
                             (try simp only [hl8_3] at c82b0)
                             (try simp only [hl8_4] at c82b0)
                             (try simp only [hl8_5] at c82b0)
                             have c82b1 : ((rd t382 x79_4) != (Int.tmod (rd x11_3 x12_3) (l0_1.length : Int))) = false := bne_eq_false_iff_eq.mpr c82
                             (try simp only [hl8_2] at c82b1)
                             (try simp only [hl8_3] at c82b1)
                             (try simp only [hl8_4] at c82b1)
                             (try simp only [hl8_5] at c82b1)
                             clear c82
                             by_cases c83 : (rd t386 x87_5) = (wrap64 (Int.tdiv (rd x11_3 x12_3) (l0_1.length : Int)))
                             ·rw [if_pos c83] at H
                              have c83b0 : ((rd t386 x87_5) == (wrap64 (Int.tdiv (rd x11_3 x12_3) (l0_1.length : Int)))) = true := beq_iff_eq.mpr c83
                              (try simp only [hl8_2] at c83b0)
                              (try simp only [hl8_3] at c83b0)
                              (try simp only [hl8_4] at c83b0)
                              (try simp only [hl8_5] at c83b0)
                              have c83b1 : ((rd t386 x87_5) != (wrap64 (Int.tdiv (rd x11_3 x12_3) (l0_1.length : Int)))) = false := bne_eq_false_iff_eq.mpr c83
                              (try simp only [hl8_2] at c83b1)
                              (try simp only [hl8_3] at c83b1)
                              (try simp only [hl8_4] at c83b1)
                              (try simp only [hl8_5] at c83b1)
                              clear c83
                              have H' := Aside0.mk H
                              clear H
                              have p389 : 0 ≤ (x87_5 : Int) := of_decide_eq_true as_
                              have q389 : x87_5 < (t386.length : Int) := of_decide_eq_true as_
                              obtain ⟨ad389, e389, hx389_0⟩ := Kd.at_int (Kd.R_reads' HO_85.out).2.2 x87_5 p389 q389
                              cases e389
                              replace p389 := eq_true p389
                              replace q389 := eq_true q389
                              go_wp2
                              (try simp only [← hl8_5])
                              go_roundg k5
                              case measure => have := HJ3.out; have := HK2.out; have := HK3.out; have := HK4.out; have := HK5.out; omega
                              case rel => exact ⟨(x8_5), (x11_5), (wrap64 (x87_5 + 1)), es_, H', ⟨by have := HJ3.out; have := HK2.out; have := HK3.out; have := HK4.out; have := HK5.out; omega⟩, ⟨by (try simp only [hl8_2]); (try simp only [hl8_3]); (try simp only [hl8_4]); (try simp only [hl8_5]); (with_reducible repeat (first | apply Kd.R_alloc | apply Kd.R_drewN | apply Kd.R_drew)); exact HO_8.out⟩, ⟨by (try simp only [hl8_2]); (try simp only [hl8_3]); (try simp only [hl8_4]); (try simp only [hl8_5]); (with_reducible repeat (first | apply Kd.R_alloc | apply Kd.R_drewN | apply Kd.R_drew)); exact HO_11.out⟩, ⟨by (try simp only [hl8_2]); (try simp only [hl8_3]); (try simp only [hl8_4]); (try simp only [hl8_5]); (with_reducible repeat (first | apply Kd.R_alloc | apply Kd.R_drewN | apply Kd.R_drew)); exact HO_77.out⟩, ⟨by (try simp only [hl8_2]); (try simp only [hl8_3]); (try simp only [hl8_4]); (try simp only [hl8_5]); (with_reducible repeat (first | apply Kd.R_alloc | apply Kd.R_drewN | apply Kd.R_drew)); exact HO_85.out⟩, ⟨by (try simp only [hl8_2]); (try simp only [hl8_3]); (try simp only [hl8_4]); (try simp only [hl8_5]); (with_reducible repeat (first | refine blk_drewN ?_ _ | refine blk_drew ?_ | refine blk_alloc ?_ _)); exact BK364.out⟩, ⟨by (try simp only [hl8_2]); (try simp only [hl8_3]); (try simp only [hl8_4]); (try simp only [hl8_5]); (with_reducible repeat (first | refine blk_drewN ?_ _ | refine blk_drew ?_ | refine blk_alloc ?_ _)); exact BK365.out⟩, ⟨by (try simp only [hl8_2]); (try simp only [hl8_3]); (try simp only [hl8_4]); (try simp only [hl8_5]); (with_reducible repeat (first | refine blk_drewN ?_ _ | refine blk_drew ?_ | refine blk_alloc ?_ _)); exact BK366.out⟩, ⟨hb_⟩⟩
                             ·rw [if_neg c83] at H
                              have c83b0 : ((rd t386 x87_5) == (wrap64 (Int.tdiv (rd x11_3 x12_3) (l0_1.length : Int)))) = false := beq_eq_false_iff_ne.mpr c83
                              (try simp only [hl8_2] at c83b0)
                              (try simp only [hl8_3] at c83b0)
                              (try simp only [hl8_4] at c83b0)
                              (try simp only [hl8_5] at c83b0)
                              have c83b1 : ((rd t386 x87_5) != (wrap64 (Int.tdiv (rd x11_3 x12_3) (l0_1.length : Int)))) = true := bne_iff_ne.mpr c83
                              (try simp only [hl8_2] at c83b1)
                              (try simp only [hl8_3] at c83b1)
                              (try simp only [hl8_4] at c83b1)
                              (try simp only [hl8_5] at c83b1)
                              obtain ⟨ji84, hji84⟩ : ∃ j_ : Int, (wrap64 ((wrap64 ((rd t382 x79_4) * (l0_1.length : Int))) + (rd t386 x87_5))) = j_ := ⟨_, rfl⟩
                              replace H : (if 0 ≤ (ji84) then (if (ji84) < (x8_5.length : Int) then (if (rd x8_5 (ji84)) ≥ 0 then (spec_JointTicks.l3 k5 (l0_1.length : Int) x8_5 x11_5 x12_3 (wrap64 (Int.tdiv (rd x11_3 x12_3) (l0_1.length : Int))) (Int.tmod (rd x11_3 x12_3) (l0_1.length : Int)) (rd t382 x79_4) t382 (t382.length : Int) x79_4 t386 (t386.length : Int) (wrap64 (x87_5 + 1)) a0_0 l0_1 a1_0 a1_1 a2_0 a2_1) else (if 0 ≤ x12_3 then (if x12_3 < (x11_5.length : Int) then (if 0 ≤ (rd x11_5 x12_3) then (if (rd x11_5 x12_3) < (x8_5.length : Int) then (if x11_5.length < 17592186044416 then (spec_JointTicks.l3 k5 (l0_1.length : Int) (x8_5.set ((ji84) : Int).toNat (wrap64 ((rd x8_5 (rd x11_5 x12_3)) + 1))) (x11_5 ++ [ji84]) x12_3 (wrap64 (Int.tdiv (rd x11_3 x12_3) (l0_1.length : Int))) (Int.tmod (rd x11_3 x12_3) (l0_1.length : Int)) (rd t382 x79_4) t382 (t382.length : Int) x79_4 t386 (t386.length : Int) (wrap64 (x87_5 + 1)) a0_0 l0_1 a1_0 a1_1 a2_0 a2_1) else (none)) else (none)) else (none)) else (none)) else (none))) else (none)) else (none)) = some r := by first | (rw [hji84] at H; exact H) | (simp only [hji84] at H ⊢; exact H)
                              have hji84w : (IntKind.i64.wrap ((wrap64 ((rd t382 x79_4) * (l0_1.length : Int))) + (rd t386 x87_5))) = ji84 := (i64_w _).trans hji84
                              by_cases c85 : 0 ≤ (ji84)
                              ·rw [if_pos c85] at H
                               have c85b0 : decide (0 ≤ (ji84)) = true := decide_eq_true c85
                               clear c85
                               by_cases c86 : (ji84) < (x8_5.length : Int)
                               ·rw [if_pos c86] at H
                                have c86b0 : decide ((ji84) < (x8_5.length : Int)) = true := decide_eq_true c86
                                (try simp only [hl8_2] at c86b0)
                                (try simp only [hl8_3] at c86b0)
                                (try simp only [hl8_4] at c86b0)
                                (try simp only [hl8_5] at c86b0)
                                clear c86
                                by_cases c87 : (rd x8_5 (ji84)) ≥ 0
                                ·rw [if_pos c87] at H
                                 have c87b0 : decide (0 ≤ (rd x8_5 (ji84))) = true := decide_eq_true c87
                                 clear c87
                                 have H' := Aside0.mk H
                                 clear H
                                 have p389 : 0 ≤ (x87_5 : Int) := of_decide_eq_true as_
                                 have q389 : x87_5 < (t386.length : Int) := of_decide_eq_true as_
                                 obtain ⟨ad389, e389, hx389_0⟩ := Kd.at_int (Kd.R_reads' HO_85.out).2.2 x87_5 p389 q389
                                 cases e389
                                 replace p389 := eq_true p389
                                 replace q389 := eq_true q389
                                 have p390 : 0 ≤ ((ji84) : Int) := of_decide_eq_true as_
                                 have q390 : (ji84) < (x8_5.length : Int) := of_decide_eq_true as_
                                 obtain ⟨ad390, e390, hx390_0⟩ := Kd.at_int (Kd.R_reads' HO_8.out).2.2 (ji84) p390 q390
                                 obtain rfl : (⟨go49, 0, none⟩ : Addr) = ad390 := (by injection e390)
                                 (first | simp only [add_plain] at hx390_0 | simp only [add_at] at hx390_0 | simp only [Addr.add, Nat.zero_add] at hx390_0 | skip)
                                 replace p390 := eq_true p390
                                 replace q390 := eq_true q390
                                 go_wp2
                                 (try simp only [← hl8_5])
                                 go_roundg k5
                                 case measure => have := HJ3.out; have := HK2.out; have := HK3.out; have := HK4.out; have := HK5.out; omega
                                 case rel => exact ⟨(x8_5), (x11_5), (wrap64 (x87_5 + 1)), es_, H', ⟨by have := HJ3.out; have := HK2.out; have := HK3.out; have := HK4.out; have := HK5.out; omega⟩, ⟨by (try simp only [hl8_2]); (try simp only [hl8_3]); (try simp only [hl8_4]); (try simp only [hl8_5]); (with_reducible repeat (first | apply Kd.R_alloc | apply Kd.R_drewN | apply Kd.R_drew)); exact HO_8.out⟩, ⟨by (try simp only [hl8_2]); (try simp only [hl8_3]); (try simp only [hl8_4]); (try simp only [hl8_5]); (with_reducible repeat (first | apply Kd.R_alloc | apply Kd.R_drewN | apply Kd.R_drew)); exact HO_11.out⟩, ⟨by (try simp only [hl8_2]); (try simp only [hl8_3]); (try simp only [hl8_4]); (try simp only [hl8_5]); (with_reducible repeat (first | apply Kd.R_alloc | apply Kd.R_drewN | apply Kd.R_drew)); exact HO_77.out⟩, ⟨by (try simp only [hl8_2]); (try simp only [hl8_3]); (try simp only [hl8_4]); (try simp only [hl8_5]); (with_reducible repeat (first | apply Kd.R_alloc | apply Kd.R_drewN | apply Kd.R_drew)); exact HO_85.out⟩, ⟨by (try simp only [hl8_2]); (try simp only [hl8_3]); (try simp only [hl8_4]); (try simp only [hl8_5]); (with_reducible repeat (first | refine blk_drewN ?_ _ | refine blk_drew ?_ | refine blk_alloc ?_ _)); exact BK364.out⟩, ⟨by (try simp only [hl8_2]); (try simp only [hl8_3]); (try simp only [hl8_4]); (try simp only [hl8_5]); (with_reducible repeat (first | refine blk_drewN ?_ _ | refine blk_drew ?_ | refine blk_alloc ?_ _)); exact BK365.out⟩, ⟨by (try simp only [hl8_2]); (try simp only [hl8_3]); (try simp only [hl8_4]); (try simp only [hl8_5]); (with_reducible repeat (first | refine blk_drewN ?_ _ | refine blk_drew ?_ | refine blk_alloc ?_ _)); exact BK366.out⟩, ⟨hb_⟩⟩
                                ·rw [if_neg c87] at H
                                 have c87b0 : decide (0 ≤ (rd x8_5 (ji84))) = false := decide_eq_false c87
                                 clear c87
                                 by_cases c88 : 0 ≤ x12_3
                                 ·rw [if_pos c88] at H
                                  have c88b0 : decide (0 ≤ x12_3) = true := decide_eq_true c88
                                  clear c88
                                  by_cases c89 : x12_3 < (x11_5.length : Int)
                                  ·rw [if_pos c89] at H
                                   have c89b0 : decide (x12_3 < (x11_5.length : Int)) = true := decide_eq_true c89
                                   (try simp only [hl8_2] at c89b0)
                                   (try simp only [hl8_3] at c89b0)
                                   (try simp only [hl8_4] at c89b0)
                                   (try simp only [hl8_5] at c89b0)
                                   clear c89
                                   by_cases c90 : 0 ≤ (rd x11_5 x12_3)
                                   ·rw [if_pos c90] at H
                                    have c90b0 : decide (0 ≤ (rd x11_5 x12_3)) = true := decide_eq_true c90
                                    clear c90
                                    by_cases c91 : (rd x11_5 x12_3) < (x8_5.length : Int)
                                    ·rw [if_pos c91] at H
                                     have c91b0 : decide ((rd x11_5 x12_3) < (x8_5.length : Int)) = true := decide_eq_true c91
                                     (try simp only [hl8_2] at c91b0)
                                     (try simp only [hl8_3] at c91b0)
                                     (try simp only [hl8_4] at c91b0)
                                     (try simp only [hl8_5] at c91b0)
                                     clear c91
                                     obtain ⟨y393, hy393⟩ : ∃ y_ : List Int, y_ = (x8_5.set ((ji84) : Int).toNat (wrap64 ((rd x8_5 (rd x11_5 x12_3)) + 1))) := ⟨_, rfl⟩
                                     replace H : (if x11_5.length < 17592186044416 then (spec_JointTicks.l3 k5 (l0_1.length : Int) y393 (x11_5 ++ [ji84]) x12_3 (wrap64 (Int.tdiv (rd x11_3 x12_3) (l0_1.length : Int))) (Int.tmod (rd x11_3 x12_3) (l0_1.length : Int)) (rd t382 x79_4) t382 (t382.length : Int) x79_4 t386 (t386.length : Int) (wrap64 (x87_5 + 1)) a0_0 l0_1 a1_0 a1_1 a2_0 a2_1) else (none)) = some r := by first | (rw [hy393]; with_reducible exact H) | (have H2_ := (Option.bind_some _ _).symm.trans H; rw [hy393]; with_reducible exact H2_) | (have H2_ := (Option.bind_some _ _).symm.trans H; with_reducible exact H2_) | with_reducible exact H | (rw [hy393]; exact H) | exact H
                                     have Ny393 := Aside0.mk hy393
                                     clear hy393
                                     by_cases c93 : x11_5.length < 17592186044416
                                     ·rw [if_pos c93] at H
                                      have LMc93 := Aside0.mk c93
                                      clear c93
                                      obtain ⟨y394, hy394⟩ : ∃ y_ : List Int, y_ = (x11_5 ++ [ji84]) := ⟨_, rfl⟩
                                      replace H : (spec_JointTicks.l3 k5 (l0_1.length : Int) y393 y394 x12_3 (wrap64 (Int.tdiv (rd x11_3 x12_3) (l0_1.length : Int))) (Int.tmod (rd x11_3 x12_3) (l0_1.length : Int)) (rd t382 x79_4) t382 (t382.length : Int) x79_4 t386 (t386.length : Int) (wrap64 (x87_5 + 1)) a0_0 l0_1 a1_0 a1_1 a2_0 a2_1) = some r := by first | (rw [hy394]; with_reducible exact H) | (have H2_ := (Option.bind_some _ _).symm.trans H; rw [hy394]; with_reducible exact H2_) | (have H2_ := (Option.bind_some _ _).symm.trans H; with_reducible exact H2_) | with_reducible exact H | (rw [hy394]; exact H) | exact H
                                      have Ny394 := Aside0.mk hy394
                                      clear hy394
                                      have H' := Aside0.mk H
                                      clear H
                                      have p389 : 0 ≤ (x87_5 : Int) := of_decide_eq_true as_
                                      have q389 : x87_5 < (t386.length : Int) := of_decide_eq_true as_
                                      obtain ⟨ad389, e389, hx389_0⟩ := Kd.at_int (Kd.R_reads' HO_85.out).2.2 x87_5 p389 q389
                                      cases e389
                                      replace p389 := eq_true p389
                                      replace q389 := eq_true q389
                                      have p390 : 0 ≤ ((ji84) : Int) := of_decide_eq_true as_
                                      have q390 : (ji84) < (x8_5.length : Int) := of_decide_eq_true as_
                                      obtain ⟨ad390, e390, hx390_0⟩ := Kd.at_int (Kd.R_reads' HO_8.out).2.2 (ji84) p390 q390
                                      obtain rfl : (⟨go49, 0, none⟩ : Addr) = ad390 := (by injection e390)
                                      (first | simp only [add_plain] at hx390_0 | simp only [add_at] at hx390_0 | simp only [Addr.add, Nat.zero_add] at hx390_0 | skip)
                                      replace p390 := eq_true p390
                                      replace q390 := eq_true q390
                                      obtain ⟨Ao94, co94, eo94⟩ := Kd.R_slice HO_11.out
                                      subst eo94
                                      have p391 : 0 ≤ (x12_3 : Int) := of_decide_eq_true as_
                                      have q391 : x12_3 < (x11_5.length : Int) := of_decide_eq_true as_
                                      obtain ⟨ad391, e391, hx391_0⟩ := Kd.at_int (Kd.R_reads' HO_11.out).2.2 x12_3 p391 q391
                                      cases e391
                                      replace p391 := eq_true p391
                                      replace q391 := eq_true q391
                                      have p392 : 0 ≤ ((rd x11_5 x12_3) : Int) := of_decide_eq_true as_
                                      have q392 : (rd x11_5 x12_3) < (x8_5.length : Int) := of_decide_eq_true as_
                                      obtain ⟨ad392, e392, hx392_0⟩ := Kd.at_int (Kd.R_reads' HO_8.out).2.2 (rd x11_5 x12_3) p392 q392
                                      obtain rfl : (⟨go49, 0, none⟩ : Addr) = ad392 := (by injection e392)
                                      (first | simp only [add_plain] at hx392_0 | simp only [add_at] at hx392_0 | simp only [Addr.add, Nat.zero_add] at hx392_0 | skip)
                                      replace p392 := eq_true p392
                                      replace q392 := eq_true q392
                                      have p92 : 0 ≤ ((ji84) : Int) := of_decide_eq_true as_
                                      have q92 : ((ji84) : Int) < ((x8_5.length : Int) : Int) := of_decide_eq_true as_
                                      obtain ⟨hx92_0, hf92_0⟩ := Kd.R_celln 0 HO_8.out ((ji84) : Int) p92 q92
                                      replace p92 := eq_true p92
                                      replace q92 := eq_true q92
                                      have HP95 := Kd.R_putg HO_8.out ((ji84) : Int) (wrap64 ((rd x8_5 (rd x11_5 x12_3)) + 1))
                                      go_wp2_with (first | ((with_reducible refine gate_store (t := 3) (p := 129) rfl ?_); refine store_event (t := 3) (p := 129) (v := ?vo_w96) (w1 := (wr.setCell ⟨go49, ((ji84) : Int).toNat, none⟩ (.int .i64 (wrap64 ((rd x8_5 (rd x11_5 x12_3)) + 1))))) ?hg ?ho ?hn ?hr ?_; (case ho => rfl); (case hg => rfl); (case hn => rfl); (case hr => first | (go_simp; done) | (go_simp; rfl)); intro w96 hw; have hg : wr.grownBy w96 (some go49) := (by rw [hw]; exact HP95.2); have hp_ : Kd.R (Kd.int .i64) 3 w96 w.heap.size (fun k_ => some k_ ≠ (.slice (some ad391) x11_5.length co94 : Value).ownBlock ∧ some k_ ≠ (.slice (some ad385) t382.length co68 : Value).ownBlock ∧ some k_ ≠ (.slice (some ad389) t386.length co77 : Value).ownBlock) (.slice (some ⟨go49, 0, none⟩) x8_5.length co39) y393 := (by rw [hw, Ny393.out]; exact HP95.1); clear HP95; have n0_ := Aside0.mk (hp_); have n1_ := Aside0.mk (Kd.R_after (v := (.slice (some ⟨go49, 0, none⟩) x8_5.length co39)) (v1 := (.slice (some ⟨go49, 0, none⟩) x8_5.length co39)) (ok := (fun k_ => some k_ ≠ (.slice (some ad385) t382.length co68 : Value).ownBlock ∧ some k_ ≠ (.slice (some ad389) t386.length co77 : Value).ownBlock)) (by (with_reducible repeat (first | apply Kd.R_alloc | apply Kd.R_drewN | apply Kd.R_drew)); exact Kd.R_mono HO_11.out (fun _ hk => ⟨⟨hk.2.1, hk.2.2⟩, hk.1⟩)) hg (.inl rfl)); have n2_ := Aside0.mk (Kd.R_after (v := (.slice (some ⟨go49, 0, none⟩) x8_5.length co39)) (v1 := (.slice (some ⟨go49, 0, none⟩) x8_5.length co39)) (ok := (fun k_ => some k_ ≠ (.slice (some ad391) x11_5.length co94 : Value).ownBlock ∧ some k_ ≠ (.slice (some ad389) t386.length co77 : Value).ownBlock)) (by (with_reducible repeat (first | apply Kd.R_alloc | apply Kd.R_drewN | apply Kd.R_drew)); exact Kd.R_mono HO_77.out (fun _ hk => ⟨⟨hk.2.1, hk.2.2⟩, hk.1⟩)) hg (.inl rfl)); have n3_ := Aside0.mk (Kd.R_after (v := (.slice (some ⟨go49, 0, none⟩) x8_5.length co39)) (v1 := (.slice (some ⟨go49, 0, none⟩) x8_5.length co39)) (ok := (fun k_ => some k_ ≠ (.slice (some ad391) x11_5.length co94 : Value).ownBlock ∧ some k_ ≠ (.slice (some ad385) t382.length co68 : Value).ownBlock)) (by (with_reducible repeat (first | apply Kd.R_alloc | apply Kd.R_drewN | apply Kd.R_drew)); exact Kd.R_mono HO_85.out (fun _ hk => ⟨⟨hk.2.1, hk.2.2⟩, hk.1⟩)) hg (.inl rfl)); have n4_ := Aside0.mk (blk_grown (g := gb364) (o := .cells #[.int .i64 a0_0, .slice A0_1 l0_1.length c0_1] 39 (0, 0)) (bk_ BK364.out) hg (Kd.R_ne HO_8.out BK364.out (by decide))); have n5_ := Aside0.mk (blk_grown (g := gb365) (o := .cells #[.int .i64 a1_0, .int .i64 a1_1] 49 (0, 0)) (bk_ BK365.out) hg (Kd.R_ne HO_8.out BK365.out (by decide))); have n6_ := Aside0.mk (blk_grown (g := gb366) (o := .cells #[.int .i64 a2_0, .int .i64 a2_1] 49 (0, 0)) (bk_ BK366.out) hg (Kd.R_ne HO_8.out BK366.out (by decide))); have n7_ := Aside0.mk ((by rw [hw]; exact below_set (HB.out) GB49.out : Below w.heap.size w w96)); clear HO_8; clear HO_11; clear HO_77; clear HO_85; clear BK364; clear BK365; clear BK366; clear HB; have HO_8 := n0_; have HO_11 := n1_; have HO_77 := n2_; have HO_85 := n3_; have BK364 := n4_; have BK365 := n5_; have BK366 := n6_; have HB := n7_; clear n0_ n1_ n2_ n3_ n4_ n5_ n6_ n7_; clear hg hw hp_) | ((with_reducible refine gate_builtin (b := .append) (xs := #[.tmp 130, .tmp 136]) rfl ?_); at_builtin; refine Kd.R_append (Kd.int .i64) (w0 := w) w.heap.size rfl (.tmp 130) (.tmp 136) 22 3 (.int .i64 0) 8 rfl Try.underlying22 info3 rfl (by decide) (by omega) (.slice (some ad391) x11_5.length co94) x11_5 ji84 [.int .i64 ji84] (fun k_ => some k_ ≠ (.slice (some ⟨go49, 0, none⟩) x8_5.length co39 : Value).ownBlock ∧ some k_ ≠ (.slice (some ad385) t382.length co68 : Value).ownBlock ∧ some k_ ≠ (.slice (some ad389) t386.length co77 : Value).ownBlock) (fun _ => False) rfl rfl ?aP (fun _ hk => hk.elim) ?aF ?aO ?aB ?aS ?aL ?_; (case aP => exact rfl); (case aB => exact hb_); (case aF => exact (fun k_ hk => ⟨Kd.fresh' (Kd.R_lt (ra_ HO_8.out)) k_ hk, Kd.fresh' (Kd.R_lt (ra_ HO_77.out)) k_ hk, Kd.fresh' (Kd.R_lt (ra_ HO_85.out)) k_ hk⟩)); (case aO => exact (by (with_reducible repeat (first | apply Kd.R_alloc | apply Kd.R_drewN | apply Kd.R_drew)); exact Kd.R_mono HO_11.out (fun _ hk => ⟨hk.2, ⟨hk.1.1, hk.1.2⟩⟩))); (case aS => exact (below_size hb_)); (case aL => have := LMc93.out; omega); intro v395 w97 ho hb hg hat; rw [← Ny394.out] at ho; have n0_ := Aside0.mk (Kd.R_after (ok := (fun k_ => some k_ ≠ (.slice (some ad385) t382.length co68 : Value).ownBlock ∧ some k_ ≠ (.slice (some ad389) t386.length co77 : Value).ownBlock)) (by (with_reducible repeat (first | apply Kd.R_alloc | apply Kd.R_drewN | apply Kd.R_drew)); exact Kd.R_mono HO_8.out (fun _ hk => ⟨⟨hk.2.1, hk.2.2⟩, hk.1⟩)) hg hat); have n1_ := Aside0.mk (Kd.R_after (ok := (fun k_ => some k_ ≠ (.slice (some ⟨go49, 0, none⟩) x8_5.length co39 : Value).ownBlock ∧ some k_ ≠ (.slice (some ad389) t386.length co77 : Value).ownBlock)) (by (with_reducible repeat (first | apply Kd.R_alloc | apply Kd.R_drewN | apply Kd.R_drew)); exact Kd.R_mono HO_77.out (fun _ hk => ⟨⟨hk.2, hk.1.2⟩, hk.1.1⟩)) hg hat); have n2_ := Aside0.mk (Kd.R_after (ok := (fun k_ => some k_ ≠ (.slice (some ⟨go49, 0, none⟩) x8_5.length co39 : Value).ownBlock ∧ some k_ ≠ (.slice (some ad385) t382.length co68 : Value).ownBlock)) (by (with_reducible repeat (first | apply Kd.R_alloc | apply Kd.R_drewN | apply Kd.R_drew)); exact Kd.R_mono HO_85.out (fun _ hk => ⟨⟨hk.2, hk.1.2⟩, hk.1.1⟩)) hg hat); have n3_ := Aside0.mk (blk_grown (g := gb364) (o := .cells #[.int .i64 a0_0, .slice A0_1 l0_1.length c0_1] 39 (0, 0)) (bk_ BK364.out) hg (Kd.R_ne HO_11.out BK364.out (by decide))); have n4_ := Aside0.mk (blk_grown (g := gb365) (o := .cells #[.int .i64 a1_0, .int .i64 a1_1] 49 (0, 0)) (bk_ BK365.out) hg (Kd.R_ne HO_11.out BK365.out (by decide))); have n5_ := Aside0.mk (blk_grown (g := gb366) (o := .cells #[.int .i64 a2_0, .int .i64 a2_1] 49 (0, 0)) (bk_ BK366.out) hg (Kd.R_ne HO_11.out BK366.out (by decide))); have n6_ := Aside0.mk (hb); have n7_ := Aside0.mk (ho); clear HO_8; clear HO_77; clear HO_85; clear BK364; clear BK365; clear BK366; clear HB; clear HO_11; have HO_8 := n0_; have HO_77 := n1_; have HO_85 := n2_; have BK364 := n3_; have BK365 := n4_; have BK366 := n5_; have HB := n6_; have HO396 := n7_; clear n0_ n1_ n2_ n3_ n4_ n5_ n6_ n7_; clear ho hb hg hat))
                                      (try simp only [← hl8_5])
                                      go_roundg k5
                                      case measure => have := HJ3.out; have := HK2.out; have := HK3.out; have := HK4.out; have := HK5.out; omega
                                      case rel => exact ⟨(y393), (y394), (wrap64 (x87_5 + 1)), es_, H', ⟨by have := HJ3.out; have := HK2.out; have := HK3.out; have := HK4.out; have := HK5.out; omega⟩, ⟨by (try simp only [hl8_2]); (try simp only [hl8_3]); (try simp only [hl8_4]); (try simp only [hl8_5]); (with_reducible repeat (first | apply Kd.R_alloc | apply Kd.R_drewN | apply Kd.R_drew)); exact Kd.R_mono HO_8.out (fun _ hk => ⟨hk.2, ⟨hk.1.1, hk.1.2⟩⟩)⟩, ⟨by (try simp only [hl8_2]); (try simp only [hl8_3]); (try simp only [hl8_4]); (try simp only [hl8_5]); (with_reducible repeat (first | apply Kd.R_alloc | apply Kd.R_drewN | apply Kd.R_drew)); exact HO396.out⟩, ⟨by (try simp only [hl8_2]); (try simp only [hl8_3]); (try simp only [hl8_4]); (try simp only [hl8_5]); (with_reducible repeat (first | apply Kd.R_alloc | apply Kd.R_drewN | apply Kd.R_drew)); exact Kd.R_mono HO_77.out (fun _ hk => ⟨hk.1.1, ⟨hk.2, hk.1.2⟩⟩)⟩, ⟨by (try simp only [hl8_2]); (try simp only [hl8_3]); (try simp only [hl8_4]); (try simp only [hl8_5]); (with_reducible repeat (first | apply Kd.R_alloc | apply Kd.R_drewN | apply Kd.R_drew)); exact Kd.R_mono HO_85.out (fun _ hk => ⟨hk.1.1, ⟨hk.2, hk.1.2⟩⟩)⟩, ⟨by (try simp only [hl8_2]); (try simp only [hl8_3]); (try simp only [hl8_4]); (try simp only [hl8_5]); (with_reducible repeat (first | refine blk_drewN ?_ _ | refine blk_drew ?_ | refine blk_alloc ?_ _)); exact BK364.out⟩, ⟨by (try simp only [hl8_2]); (try simp only [hl8_3]); (try simp only [hl8_4]); (try simp only [hl8_5]); (with_reducible repeat (first | refine blk_drewN ?_ _ | refine blk_drew ?_ | refine blk_alloc ?_ _)); exact BK365.out⟩, ⟨by (try simp only [hl8_2]); (try simp only [hl8_3]); (try simp only [hl8_4]); (try simp only [hl8_5]); (with_reducible repeat (first | refine blk_drewN ?_ _ | refine blk_drew ?_ | refine blk_alloc ?_ _)); exact BK366.out⟩, ⟨hb_⟩⟩
                                     ·rw [if_neg c93] at H
                                      exact absurd H (by simp)
                                    ·rw [if_neg c91] at H
                                     exact absurd H (by simp)
                                   ·rw [if_neg c90] at H
                                    exact absurd H (by simp)
                                  ·rw [if_neg c89] at H
                                   exact absurd H (by simp)
                                 ·rw [if_neg c88] at H
                                  exact absurd H (by simp)
                               ·rw [if_neg c86] at H
                                exact absurd H (by simp)
                              ·rw [if_neg c85] at H
                               exact absurd H (by simp)
                            ·rw [if_neg c82] at H
                             have c82b0 : ((rd t382 x79_4) == (Int.tmod (rd x11_3 x12_3) (l0_1.length : Int))) = false := beq_eq_false_iff_ne.mpr c82
                             (try simp only [hl8_2] at c82b0)
                             (try simp only [hl8_3] at c82b0)
                             (try simp only [hl8_4] at c82b0)
                             (try simp only [hl8_5] at c82b0)
                             have c82b1 : ((rd t382 x79_4) != (Int.tmod (rd x11_3 x12_3) (l0_1.length : Int))) = true := bne_iff_ne.mpr c82
                             (try simp only [hl8_2] at c82b1)
                             (try simp only [hl8_3] at c82b1)
                             (try simp only [hl8_4] at c82b1)
                             (try simp only [hl8_5] at c82b1)
                             obtain ⟨ji98, hji98⟩ : ∃ j_ : Int, (wrap64 ((wrap64 ((rd t382 x79_4) * (l0_1.length : Int))) + (rd t386 x87_5))) = j_ := ⟨_, rfl⟩
                             replace H : (if 0 ≤ (ji98) then (if (ji98) < (x8_5.length : Int) then (if (rd x8_5 (ji98)) ≥ 0 then (spec_JointTicks.l3 k5 (l0_1.length : Int) x8_5 x11_5 x12_3 (wrap64 (Int.tdiv (rd x11_3 x12_3) (l0_1.length : Int))) (Int.tmod (rd x11_3 x12_3) (l0_1.length : Int)) (rd t382 x79_4) t382 (t382.length : Int) x79_4 t386 (t386.length : Int) (wrap64 (x87_5 + 1)) a0_0 l0_1 a1_0 a1_1 a2_0 a2_1) else (if 0 ≤ x12_3 then (if x12_3 < (x11_5.length : Int) then (if 0 ≤ (rd x11_5 x12_3) then (if (rd x11_5 x12_3) < (x8_5.length : Int) then (if x11_5.length < 17592186044416 then (spec_JointTicks.l3 k5 (l0_1.length : Int) (x8_5.set ((ji98) : Int).toNat (wrap64 ((rd x8_5 (rd x11_5 x12_3)) + 1))) (x11_5 ++ [ji98]) x12_3 (wrap64 (Int.tdiv (rd x11_3 x12_3) (l0_1.length : Int))) (Int.tmod (rd x11_3 x12_3) (l0_1.length : Int)) (rd t382 x79_4) t382 (t382.length : Int) x79_4 t386 (t386.length : Int) (wrap64 (x87_5 + 1)) a0_0 l0_1 a1_0 a1_1 a2_0 a2_1) else (none)) else (none)) else (none)) else (none)) else (none))) else (none)) else (none)) = some r := by first | (rw [hji98] at H; exact H) | (simp only [hji98] at H ⊢; exact H)
                             have hji98w : (IntKind.i64.wrap ((wrap64 ((rd t382 x79_4) * (l0_1.length : Int))) + (rd t386 x87_5))) = ji98 := (i64_w _).trans hji98
                             by_cases c99 : 0 ≤ (ji98)
                             ·rw [if_pos c99] at H
                              have c99b0 : decide (0 ≤ (ji98)) = true := decide_eq_true c99
                              clear c99
                              by_cases c100 : (ji98) < (x8_5.length : Int)
                              ·rw [if_pos c100] at H
                               have c100b0 : decide ((ji98) < (x8_5.length : Int)) = true := decide_eq_true c100
                               (try simp only [hl8_2] at c100b0)
                               (try simp only [hl8_3] at c100b0)
                               (try simp only [hl8_4] at c100b0)
                               (try simp only [hl8_5] at c100b0)
                               clear c100
                               by_cases c101 : (rd x8_5 (ji98)) ≥ 0
                               ·rw [if_pos c101] at H
                                have c101b0 : decide (0 ≤ (rd x8_5 (ji98))) = true := decide_eq_true c101
                                clear c101
                                have H' := Aside0.mk H
                                clear H
                                have p389 : 0 ≤ (x87_5 : Int) := of_decide_eq_true as_
                                have q389 : x87_5 < (t386.length : Int) := of_decide_eq_true as_
                                obtain ⟨ad389, e389, hx389_0⟩ := Kd.at_int (Kd.R_reads' HO_85.out).2.2 x87_5 p389 q389
                                cases e389
                                replace p389 := eq_true p389
                                replace q389 := eq_true q389
                                have p397 : 0 ≤ ((ji98) : Int) := of_decide_eq_true as_
                                have q397 : (ji98) < (x8_5.length : Int) := of_decide_eq_true as_
                                obtain ⟨ad397, e397, hx397_0⟩ := Kd.at_int (Kd.R_reads' HO_8.out).2.2 (ji98) p397 q397
                                obtain rfl : (⟨go49, 0, none⟩ : Addr) = ad397 := (by injection e397)
                                (first | simp only [add_plain] at hx397_0 | simp only [add_at] at hx397_0 | simp only [Addr.add, Nat.zero_add] at hx397_0 | skip)
                                replace p397 := eq_true p397
                                replace q397 := eq_true q397
                                go_wp2
                                (try simp only [← hl8_5])
                                go_roundg k5
                                case measure => have := HJ3.out; have := HK2.out; have := HK3.out; have := HK4.out; have := HK5.out; omega
                                case rel => exact ⟨(x8_5), (x11_5), (wrap64 (x87_5 + 1)), es_, H', ⟨by have := HJ3.out; have := HK2.out; have := HK3.out; have := HK4.out; have := HK5.out; omega⟩, ⟨by (try simp only [hl8_2]); (try simp only [hl8_3]); (try simp only [hl8_4]); (try simp only [hl8_5]); (with_reducible repeat (first | apply Kd.R_alloc | apply Kd.R_drewN | apply Kd.R_drew)); exact HO_8.out⟩, ⟨by (try simp only [hl8_2]); (try simp only [hl8_3]); (try simp only [hl8_4]); (try simp only [hl8_5]); (with_reducible repeat (first | apply Kd.R_alloc | apply Kd.R_drewN | apply Kd.R_drew)); exact HO_11.out⟩, ⟨by (try simp only [hl8_2]); (try simp only [hl8_3]); (try simp only [hl8_4]); (try simp only [hl8_5]); (with_reducible repeat (first | apply Kd.R_alloc | apply Kd.R_drewN | apply Kd.R_drew)); exact HO_77.out⟩, ⟨by (try simp only [hl8_2]); (try simp only [hl8_3]); (try simp only [hl8_4]); (try simp only [hl8_5]); (with_reducible repeat (first | apply Kd.R_alloc | apply Kd.R_drewN | apply Kd.R_drew)); exact HO_85.out⟩, ⟨by (try simp only [hl8_2]); (try simp only [hl8_3]); (try simp only [hl8_4]); (try simp only [hl8_5]); (with_reducible repeat (first | refine blk_drewN ?_ _ | refine blk_drew ?_ | refine blk_alloc ?_ _)); exact BK364.out⟩, ⟨by (try simp only [hl8_2]); (try simp only [hl8_3]); (try simp only [hl8_4]); (try simp only [hl8_5]); (with_reducible repeat (first | refine blk_drewN ?_ _ | refine blk_drew ?_ | refine blk_alloc ?_ _)); exact BK365.out⟩, ⟨by (try simp only [hl8_2]); (try simp only [hl8_3]); (try simp only [hl8_4]); (try simp only [hl8_5]); (with_reducible repeat (first | refine blk_drewN ?_ _ | refine blk_drew ?_ | refine blk_alloc ?_ _)); exact BK366.out⟩, ⟨hb_⟩⟩
                               ·rw [if_neg c101] at H
                                have c101b0 : decide (0 ≤ (rd x8_5 (ji98))) = false := decide_eq_false c101
                                clear c101
                                by_cases c102 : 0 ≤ x12_3
                                ·rw [if_pos c102] at H
                                 have c102b0 : decide (0 ≤ x12_3) = true := decide_eq_true c102
                                 clear c102
                                 by_cases c103 : x12_3 < (x11_5.length : Int)
                                 ·rw [if_pos c103] at H
                                  have c103b0 : decide (x12_3 < (x11_5.length : Int)) = true := decide_eq_true c103
                                  (try simp only [hl8_2] at c103b0)
                                  (try simp only [hl8_3] at c103b0)
                                  (try simp only [hl8_4] at c103b0)
                                  (try simp only [hl8_5] at c103b0)
                                  clear c103
                                  by_cases c104 : 0 ≤ (rd x11_5 x12_3)
                                  ·rw [if_pos c104] at H
                                   have c104b0 : decide (0 ≤ (rd x11_5 x12_3)) = true := decide_eq_true c104
                                   clear c104
                                   by_cases c105 : (rd x11_5 x12_3) < (x8_5.length : Int)
                                   ·rw [if_pos c105] at H
                                    have c105b0 : decide ((rd x11_5 x12_3) < (x8_5.length : Int)) = true := decide_eq_true c105
                                    (try simp only [hl8_2] at c105b0)
                                    (try simp only [hl8_3] at c105b0)
                                    (try simp only [hl8_4] at c105b0)
                                    (try simp only [hl8_5] at c105b0)
                                    clear c105
                                    obtain ⟨y400, hy400⟩ : ∃ y_ : List Int, y_ = (x8_5.set ((ji98) : Int).toNat (wrap64 ((rd x8_5 (rd x11_5 x12_3)) + 1))) := ⟨_, rfl⟩
                                    replace H : (if x11_5.length < 17592186044416 then (spec_JointTicks.l3 k5 (l0_1.length : Int) y400 (x11_5 ++ [ji98]) x12_3 (wrap64 (Int.tdiv (rd x11_3 x12_3) (l0_1.length : Int))) (Int.tmod (rd x11_3 x12_3) (l0_1.length : Int)) (rd t382 x79_4) t382 (t382.length : Int) x79_4 t386 (t386.length : Int) (wrap64 (x87_5 + 1)) a0_0 l0_1 a1_0 a1_1 a2_0 a2_1) else (none)) = some r := by first | (rw [hy400]; with_reducible exact H) | (have H2_ := (Option.bind_some _ _).symm.trans H; rw [hy400]; with_reducible exact H2_) | (have H2_ := (Option.bind_some _ _).symm.trans H; with_reducible exact H2_) | with_reducible exact H | (rw [hy400]; exact H) | exact H
                                    have Ny400 := Aside0.mk hy400
                                    clear hy400
                                    by_cases c107 : x11_5.length < 17592186044416
                                    ·rw [if_pos c107] at H
                                     have LMc107 := Aside0.mk c107
                                     clear c107
                                     obtain ⟨y401, hy401⟩ : ∃ y_ : List Int, y_ = (x11_5 ++ [ji98]) := ⟨_, rfl⟩
                                     replace H : (spec_JointTicks.l3 k5 (l0_1.length : Int) y400 y401 x12_3 (wrap64 (Int.tdiv (rd x11_3 x12_3) (l0_1.length : Int))) (Int.tmod (rd x11_3 x12_3) (l0_1.length : Int)) (rd t382 x79_4) t382 (t382.length : Int) x79_4 t386 (t386.length : Int) (wrap64 (x87_5 + 1)) a0_0 l0_1 a1_0 a1_1 a2_0 a2_1) = some r := by first | (rw [hy401]; with_reducible exact H) | (have H2_ := (Option.bind_some _ _).symm.trans H; rw [hy401]; with_reducible exact H2_) | (have H2_ := (Option.bind_some _ _).symm.trans H; with_reducible exact H2_) | with_reducible exact H | (rw [hy401]; exact H) | exact H
                                     have Ny401 := Aside0.mk hy401
                                     clear hy401
                                     have H' := Aside0.mk H
                                     clear H
                                     have p389 : 0 ≤ (x87_5 : Int) := of_decide_eq_true as_
                                     have q389 : x87_5 < (t386.length : Int) := of_decide_eq_true as_
                                     obtain ⟨ad389, e389, hx389_0⟩ := Kd.at_int (Kd.R_reads' HO_85.out).2.2 x87_5 p389 q389
                                     cases e389
                                     replace p389 := eq_true p389
                                     replace q389 := eq_true q389
                                     have p397 : 0 ≤ ((ji98) : Int) := of_decide_eq_true as_
                                     have q397 : (ji98) < (x8_5.length : Int) := of_decide_eq_true as_
                                     obtain ⟨ad397, e397, hx397_0⟩ := Kd.at_int (Kd.R_reads' HO_8.out).2.2 (ji98) p397 q397
                                     obtain rfl : (⟨go49, 0, none⟩ : Addr) = ad397 := (by injection e397)
                                     (first | simp only [add_plain] at hx397_0 | simp only [add_at] at hx397_0 | simp only [Addr.add, Nat.zero_add] at hx397_0 | skip)
                                     replace p397 := eq_true p397
                                     replace q397 := eq_true q397
                                     obtain ⟨Ao108, co108, eo108⟩ := Kd.R_slice HO_11.out
                                     subst eo108
                                     have p398 : 0 ≤ (x12_3 : Int) := of_decide_eq_true as_
                                     have q398 : x12_3 < (x11_5.length : Int) := of_decide_eq_true as_
                                     obtain ⟨ad398, e398, hx398_0⟩ := Kd.at_int (Kd.R_reads' HO_11.out).2.2 x12_3 p398 q398
                                     cases e398
                                     replace p398 := eq_true p398
                                     replace q398 := eq_true q398
                                     have p399 : 0 ≤ ((rd x11_5 x12_3) : Int) := of_decide_eq_true as_
                                     have q399 : (rd x11_5 x12_3) < (x8_5.length : Int) := of_decide_eq_true as_
                                     obtain ⟨ad399, e399, hx399_0⟩ := Kd.at_int (Kd.R_reads' HO_8.out).2.2 (rd x11_5 x12_3) p399 q399
                                     obtain rfl : (⟨go49, 0, none⟩ : Addr) = ad399 := (by injection e399)
                                     (first | simp only [add_plain] at hx399_0 | simp only [add_at] at hx399_0 | simp only [Addr.add, Nat.zero_add] at hx399_0 | skip)
                                     replace p399 := eq_true p399
                                     replace q399 := eq_true q399
                                     have p106 : 0 ≤ ((ji98) : Int) := of_decide_eq_true as_
                                     have q106 : ((ji98) : Int) < ((x8_5.length : Int) : Int) := of_decide_eq_true as_
                                     obtain ⟨hx106_0, hf106_0⟩ := Kd.R_celln 0 HO_8.out ((ji98) : Int) p106 q106
                                     replace p106 := eq_true p106
                                     replace q106 := eq_true q106
                                     have HP109 := Kd.R_putg HO_8.out ((ji98) : Int) (wrap64 ((rd x8_5 (rd x11_5 x12_3)) + 1))
                                     go_wp2_with (first | ((with_reducible refine gate_store (t := 3) (p := 129) rfl ?_); refine store_event (t := 3) (p := 129) (v := ?vo_w110) (w1 := (wr.setCell ⟨go49, ((ji98) : Int).toNat, none⟩ (.int .i64 (wrap64 ((rd x8_5 (rd x11_5 x12_3)) + 1))))) ?hg ?ho ?hn ?hr ?_; (case ho => rfl); (case hg => rfl); (case hn => rfl); (case hr => first | (go_simp; done) | (go_simp; rfl)); intro w110 hw; have hg : wr.grownBy w110 (some go49) := (by rw [hw]; exact HP109.2); have hp_ : Kd.R (Kd.int .i64) 3 w110 w.heap.size (fun k_ => some k_ ≠ (.slice (some ad398) x11_5.length co108 : Value).ownBlock ∧ some k_ ≠ (.slice (some ad385) t382.length co68 : Value).ownBlock ∧ some k_ ≠ (.slice (some ad389) t386.length co77 : Value).ownBlock) (.slice (some ⟨go49, 0, none⟩) x8_5.length co39) y400 := (by rw [hw, Ny400.out]; exact HP109.1); clear HP109; have n0_ := Aside0.mk (hp_); have n1_ := Aside0.mk (Kd.R_after (v := (.slice (some ⟨go49, 0, none⟩) x8_5.length co39)) (v1 := (.slice (some ⟨go49, 0, none⟩) x8_5.length co39)) (ok := (fun k_ => some k_ ≠ (.slice (some ad385) t382.length co68 : Value).ownBlock ∧ some k_ ≠ (.slice (some ad389) t386.length co77 : Value).ownBlock)) (by (with_reducible repeat (first | apply Kd.R_alloc | apply Kd.R_drewN | apply Kd.R_drew)); exact Kd.R_mono HO_11.out (fun _ hk => ⟨⟨hk.2.1, hk.2.2⟩, hk.1⟩)) hg (.inl rfl)); have n2_ := Aside0.mk (Kd.R_after (v := (.slice (some ⟨go49, 0, none⟩) x8_5.length co39)) (v1 := (.slice (some ⟨go49, 0, none⟩) x8_5.length co39)) (ok := (fun k_ => some k_ ≠ (.slice (some ad398) x11_5.length co108 : Value).ownBlock ∧ some k_ ≠ (.slice (some ad389) t386.length co77 : Value).ownBlock)) (by (with_reducible repeat (first | apply Kd.R_alloc | apply Kd.R_drewN | apply Kd.R_drew)); exact Kd.R_mono HO_77.out (fun _ hk => ⟨⟨hk.2.1, hk.2.2⟩, hk.1⟩)) hg (.inl rfl)); have n3_ := Aside0.mk (Kd.R_after (v := (.slice (some ⟨go49, 0, none⟩) x8_5.length co39)) (v1 := (.slice (some ⟨go49, 0, none⟩) x8_5.length co39)) (ok := (fun k_ => some k_ ≠ (.slice (some ad398) x11_5.length co108 : Value).ownBlock ∧ some k_ ≠ (.slice (some ad385) t382.length co68 : Value).ownBlock)) (by (with_reducible repeat (first | apply Kd.R_alloc | apply Kd.R_drewN | apply Kd.R_drew)); exact Kd.R_mono HO_85.out (fun _ hk => ⟨⟨hk.2.1, hk.2.2⟩, hk.1⟩)) hg (.inl rfl)); have n4_ := Aside0.mk (blk_grown (g := gb364) (o := .cells #[.int .i64 a0_0, .slice A0_1 l0_1.length c0_1] 39 (0, 0)) (bk_ BK364.out) hg (Kd.R_ne HO_8.out BK364.out (by decide))); have n5_ := Aside0.mk (blk_grown (g := gb365) (o := .cells #[.int .i64 a1_0, .int .i64 a1_1] 49 (0, 0)) (bk_ BK365.out) hg (Kd.R_ne HO_8.out BK365.out (by decide))); have n6_ := Aside0.mk (blk_grown (g := gb366) (o := .cells #[.int .i64 a2_0, .int .i64 a2_1] 49 (0, 0)) (bk_ BK366.out) hg (Kd.R_ne HO_8.out BK366.out (by decide))); have n7_ := Aside0.mk ((by rw [hw]; exact below_set (HB.out) GB49.out : Below w.heap.size w w110)); clear HO_8; clear HO_11; clear HO_77; clear HO_85; clear BK364; clear BK365; clear BK366; clear HB; have HO_8 := n0_; have HO_11 := n1_; have HO_77 := n2_; have HO_85 := n3_; have BK364 := n4_; have BK365 := n5_; have BK366 := n6_; have HB := n7_; clear n0_ n1_ n2_ n3_ n4_ n5_ n6_ n7_; clear hg hw hp_) | ((with_reducible refine gate_builtin (b := .append) (xs := #[.tmp 130, .tmp 136]) rfl ?_); at_builtin; refine Kd.R_append (Kd.int .i64) (w0 := w) w.heap.size rfl (.tmp 130) (.tmp 136) 22 3 (.int .i64 0) 8 rfl Try.underlying22 info3 rfl (by decide) (by omega) (.slice (some ad398) x11_5.length co108) x11_5 ji98 [.int .i64 ji98] (fun k_ => some k_ ≠ (.slice (some ⟨go49, 0, none⟩) x8_5.length co39 : Value).ownBlock ∧ some k_ ≠ (.slice (some ad385) t382.length co68 : Value).ownBlock ∧ some k_ ≠ (.slice (some ad389) t386.length co77 : Value).ownBlock) (fun _ => False) rfl rfl ?aP (fun _ hk => hk.elim) ?aF ?aO ?aB ?aS ?aL ?_; (case aP => exact rfl); (case aB => exact hb_); (case aF => exact (fun k_ hk => ⟨Kd.fresh' (Kd.R_lt (ra_ HO_8.out)) k_ hk, Kd.fresh' (Kd.R_lt (ra_ HO_77.out)) k_ hk, Kd.fresh' (Kd.R_lt (ra_ HO_85.out)) k_ hk⟩)); (case aO => exact (by (with_reducible repeat (first | apply Kd.R_alloc | apply Kd.R_drewN | apply Kd.R_drew)); exact Kd.R_mono HO_11.out (fun _ hk => ⟨hk.2, ⟨hk.1.1, hk.1.2⟩⟩))); (case aS => exact (below_size hb_)); (case aL => have := LMc107.out; omega); intro v402 w111 ho hb hg hat; rw [← Ny401.out] at ho; have n0_ := Aside0.mk (Kd.R_after (ok := (fun k_ => some k_ ≠ (.slice (some ad385) t382.length co68 : Value).ownBlock ∧ some k_ ≠ (.slice (some ad389) t386.length co77 : Value).ownBlock)) (by (with_reducible repeat (first | apply Kd.R_alloc | apply Kd.R_drewN | apply Kd.R_drew)); exact Kd.R_mono HO_8.out (fun _ hk => ⟨⟨hk.2.1, hk.2.2⟩, hk.1⟩)) hg hat); have n1_ := Aside0.mk (Kd.R_after (ok := (fun k_ => some k_ ≠ (.slice (some ⟨go49, 0, none⟩) x8_5.length co39 : Value).ownBlock ∧ some k_ ≠ (.slice (some ad389) t386.length co77 : Value).ownBlock)) (by (with_reducible repeat (first | apply Kd.R_alloc | apply Kd.R_drewN | apply Kd.R_drew)); exact Kd.R_mono HO_77.out (fun _ hk => ⟨⟨hk.2, hk.1.2⟩, hk.1.1⟩)) hg hat); have n2_ := Aside0.mk (Kd.R_after (ok := (fun k_ => some k_ ≠ (.slice (some ⟨go49, 0, none⟩) x8_5.length co39 : Value).ownBlock ∧ some k_ ≠ (.slice (some ad385) t382.length co68 : Value).ownBlock)) (by (with_reducible repeat (first | apply Kd.R_alloc | apply Kd.R_drewN | apply Kd.R_drew)); exact Kd.R_mono HO_85.out (fun _ hk => ⟨⟨hk.2, hk.1.2⟩, hk.1.1⟩)) hg hat); have n3_ := Aside0.mk (blk_grown (g := gb364) (o := .cells #[.int .i64 a0_0, .slice A0_1 l0_1.length c0_1] 39 (0, 0)) (bk_ BK364.out) hg (Kd.R_ne HO_11.out BK364.out (by decide))); have n4_ := Aside0.mk (blk_grown (g := gb365) (o := .cells #[.int .i64 a1_0, .int .i64 a1_1] 49 (0, 0)) (bk_ BK365.out) hg (Kd.R_ne HO_11.out BK365.out (by decide))); have n5_ := Aside0.mk (blk_grown (g := gb366) (o := .cells #[.int .i64 a2_0, .int .i64 a2_1] 49 (0, 0)) (bk_ BK366.out) hg (Kd.R_ne HO_11.out BK366.out (by decide))); have n6_ := Aside0.mk (hb); have n7_ := Aside0.mk (ho); clear HO_8; clear HO_77; clear HO_85; clear BK364; clear BK365; clear BK366; clear HB; clear HO_11; have HO_8 := n0_; have HO_77 := n1_; have HO_85 := n2_; have BK364 := n3_; have BK365 := n4_; have BK366 := n5_; have HB := n6_; have HO403 := n7_; clear n0_ n1_ n2_ n3_ n4_ n5_ n6_ n7_; clear ho hb hg hat))
                                     (try simp only [← hl8_5])
                                     go_roundg k5
                                     case measure => have := HJ3.out; have := HK2.out; have := HK3.out; have := HK4.out; have := HK5.out; omega
                                     case rel => exact ⟨(y400), (y401), (wrap64 (x87_5 + 1)), es_, H', ⟨by have := HJ3.out; have := HK2.out; have := HK3.out; have := HK4.out; have := HK5.out; omega⟩, ⟨by (try simp only [hl8_2]); (try simp only [hl8_3]); (try simp only [hl8_4]); (try simp only [hl8_5]); (with_reducible repeat (first | apply Kd.R_alloc | apply Kd.R_drewN | apply Kd.R_drew)); exact Kd.R_mono HO_8.out (fun _ hk => ⟨hk.2, ⟨hk.1.1, hk.1.2⟩⟩)⟩, ⟨by (try simp only [hl8_2]); (try simp only [hl8_3]); (try simp only [hl8_4]); (try simp only [hl8_5]); (with_reducible repeat (first | apply Kd.R_alloc | apply Kd.R_drewN | apply Kd.R_drew)); exact HO403.out⟩, ⟨by (try simp only [hl8_2]); (try simp only [hl8_3]); (try simp only [hl8_4]); (try simp only [hl8_5]); (with_reducible repeat (first | apply Kd.R_alloc | apply Kd.R_drewN | apply Kd.R_drew)); exact Kd.R_mono HO_77.out (fun _ hk => ⟨hk.1.1, ⟨hk.2, hk.1.2⟩⟩)⟩, ⟨by (try simp only [hl8_2]); (try simp only [hl8_3]); (try simp only [hl8_4]); (try simp only [hl8_5]); (with_reducible repeat (first | apply Kd.R_alloc | apply Kd.R_drewN | apply Kd.R_drew)); exact Kd.R_mono HO_85.out (fun _ hk => ⟨hk.1.1, ⟨hk.2, hk.1.2⟩⟩)⟩, ⟨by (try simp only [hl8_2]); (try simp only [hl8_3]); (try simp only [hl8_4]); (try simp only [hl8_5]); (with_reducible repeat (first | refine blk_drewN ?_ _ | refine blk_drew ?_ | refine blk_alloc ?_ _)); exact BK364.out⟩, ⟨by (try simp only [hl8_2]); (try simp only [hl8_3]); (try simp only [hl8_4]); (try simp only [hl8_5]); (with_reducible repeat (first | refine blk_drewN ?_ _ | refine blk_drew ?_ | refine blk_alloc ?_ _)); exact BK365.out⟩, ⟨by (try simp only [hl8_2]); (try simp only [hl8_3]); (try simp only [hl8_4]); (try simp only [hl8_5]); (with_reducible repeat (first | refine blk_drewN ?_ _ | refine blk_drew ?_ | refine blk_alloc ?_ _)); exact BK366.out⟩, ⟨hb_⟩⟩
                                    ·rw [if_neg c107] at H
                                     exact absurd H (by simp)
                                   ·rw [if_neg c105] at H
                                    exact absurd H (by simp)
                                  ·rw [if_neg c104] at H
                                   exact absurd H (by simp)
                                 ·rw [if_neg c103] at H
                                  exact absurd H (by simp)
                                ·rw [if_neg c102] at H
                                 exact absurd H (by simp)
                              ·rw [if_neg c100] at H
                               exact absurd H (by simp)
                             ·rw [if_neg c99] at H
                              exact absurd H (by simp)
                          ·rw [if_neg c80] at H
                           exact absurd H (by simp)
                         ·rw [if_neg c79] at H
                          exact absurd H (by simp)
                        ·rw [if_neg c78] at H
                         have c78b0 : decide (x87_5 < (t386.length : Int)) = false := decide_eq_false c78
                         (try simp only [hl8_2] at c78b0)
                         (try simp only [hl8_3] at c78b0)
                         (try simp only [hl8_4] at c78b0)
                         (try simp only [hl8_5] at c78b0)
                         clear c78
                         have H' := Aside0.mk H
                         clear H
                         go_wp2
                         (try simp only [← hl8_4, ← hl8_5])
                         go_roundg k5
                         case measure => have := HJ3.out; have := HK2.out; have := HK3.out; have := HK4.out; have := HK5.out; omega
                         case rel => exact ⟨(x8_5), (x11_5), (wrap64 (x79_4 + 1)), es_, H', ⟨by have := HJ3.out; have := HK2.out; have := HK3.out; have := HK4.out; have := HK5.out; omega⟩, ⟨by (try simp only [hl8_2]); (try simp only [hl8_3]); (try simp only [hl8_4]); (try simp only [hl8_5]); (with_reducible repeat (first | apply Kd.R_alloc | apply Kd.R_drewN | apply Kd.R_drew)); exact Kd.R_mono HO_8.out (fun _ hk => ⟨hk.1, hk.2.1⟩)⟩, ⟨by (try simp only [hl8_2]); (try simp only [hl8_3]); (try simp only [hl8_4]); (try simp only [hl8_5]); (with_reducible repeat (first | apply Kd.R_alloc | apply Kd.R_drewN | apply Kd.R_drew)); exact Kd.R_mono HO_11.out (fun _ hk => ⟨hk.1, hk.2.1⟩)⟩, ⟨by (try simp only [hl8_2]); (try simp only [hl8_3]); (try simp only [hl8_4]); (try simp only [hl8_5]); (with_reducible repeat (first | apply Kd.R_alloc | apply Kd.R_drewN | apply Kd.R_drew)); exact Kd.R_mono HO_77.out (fun _ hk => ⟨hk.1, hk.2.1⟩)⟩, ⟨by (try simp only [hl8_2]); (try simp only [hl8_3]); (try simp only [hl8_4]); (try simp only [hl8_5]); (with_reducible repeat (first | refine blk_drewN ?_ _ | refine blk_drew ?_ | refine blk_alloc ?_ _)); exact BK364.out⟩, ⟨by (try simp only [hl8_2]); (try simp only [hl8_3]); (try simp only [hl8_4]); (try simp only [hl8_5]); (with_reducible repeat (first | refine blk_drewN ?_ _ | refine blk_drew ?_ | refine blk_alloc ?_ _)); exact BK365.out⟩, ⟨by (try simp only [hl8_2]); (try simp only [hl8_3]); (try simp only [hl8_4]); (try simp only [hl8_5]); (with_reducible repeat (first | refine blk_drewN ?_ _ | refine blk_drew ?_ | refine blk_alloc ?_ _)); exact BK366.out⟩, ⟨hb_⟩⟩
                     ·rw [if_neg c71] at H
                      exact absurd H (by simp)
                    ·rw [if_neg c70] at H
                     exact absurd H (by simp)
                   ·rw [if_neg c69] at H
                    have c69b0 : decide (x79_4 < (t382.length : Int)) = false := decide_eq_false c69
                    (try simp only [hl8_2] at c69b0)
                    (try simp only [hl8_3] at c69b0)
                    (try simp only [hl8_4] at c69b0)
                    clear c69
                    have H' := Aside0.mk H
                    clear H
                    go_wp2
                    (try simp only [← hl8_3, ← hl8_4])
                    go_roundg k4
                    case measure => have := HJ3.out; have := HK2.out; have := HK3.out; have := HK4.out; omega
                    case rel => exact ⟨(x8_4), (x11_4), (wrap64 (x12_3 + 1)), es_, H', ⟨by have := HJ3.out; have := HK2.out; have := HK3.out; have := HK4.out; omega⟩, ⟨by (try simp only [hl8_2]); (try simp only [hl8_3]); (try simp only [hl8_4]); (with_reducible repeat (first | apply Kd.R_alloc | apply Kd.R_drewN | apply Kd.R_drew)); exact Kd.R_mono HO_8.out (fun _ hk => hk.1)⟩, ⟨by (try simp only [hl8_2]); (try simp only [hl8_3]); (try simp only [hl8_4]); (with_reducible repeat (first | apply Kd.R_alloc | apply Kd.R_drewN | apply Kd.R_drew)); exact Kd.R_mono HO_11.out (fun _ hk => hk.1)⟩, ⟨by (try simp only [hl8_2]); (try simp only [hl8_3]); (try simp only [hl8_4]); (with_reducible repeat (first | refine blk_drewN ?_ _ | refine blk_drew ?_ | refine blk_alloc ?_ _)); exact BK364.out⟩, ⟨by (try simp only [hl8_2]); (try simp only [hl8_3]); (try simp only [hl8_4]); (with_reducible repeat (first | refine blk_drewN ?_ _ | refine blk_drew ?_ | refine blk_alloc ?_ _)); exact BK365.out⟩, ⟨by (try simp only [hl8_2]); (try simp only [hl8_3]); (try simp only [hl8_4]); (with_reducible repeat (first | refine blk_drewN ?_ _ | refine blk_drew ?_ | refine blk_alloc ?_ _)); exact BK366.out⟩, ⟨hb_⟩⟩
               ·rw [if_neg c60] at H
                exact absurd H (by simp)
              ·rw [if_neg c59] at H
               have c59b0 : decide (x12_3 < (x11_3.length : Int)) = false := decide_eq_false c59
               (try simp only [hl8_2] at c59b0)
               (try simp only [hl8_3] at c59b0)
               clear c59
               obtain ⟨ji112, hji112⟩ : ∃ j_ : Int, (wrap64 ((wrap64 (a1_1 * (l0_1.length : Int))) + a2_1)) = j_ := ⟨_, rfl⟩
               replace H : (if 0 ≤ (ji112) then (if (ji112) < (x8_3.length : Int) then (some (rd x8_3 (ji112))) else (none)) else (none)) = some r := by first | (rw [hji112] at H; exact H) | (simp only [hji112] at H ⊢; exact H)
               have hji112w : (IntKind.i64.wrap ((wrap64 (a1_1 * (l0_1.length : Int))) + a2_1)) = ji112 := (i64_w _).trans hji112
               by_cases c113 : 0 ≤ (ji112)
               ·rw [if_pos c113] at H
                have c113b0 : decide (0 ≤ (ji112)) = true := decide_eq_true c113
                clear c113
                by_cases c114 : (ji112) < (x8_3.length : Int)
                ·rw [if_pos c114] at H
                 have c114b0 : decide ((ji112) < (x8_3.length : Int)) = true := decide_eq_true c114
                 (try simp only [hl8_2] at c114b0)
                 (try simp only [hl8_3] at c114b0)
                 clear c114
                 obtain rfl := Option.some.inj H
                 obtain ⟨Ao115, co115, eo115⟩ := Kd.R_slice HO_11.out
                 subst eo115
                 have hnb116 := NB365_364.out
                 have hnc116 := NB364_365.out
                 have hnb117 := NB365_366.out
                 have hnc117 := NB366_365.out
                 have hcz118_0 : wr.cell? ⟨gb365, 0, none⟩ = some (.int .i64 a1_0) := (blk_cell BK365.out 0).trans rfl
                 have hcz118_1 : wr.cell? ⟨gb365, 1, none⟩ = some (.int .i64 a1_1) := (blk_cell BK365.out 1).trans rfl
                 have hfz118_0 := blk_frozen BK365.out 0
                 have hfz118_1 := blk_frozen BK365.out 1
                 have hnb119 := NB366_364.out
                 have hnc119 := NB364_366.out
                 have hcz120_0 : wr.cell? ⟨gb366, 0, none⟩ = some (.int .i64 a2_0) := (blk_cell BK366.out 0).trans rfl
                 have hcz120_1 : wr.cell? ⟨gb366, 1, none⟩ = some (.int .i64 a2_1) := (blk_cell BK366.out 1).trans rfl
                 have hfz120_0 := blk_frozen BK366.out 0
                 have hfz120_1 := blk_frozen BK366.out 1
                 have p379 : 0 ≤ ((ji112) : Int) := of_decide_eq_true as_
                 have q379 : (ji112) < (x8_3.length : Int) := of_decide_eq_true as_
                 obtain ⟨ad379, e379, hx379_0⟩ := Kd.at_int (Kd.R_reads' HO_8.out).2.2 (ji112) p379 q379
                 obtain rfl : (⟨go49, 0, none⟩ : Addr) = ad379 := (by injection e379)
                 (first | simp only [add_plain] at hx379_0 | simp only [add_at] at hx379_0 | simp only [Addr.add, Nat.zero_add] at hx379_0 | skip)
                 replace p379 := eq_true p379
                 replace q379 := eq_true q379
                 go_wp2
                 go_ret
                 exact ⟨by first | rfl | (simp [errW_none, errW_some] <;> rfl) | (simp only [← hji34, ← hji46, ← hji112]; first | rfl | (simp [errW_none, errW_some] <;> rfl)) | (simp [*, errW_none, errW_some] <;> rfl), hb_⟩
                ·rw [if_neg c114] at H
                 exact absurd H (by simp)
               ·rw [if_neg c113] at H
                exact absurd H (by simp)
           ·rw [if_neg c48] at H
            exact absurd H (by simp)
          ·rw [if_neg c47] at H
           exact absurd H (by simp)
      ·rw [if_neg c36] at H
       exact absurd H (by simp)
     ·rw [if_neg c35] at H
      exact absurd H (by simp)

end Go.Proofs.Ytcldlljnaijmhaa.Pr
/-
Own text: the reference's search, in its own lists, finds what the search in breadth finds.
-/
namespace Go.Proofs.Ytcldlljnaijmhaa.Pure
open Go.RowKit Go.Proofs.YtcldlljnaijmhaaW.PrintWords Go.Proofs.YtcldlljnaijmhaaW.PrintLast Go.Proofs.Ytcldlljnaijmhaa.Pr Go.Proofs.Ytcldlljnaijmhaa.EvKit
open Mp (lk put lk_put)
open Bfs (Run relax open_ open_put)
open Classical

/-- The numbers below n. -/
def Us (n : Nat) : List Int := (List.range n).map (fun i : Nat => (i : Int))
theorem mem_Us {n : Nat} {x : Int} : x ∈ Us n ↔ 0 ≤ x ∧ x < n := by
  unfold Us
  rw [List.mem_map]
  constructor
  · rintro ⟨i, hi, rfl⟩
    have := List.mem_range.1 hi
    omega
  · intro h
    exact ⟨x.toNat, List.mem_range.2 (by omega), by omega⟩
theorem open_le {α : Type} [DecidableEq α] (D : List (α × Int)) (U : List α) : open_ D U ≤ U.length := by
  induction U with
  | nil => exact Nat.le_refl _
  | cons u U ih =>
    simp only [open_, List.length_cons]
    split <;> omega
theorem relax_pre {α : Type} [DecidableEq α] (d : Int) (l : List α) : ∀ (D : List (α × Int)) (A Q : List α), relax d D (A ++ Q) l = ((relax d D Q l).1, A ++ (relax d D Q l).2) := by
  induction l with
  | nil => intro D A Q; rfl
  | cons n l ih =>
    intro D A Q
    simp only [relax]
    split
    · rw [List.append_assoc, ih]
    · exact ih D A Q
/-- The list of the distances tells what is known. -/
def Rel (far : List Int) (n : Nat) (D : List (Int × Int)) : Prop := far.length = n ∧ ∀ x : Int, 0 ≤ x → x < n → rd far x = (lk D x).getD (-1)
theorem Rel.put {far : List Int} {n : Nat} {D : List (Int × Int)} (h : Rel far n D) {x v : Int} (h0 : 0 ≤ x) (h1 : x < n) : Rel (far.set x.toNat v) n (put D x v) := by
  obtain ⟨hl, hr⟩ := h
  refine ⟨by simp [hl], fun y hy0 hy1 => ?_⟩
  rw [lk_put]
  by_cases e : y = x
  · subst e
    unfold rd
    rw [if_pos rfl, List.getD_eq_getElem?_getD, List.getElem?_set_self (by omega)]
    rfl
  · rw [if_neg e, ← hr y hy0 hy1]
    unfold rd
    rw [List.getD_eq_getElem?_getD, List.getD_eq_getElem?_getD, List.getElem?_set_ne (by omega)]
/-- Small numbers. -/
def Low {α : Type} [DecidableEq α] (D : List (α × Int)) (U : List α) (B : Nat) : Prop := ∀ x e, lk D x = some e → 0 ≤ e ∧ e + (open_ D U : Int) ≤ B
theorem Low.put {α : Type} [DecidableEq α] {D : List (α × Int)} {U : List α} {B : Nat} (h : Low D U B) {n c : α} {d : Int} (hc : lk D c = some d) (hn : n ∈ U) (ho : lk D n = none) : Low (put D n (d + 1)) U B := by
  intro x e hx
  rw [lk_put] at hx
  have h1 := (open_put (D := D) (n := n) (d + 1) U).2 hn ho
  split at hx
  · cases hx
    have := h c d hc
    omega
  · have := h x e hx
    omega
theorem relax_mem {α : Type} [DecidableEq α] {d : Int} {C : α → Prop} {l : List α} (hl : ∀ n ∈ l, C n) : ∀ {D : List (α × Int)} {Q : List α}, (∀ q ∈ Q, C q) → ∀ q ∈ (relax d D Q l).2, C q := by
  induction l with
  | nil => intro D Q h; exact h
  | cons n l ih =>
    intro D Q h
    simp only [relax]
    split
    · refine ih (fun n h => hl n (.tail _ h)) (fun q hq => ?_)
      rcases List.mem_append.1 hq with hq | hq
      · exact h q hq
      · rw [List.mem_singleton.1 hq]; exact hl n (.head _)
    · exact ih (fun n h => hl n (.tail _ h)) h
theorem Gos_len (w : Int) (c : List Int) (a : Int) : (Gos w c a).length ≤ 100 := by
  unfold Gos
  refine Nat.le_trans (List.length_filter_le _ _) ?_
  simp
theorem Us_length (n : Nat) : (Us n).length = n := by simp [Us]
end Go.Proofs.Ytcldlljnaijmhaa.Pure
