-- Joined and pruned by wip/tools/prune.py out of this session's own texts (Pr15, HAlong, Pr16, MpEv, HAlone)
import Derived.Test.YtcldlljnaijmhaaZat6
import Derived.Outline
-- Written by this session's own print (wip/tools/mkmp.py) out of the translation. Lean checks it.
namespace Go.Proofs.Ytcldlljnaijmhaa.Pr
open Go.RowKit Go.Proofs.YtcldlljnaijmhaaW.PrintWords Go.Proofs.YtcldlljnaijmhaaW.PrintLast Go.Proofs.YtcldlljnaijmhaaW.PrintMore
attribute [local go_sem] max2_int min2_int max_two min_two max_three min_three max_four min_four   -- for this text's walks alone
set_option linter.unusedVariables false
set_option linter.unusedSimpArgs false

set_option maxHeartbeats 8000000 in
set_option maxRecDepth 100000 in
theorem impl_Cells_next.calls (a0_0 : Int) (A0_1 : Option Addr) (c0_1 : Nat) (l0_1 : List Int) (a1 : Int) (a2 : Int) (a3 : Int) (r : Int) (w : World) (hr0_1 : Kd.C (Kd.int .i64) w A0_1 l0_1.length l0_1) (hc0_1 : l0_1.length ≤ c0_1) (h : impl_Cells_next.f a0_0 l0_1 a1 a2 a3 = some r) :
   Calls Try.prog 77 #[.agg #[.int .i64 a0_0, .slice A0_1 l0_1.length c0_1], .int .i64 a1, .int .i64 a2, .int .i64 a3] w fun e w' => e = .returned (.int .i64 r) ∧ Below w.heap.size w w' := by
  have hu39 := Try.underlying39
  have HR0_1 := Aside0.mk hr0_1
  have HC0_1 := Aside0.mk hc0_1
  clear hr0_1 hc0_1
  have HB := Aside0.mk (Below.refl w.heap.size w)
  have H : (if a0_0 = 0 then (none) else (if (wrap64 ((Int.tmod a1 a0_0) + a2)) < 0 then (some (-1)) else (if (wrap64 ((Int.tmod a1 a0_0) + a2)) ≥ a0_0 then (some (-1)) else (if (wrap64 ((wrap64 (Int.tdiv a1 a0_0)) + a3)) < 0 then (some (-1)) else (if (wrap64 ((wrap64 (Int.tdiv a1 a0_0)) + a3)) ≥ (wrap64 ((l0_1.length : Int) / a0_0)) then (some (-1)) else (some (wrap64 ((wrap64 ((wrap64 ((wrap64 (Int.tdiv a1 a0_0)) + a3)) * a0_0)) + (wrap64 ((Int.tmod a1 a0_0) + a2)))))))))) = some r := h
  clear h
  by_cases c5 : a0_0 = 0
  ·rw [if_pos c5] at H
   exact absurd H (by simp)
  ·rw [if_neg c5] at H
   have c5b0 : (a0_0 == 0) = false := beq_eq_false_iff_ne.mpr c5
   have c5b1 : (a0_0 != 0) = true := bne_iff_ne.mpr c5
   by_cases c6 : (wrap64 ((Int.tmod a1 a0_0) + a2)) < 0
   ·rw [if_pos c6] at H
    have c6b0 : decide ((wrap64 ((Int.tmod a1 a0_0) + a2)) < 0) = true := decide_eq_true c6
    clear c6
    obtain rfl := Option.some.inj H
    go_enter Try.func77, Try.ntmps77
    go_wp2_with (first | ((with_reducible refine gate_dst (N := 4) rfl ?_); (try (refine gate_guard (by rfl) ?_; dsimp only)); refine box_event ?hg (N := 4) ?hd (cs := #[.int .i64 a0_0, .slice A0_1 l0_1.length c0_1]) (t := 39) ?hr ?_; (case hd => rfl); (case hg => rfl); (case hr => first | (go_simp; done) | (go_simp; rfl)); intro gb243 hg w7 hbox hb; have n0_ := Aside0.mk (below_step hb_ hb); have n1_ := Aside0.mk (hbox); have n2_ : Aside0 (w.heap.size ≤ gb243) := gz_; have n3_ : Aside0 (w.heap.size ≤ gb243) := gz_; clear HB; have HB := n0_; have BK243 := n1_; have GW243 := n2_; have GE243 := n3_; clear n0_ n1_ n2_ n3_; clear hb hbox hg; have hcz8_0 : w7.cell? ⟨gb243, 0, none⟩ = some (.int .i64 a0_0) := (blk_cell BK243.out 0).trans rfl; have hcz8_1 : w7.cell? ⟨gb243, 1, none⟩ = some (.slice A0_1 l0_1.length c0_1) := (blk_cell BK243.out 1).trans rfl; have hfz8_0 := blk_frozen BK243.out 0; have hfz8_1 := blk_frozen BK243.out 1))
    repeat (go_quiet (first | ((with_reducible refine gate_dst (N := 4) rfl ?_); (try (refine gate_guard (by rfl) ?_; dsimp only)); refine box_event ?hg (N := 4) ?hd (cs := #[.int .i64 a0_0, .slice A0_1 l0_1.length c0_1]) (t := 39) ?hr ?_; (case hd => rfl); (case hg => rfl); (case hr => first | (go_simp; done) | (go_simp; rfl)); intro gb243 hg w7 hbox hb; have n0_ := Aside0.mk (below_step hb_ hb); have n1_ := Aside0.mk (hbox); have n2_ : Aside0 (w.heap.size ≤ gb243) := gz_; have n3_ : Aside0 (w.heap.size ≤ gb243) := gz_; clear HB; have HB := n0_; have BK243 := n1_; have GW243 := n2_; have GE243 := n3_; clear n0_ n1_ n2_ n3_; clear hb hbox hg; have hcz8_0 : w7.cell? ⟨gb243, 0, none⟩ = some (.int .i64 a0_0) := (blk_cell BK243.out 0).trans rfl; have hcz8_1 : w7.cell? ⟨gb243, 1, none⟩ = some (.slice A0_1 l0_1.length c0_1) := (blk_cell BK243.out 1).trans rfl; have hfz8_0 := blk_frozen BK243.out 0; have hfz8_1 := blk_frozen BK243.out 1)); try go_wp2_with (first | ((with_reducible refine gate_dst (N := 4) rfl ?_); (try (refine gate_guard (by rfl) ?_; dsimp only)); refine box_event ?hg (N := 4) ?hd (cs := #[.int .i64 a0_0, .slice A0_1 l0_1.length c0_1]) (t := 39) ?hr ?_; (case hd => rfl); (case hg => rfl); (case hr => first | (go_simp; done) | (go_simp; rfl)); intro gb243 hg w7 hbox hb; have n0_ := Aside0.mk (below_step hb_ hb); have n1_ := Aside0.mk (hbox); have n2_ : Aside0 (w.heap.size ≤ gb243) := gz_; have n3_ : Aside0 (w.heap.size ≤ gb243) := gz_; clear HB; have HB := n0_; have BK243 := n1_; have GW243 := n2_; have GE243 := n3_; clear n0_ n1_ n2_ n3_; clear hb hbox hg; have hcz8_0 : w7.cell? ⟨gb243, 0, none⟩ = some (.int .i64 a0_0) := (blk_cell BK243.out 0).trans rfl; have hcz8_1 : w7.cell? ⟨gb243, 1, none⟩ = some (.slice A0_1 l0_1.length c0_1) := (blk_cell BK243.out 1).trans rfl; have hfz8_0 := blk_frozen BK243.out 0; have hfz8_1 := blk_frozen BK243.out 1)))
    go_ret
    exact ⟨er_, hb_⟩
   ·rw [if_neg c6] at H
    have c6b0 : decide ((wrap64 ((Int.tmod a1 a0_0) + a2)) < 0) = false := decide_eq_false c6
    clear c6
    by_cases c9 : (wrap64 ((Int.tmod a1 a0_0) + a2)) ≥ a0_0
    ·rw [if_pos c9] at H
     have c9b0 : decide (a0_0 ≤ (wrap64 ((Int.tmod a1 a0_0) + a2))) = true := decide_eq_true c9
     clear c9
     obtain rfl := Option.some.inj H
     go_enter Try.func77, Try.ntmps77
     go_wp2_with (first | ((with_reducible refine gate_dst (N := 4) rfl ?_); (try (refine gate_guard (by rfl) ?_; dsimp only)); refine box_event ?hg (N := 4) ?hd (cs := #[.int .i64 a0_0, .slice A0_1 l0_1.length c0_1]) (t := 39) ?hr ?_; (case hd => rfl); (case hg => rfl); (case hr => first | (go_simp; done) | (go_simp; rfl)); intro gb243 hg w10 hbox hb; have n0_ := Aside0.mk (below_step hb_ hb); have n1_ := Aside0.mk (hbox); have n2_ : Aside0 (w.heap.size ≤ gb243) := gz_; have n3_ : Aside0 (w.heap.size ≤ gb243) := gz_; clear HB; have HB := n0_; have BK243 := n1_; have GW243 := n2_; have GE243 := n3_; clear n0_ n1_ n2_ n3_; clear hb hbox hg; have hcz11_0 : w10.cell? ⟨gb243, 0, none⟩ = some (.int .i64 a0_0) := (blk_cell BK243.out 0).trans rfl; have hcz11_1 : w10.cell? ⟨gb243, 1, none⟩ = some (.slice A0_1 l0_1.length c0_1) := (blk_cell BK243.out 1).trans rfl; have hfz11_0 := blk_frozen BK243.out 0; have hfz11_1 := blk_frozen BK243.out 1))
     repeat (go_quiet (first | ((with_reducible refine gate_dst (N := 4) rfl ?_); (try (refine gate_guard (by rfl) ?_; dsimp only)); refine box_event ?hg (N := 4) ?hd (cs := #[.int .i64 a0_0, .slice A0_1 l0_1.length c0_1]) (t := 39) ?hr ?_; (case hd => rfl); (case hg => rfl); (case hr => first | (go_simp; done) | (go_simp; rfl)); intro gb243 hg w10 hbox hb; have n0_ := Aside0.mk (below_step hb_ hb); have n1_ := Aside0.mk (hbox); have n2_ : Aside0 (w.heap.size ≤ gb243) := gz_; have n3_ : Aside0 (w.heap.size ≤ gb243) := gz_; clear HB; have HB := n0_; have BK243 := n1_; have GW243 := n2_; have GE243 := n3_; clear n0_ n1_ n2_ n3_; clear hb hbox hg; have hcz11_0 : w10.cell? ⟨gb243, 0, none⟩ = some (.int .i64 a0_0) := (blk_cell BK243.out 0).trans rfl; have hcz11_1 : w10.cell? ⟨gb243, 1, none⟩ = some (.slice A0_1 l0_1.length c0_1) := (blk_cell BK243.out 1).trans rfl; have hfz11_0 := blk_frozen BK243.out 0; have hfz11_1 := blk_frozen BK243.out 1)); try go_wp2_with (first | ((with_reducible refine gate_dst (N := 4) rfl ?_); (try (refine gate_guard (by rfl) ?_; dsimp only)); refine box_event ?hg (N := 4) ?hd (cs := #[.int .i64 a0_0, .slice A0_1 l0_1.length c0_1]) (t := 39) ?hr ?_; (case hd => rfl); (case hg => rfl); (case hr => first | (go_simp; done) | (go_simp; rfl)); intro gb243 hg w10 hbox hb; have n0_ := Aside0.mk (below_step hb_ hb); have n1_ := Aside0.mk (hbox); have n2_ : Aside0 (w.heap.size ≤ gb243) := gz_; have n3_ : Aside0 (w.heap.size ≤ gb243) := gz_; clear HB; have HB := n0_; have BK243 := n1_; have GW243 := n2_; have GE243 := n3_; clear n0_ n1_ n2_ n3_; clear hb hbox hg; have hcz11_0 : w10.cell? ⟨gb243, 0, none⟩ = some (.int .i64 a0_0) := (blk_cell BK243.out 0).trans rfl; have hcz11_1 : w10.cell? ⟨gb243, 1, none⟩ = some (.slice A0_1 l0_1.length c0_1) := (blk_cell BK243.out 1).trans rfl; have hfz11_0 := blk_frozen BK243.out 0; have hfz11_1 := blk_frozen BK243.out 1)))
     go_ret
     exact ⟨er_, hb_⟩
    ·rw [if_neg c9] at H
     have c9b0 : decide (a0_0 ≤ (wrap64 ((Int.tmod a1 a0_0) + a2))) = false := decide_eq_false c9
     clear c9
     by_cases c12 : (wrap64 ((wrap64 (Int.tdiv a1 a0_0)) + a3)) < 0
     ·rw [if_pos c12] at H
      have c12b0 : decide ((wrap64 ((wrap64 (Int.tdiv a1 a0_0)) + a3)) < 0) = true := decide_eq_true c12
      clear c12
      obtain rfl := Option.some.inj H
      go_enter Try.func77, Try.ntmps77
      go_wp2_with (first | ((with_reducible refine gate_dst (N := 4) rfl ?_); (try (refine gate_guard (by rfl) ?_; dsimp only)); refine box_event ?hg (N := 4) ?hd (cs := #[.int .i64 a0_0, .slice A0_1 l0_1.length c0_1]) (t := 39) ?hr ?_; (case hd => rfl); (case hg => rfl); (case hr => first | (go_simp; done) | (go_simp; rfl)); intro gb243 hg w13 hbox hb; have n0_ := Aside0.mk (below_step hb_ hb); have n1_ := Aside0.mk (hbox); have n2_ : Aside0 (w.heap.size ≤ gb243) := gz_; have n3_ : Aside0 (w.heap.size ≤ gb243) := gz_; clear HB; have HB := n0_; have BK243 := n1_; have GW243 := n2_; have GE243 := n3_; clear n0_ n1_ n2_ n3_; clear hb hbox hg; have hcz14_0 : w13.cell? ⟨gb243, 0, none⟩ = some (.int .i64 a0_0) := (blk_cell BK243.out 0).trans rfl; have hcz14_1 : w13.cell? ⟨gb243, 1, none⟩ = some (.slice A0_1 l0_1.length c0_1) := (blk_cell BK243.out 1).trans rfl; have hfz14_0 := blk_frozen BK243.out 0; have hfz14_1 := blk_frozen BK243.out 1))
      repeat (go_quiet (first | ((with_reducible refine gate_dst (N := 4) rfl ?_); (try (refine gate_guard (by rfl) ?_; dsimp only)); refine box_event ?hg (N := 4) ?hd (cs := #[.int .i64 a0_0, .slice A0_1 l0_1.length c0_1]) (t := 39) ?hr ?_; (case hd => rfl); (case hg => rfl); (case hr => first | (go_simp; done) | (go_simp; rfl)); intro gb243 hg w13 hbox hb; have n0_ := Aside0.mk (below_step hb_ hb); have n1_ := Aside0.mk (hbox); have n2_ : Aside0 (w.heap.size ≤ gb243) := gz_; have n3_ : Aside0 (w.heap.size ≤ gb243) := gz_; clear HB; have HB := n0_; have BK243 := n1_; have GW243 := n2_; have GE243 := n3_; clear n0_ n1_ n2_ n3_; clear hb hbox hg; have hcz14_0 : w13.cell? ⟨gb243, 0, none⟩ = some (.int .i64 a0_0) := (blk_cell BK243.out 0).trans rfl; have hcz14_1 : w13.cell? ⟨gb243, 1, none⟩ = some (.slice A0_1 l0_1.length c0_1) := (blk_cell BK243.out 1).trans rfl; have hfz14_0 := blk_frozen BK243.out 0; have hfz14_1 := blk_frozen BK243.out 1)); try go_wp2_with (first | ((with_reducible refine gate_dst (N := 4) rfl ?_); (try (refine gate_guard (by rfl) ?_; dsimp only)); refine box_event ?hg (N := 4) ?hd (cs := #[.int .i64 a0_0, .slice A0_1 l0_1.length c0_1]) (t := 39) ?hr ?_; (case hd => rfl); (case hg => rfl); (case hr => first | (go_simp; done) | (go_simp; rfl)); intro gb243 hg w13 hbox hb; have n0_ := Aside0.mk (below_step hb_ hb); have n1_ := Aside0.mk (hbox); have n2_ : Aside0 (w.heap.size ≤ gb243) := gz_; have n3_ : Aside0 (w.heap.size ≤ gb243) := gz_; clear HB; have HB := n0_; have BK243 := n1_; have GW243 := n2_; have GE243 := n3_; clear n0_ n1_ n2_ n3_; clear hb hbox hg; have hcz14_0 : w13.cell? ⟨gb243, 0, none⟩ = some (.int .i64 a0_0) := (blk_cell BK243.out 0).trans rfl; have hcz14_1 : w13.cell? ⟨gb243, 1, none⟩ = some (.slice A0_1 l0_1.length c0_1) := (blk_cell BK243.out 1).trans rfl; have hfz14_0 := blk_frozen BK243.out 0; have hfz14_1 := blk_frozen BK243.out 1)))
      go_ret
      exact ⟨er_, hb_⟩
     ·rw [if_neg c12] at H
      have c12b0 : decide ((wrap64 ((wrap64 (Int.tdiv a1 a0_0)) + a3)) < 0) = false := decide_eq_false c12
      clear c12
      by_cases c15 : (wrap64 ((wrap64 (Int.tdiv a1 a0_0)) + a3)) ≥ (wrap64 ((l0_1.length : Int) / a0_0))
      ·rw [if_pos c15] at H
       have c15b0 : decide ((wrap64 ((l0_1.length : Int) / a0_0)) ≤ (wrap64 ((wrap64 (Int.tdiv a1 a0_0)) + a3))) = true := decide_eq_true c15
       clear c15
       obtain rfl := Option.some.inj H
       go_enter Try.func77, Try.ntmps77
       go_wp2_with (first | ((with_reducible refine gate_dst (N := 4) rfl ?_); (try (refine gate_guard (by rfl) ?_; dsimp only)); refine box_event ?hg (N := 4) ?hd (cs := #[.int .i64 a0_0, .slice A0_1 l0_1.length c0_1]) (t := 39) ?hr ?_; (case hd => rfl); (case hg => rfl); (case hr => first | (go_simp; done) | (go_simp; rfl)); intro gb243 hg w16 hbox hb; have n0_ := Aside0.mk (below_step hb_ hb); have n1_ := Aside0.mk (hbox); have n2_ : Aside0 (w.heap.size ≤ gb243) := gz_; have n3_ : Aside0 (w.heap.size ≤ gb243) := gz_; clear HB; have HB := n0_; have BK243 := n1_; have GW243 := n2_; have GE243 := n3_; clear n0_ n1_ n2_ n3_; clear hb hbox hg; have hcz17_0 : w16.cell? ⟨gb243, 0, none⟩ = some (.int .i64 a0_0) := (blk_cell BK243.out 0).trans rfl; have hcz17_1 : w16.cell? ⟨gb243, 1, none⟩ = some (.slice A0_1 l0_1.length c0_1) := (blk_cell BK243.out 1).trans rfl; have hfz17_0 := blk_frozen BK243.out 0; have hfz17_1 := blk_frozen BK243.out 1))
       repeat (go_quiet (first | ((with_reducible refine gate_dst (N := 4) rfl ?_); (try (refine gate_guard (by rfl) ?_; dsimp only)); refine box_event ?hg (N := 4) ?hd (cs := #[.int .i64 a0_0, .slice A0_1 l0_1.length c0_1]) (t := 39) ?hr ?_; (case hd => rfl); (case hg => rfl); (case hr => first | (go_simp; done) | (go_simp; rfl)); intro gb243 hg w16 hbox hb; have n0_ := Aside0.mk (below_step hb_ hb); have n1_ := Aside0.mk (hbox); have n2_ : Aside0 (w.heap.size ≤ gb243) := gz_; have n3_ : Aside0 (w.heap.size ≤ gb243) := gz_; clear HB; have HB := n0_; have BK243 := n1_; have GW243 := n2_; have GE243 := n3_; clear n0_ n1_ n2_ n3_; clear hb hbox hg; have hcz17_0 : w16.cell? ⟨gb243, 0, none⟩ = some (.int .i64 a0_0) := (blk_cell BK243.out 0).trans rfl; have hcz17_1 : w16.cell? ⟨gb243, 1, none⟩ = some (.slice A0_1 l0_1.length c0_1) := (blk_cell BK243.out 1).trans rfl; have hfz17_0 := blk_frozen BK243.out 0; have hfz17_1 := blk_frozen BK243.out 1)); try go_wp2_with (first | ((with_reducible refine gate_dst (N := 4) rfl ?_); (try (refine gate_guard (by rfl) ?_; dsimp only)); refine box_event ?hg (N := 4) ?hd (cs := #[.int .i64 a0_0, .slice A0_1 l0_1.length c0_1]) (t := 39) ?hr ?_; (case hd => rfl); (case hg => rfl); (case hr => first | (go_simp; done) | (go_simp; rfl)); intro gb243 hg w16 hbox hb; have n0_ := Aside0.mk (below_step hb_ hb); have n1_ := Aside0.mk (hbox); have n2_ : Aside0 (w.heap.size ≤ gb243) := gz_; have n3_ : Aside0 (w.heap.size ≤ gb243) := gz_; clear HB; have HB := n0_; have BK243 := n1_; have GW243 := n2_; have GE243 := n3_; clear n0_ n1_ n2_ n3_; clear hb hbox hg; have hcz17_0 : w16.cell? ⟨gb243, 0, none⟩ = some (.int .i64 a0_0) := (blk_cell BK243.out 0).trans rfl; have hcz17_1 : w16.cell? ⟨gb243, 1, none⟩ = some (.slice A0_1 l0_1.length c0_1) := (blk_cell BK243.out 1).trans rfl; have hfz17_0 := blk_frozen BK243.out 0; have hfz17_1 := blk_frozen BK243.out 1)))
       go_ret
       exact ⟨er_, hb_⟩
      ·rw [if_neg c15] at H
       have c15b0 : decide ((wrap64 ((l0_1.length : Int) / a0_0)) ≤ (wrap64 ((wrap64 (Int.tdiv a1 a0_0)) + a3))) = false := decide_eq_false c15
       clear c15
       obtain rfl := Option.some.inj H
       go_enter Try.func77, Try.ntmps77
       go_wp2_with (first | ((with_reducible refine gate_dst (N := 4) rfl ?_); (try (refine gate_guard (by rfl) ?_; dsimp only)); refine box_event ?hg (N := 4) ?hd (cs := #[.int .i64 a0_0, .slice A0_1 l0_1.length c0_1]) (t := 39) ?hr ?_; (case hd => rfl); (case hg => rfl); (case hr => first | (go_simp; done) | (go_simp; rfl)); intro gb243 hg w18 hbox hb; have n0_ := Aside0.mk (below_step hb_ hb); have n1_ := Aside0.mk (hbox); have n2_ : Aside0 (w.heap.size ≤ gb243) := gz_; have n3_ : Aside0 (w.heap.size ≤ gb243) := gz_; clear HB; have HB := n0_; have BK243 := n1_; have GW243 := n2_; have GE243 := n3_; clear n0_ n1_ n2_ n3_; clear hb hbox hg; have hcz19_0 : w18.cell? ⟨gb243, 0, none⟩ = some (.int .i64 a0_0) := (blk_cell BK243.out 0).trans rfl; have hcz19_1 : w18.cell? ⟨gb243, 1, none⟩ = some (.slice A0_1 l0_1.length c0_1) := (blk_cell BK243.out 1).trans rfl; have hfz19_0 := blk_frozen BK243.out 0; have hfz19_1 := blk_frozen BK243.out 1))
       repeat (go_quiet (first | ((with_reducible refine gate_dst (N := 4) rfl ?_); (try (refine gate_guard (by rfl) ?_; dsimp only)); refine box_event ?hg (N := 4) ?hd (cs := #[.int .i64 a0_0, .slice A0_1 l0_1.length c0_1]) (t := 39) ?hr ?_; (case hd => rfl); (case hg => rfl); (case hr => first | (go_simp; done) | (go_simp; rfl)); intro gb243 hg w18 hbox hb; have n0_ := Aside0.mk (below_step hb_ hb); have n1_ := Aside0.mk (hbox); have n2_ : Aside0 (w.heap.size ≤ gb243) := gz_; have n3_ : Aside0 (w.heap.size ≤ gb243) := gz_; clear HB; have HB := n0_; have BK243 := n1_; have GW243 := n2_; have GE243 := n3_; clear n0_ n1_ n2_ n3_; clear hb hbox hg; have hcz19_0 : w18.cell? ⟨gb243, 0, none⟩ = some (.int .i64 a0_0) := (blk_cell BK243.out 0).trans rfl; have hcz19_1 : w18.cell? ⟨gb243, 1, none⟩ = some (.slice A0_1 l0_1.length c0_1) := (blk_cell BK243.out 1).trans rfl; have hfz19_0 := blk_frozen BK243.out 0; have hfz19_1 := blk_frozen BK243.out 1)); try go_wp2_with (first | ((with_reducible refine gate_dst (N := 4) rfl ?_); (try (refine gate_guard (by rfl) ?_; dsimp only)); refine box_event ?hg (N := 4) ?hd (cs := #[.int .i64 a0_0, .slice A0_1 l0_1.length c0_1]) (t := 39) ?hr ?_; (case hd => rfl); (case hg => rfl); (case hr => first | (go_simp; done) | (go_simp; rfl)); intro gb243 hg w18 hbox hb; have n0_ := Aside0.mk (below_step hb_ hb); have n1_ := Aside0.mk (hbox); have n2_ : Aside0 (w.heap.size ≤ gb243) := gz_; have n3_ : Aside0 (w.heap.size ≤ gb243) := gz_; clear HB; have HB := n0_; have BK243 := n1_; have GW243 := n2_; have GE243 := n3_; clear n0_ n1_ n2_ n3_; clear hb hbox hg; have hcz19_0 : w18.cell? ⟨gb243, 0, none⟩ = some (.int .i64 a0_0) := (blk_cell BK243.out 0).trans rfl; have hcz19_1 : w18.cell? ⟨gb243, 1, none⟩ = some (.slice A0_1 l0_1.length c0_1) := (blk_cell BK243.out 1).trans rfl; have hfz19_0 := blk_frozen BK243.out 0; have hfz19_1 := blk_frozen BK243.out 1)))
       go_ret
       exact ⟨er_, hb_⟩

end Go.Proofs.Ytcldlljnaijmhaa.Pr
/-
Own text, by hand: the contract of (Cells).along.
-/
namespace Go.Proofs.Ytcldlljnaijmhaa.Pr
open Go.RowKit Go.Proofs.YtcldlljnaijmhaaW.PrintWords Go.Proofs.YtcldlljnaijmhaaW.PrintLast Go.Proofs.YtcldlljnaijmhaaW.PrintMore

set_option maxHeartbeats 1000000 in
set_option maxRecDepth 100000 in
theorem along0 (a0_0 : Int) (A0_1 : Option Addr) (c0_1 : Nat) (l0_1 : List Int) (a1 : Int) (r : Int) (w : World) (hr0_1 : Kd.C (Kd.int .i64) w A0_1 l0_1.length l0_1) (hc0_1 : l0_1.length ≤ c0_1) (h : impl_Cells_next.f a0_0 l0_1 a1 1 0 = some r) :
    Calls Try.prog 70 #[.agg #[.int .i64 a0_0, .slice A0_1 l0_1.length c0_1], .int .i64 a1, .int .i64 0] w fun e w' => e = .returned (.int .i64 r) ∧ Below w.heap.size w w' := by
  have H := Aside0.mk h
  clear h
  have HR := Aside0.mk hr0_1
  clear hr0_1
  have HC := Aside0.mk hc0_1
  clear hc0_1
  have i0 : ∀ w, (Instr.index 105 (.agg #[.int .i64 1, .int .i64 0, .int .i64 0, .int .i64 1, .int .i64 (-1), .int .i64 0, .int .i64 0, .int .i64 (-1)]) (.int .i64 0)).run Try.prog w = .ok (.agg #[.int .i64 1, .int .i64 0]) w := fun _ => by kernel_rfl
  have hu := Try.underlying39
  go_enter Try.func70, Try.ntmps70
  go_wp2_with (go_at_call 77; (with_reducible refine (impl_Cells_next.calls _ _ _ _ _ _ _ _ _ ?s1 HC.out H.out).mono ?_); (case s1 => exact Kd.C_below HR.out (below_alloc (below_alloc (Below.refl _ _) _) _)); rintro e w1 ⟨rfl, hb⟩)
  go_ret
  exact ⟨rfl, below_step (below_alloc (below_alloc (Below.refl _ _) _) _) hb⟩
set_option maxHeartbeats 1000000 in
set_option maxRecDepth 100000 in
theorem along1 (a0_0 : Int) (A0_1 : Option Addr) (c0_1 : Nat) (l0_1 : List Int) (a1 : Int) (r : Int) (w : World) (hr0_1 : Kd.C (Kd.int .i64) w A0_1 l0_1.length l0_1) (hc0_1 : l0_1.length ≤ c0_1) (h : impl_Cells_next.f a0_0 l0_1 a1 0 1 = some r) :
    Calls Try.prog 70 #[.agg #[.int .i64 a0_0, .slice A0_1 l0_1.length c0_1], .int .i64 a1, .int .i64 1] w fun e w' => e = .returned (.int .i64 r) ∧ Below w.heap.size w w' := by
  have H := Aside0.mk h
  clear h
  have HR := Aside0.mk hr0_1
  clear hr0_1
  have HC := Aside0.mk hc0_1
  clear hc0_1
  have i0 : ∀ w, (Instr.index 105 (.agg #[.int .i64 1, .int .i64 0, .int .i64 0, .int .i64 1, .int .i64 (-1), .int .i64 0, .int .i64 0, .int .i64 (-1)]) (.int .i64 1)).run Try.prog w = .ok (.agg #[.int .i64 0, .int .i64 1]) w := fun _ => by kernel_rfl
  have hu := Try.underlying39
  go_enter Try.func70, Try.ntmps70
  go_wp2_with (go_at_call 77; (with_reducible refine (impl_Cells_next.calls _ _ _ _ _ _ _ _ _ ?s1 HC.out H.out).mono ?_); (case s1 => exact Kd.C_below HR.out (below_alloc (below_alloc (Below.refl _ _) _) _)); rintro e w1 ⟨rfl, hb⟩)
  go_ret
  exact ⟨rfl, below_step (below_alloc (below_alloc (Below.refl _ _) _) _) hb⟩
set_option maxHeartbeats 1000000 in
set_option maxRecDepth 100000 in
theorem along2 (a0_0 : Int) (A0_1 : Option Addr) (c0_1 : Nat) (l0_1 : List Int) (a1 : Int) (r : Int) (w : World) (hr0_1 : Kd.C (Kd.int .i64) w A0_1 l0_1.length l0_1) (hc0_1 : l0_1.length ≤ c0_1) (h : impl_Cells_next.f a0_0 l0_1 a1 (-1) 0 = some r) :
    Calls Try.prog 70 #[.agg #[.int .i64 a0_0, .slice A0_1 l0_1.length c0_1], .int .i64 a1, .int .i64 2] w fun e w' => e = .returned (.int .i64 r) ∧ Below w.heap.size w w' := by
  have H := Aside0.mk h
  clear h
  have HR := Aside0.mk hr0_1
  clear hr0_1
  have HC := Aside0.mk hc0_1
  clear hc0_1
  have i0 : ∀ w, (Instr.index 105 (.agg #[.int .i64 1, .int .i64 0, .int .i64 0, .int .i64 1, .int .i64 (-1), .int .i64 0, .int .i64 0, .int .i64 (-1)]) (.int .i64 2)).run Try.prog w = .ok (.agg #[.int .i64 (-1), .int .i64 0]) w := fun _ => by kernel_rfl
  have hu := Try.underlying39
  go_enter Try.func70, Try.ntmps70
  go_wp2_with (go_at_call 77; (with_reducible refine (impl_Cells_next.calls _ _ _ _ _ _ _ _ _ ?s1 HC.out H.out).mono ?_); (case s1 => exact Kd.C_below HR.out (below_alloc (below_alloc (Below.refl _ _) _) _)); rintro e w1 ⟨rfl, hb⟩)
  go_ret
  exact ⟨rfl, below_step (below_alloc (below_alloc (Below.refl _ _) _) _) hb⟩
set_option maxHeartbeats 1000000 in
set_option maxRecDepth 100000 in
theorem along3 (a0_0 : Int) (A0_1 : Option Addr) (c0_1 : Nat) (l0_1 : List Int) (a1 : Int) (r : Int) (w : World) (hr0_1 : Kd.C (Kd.int .i64) w A0_1 l0_1.length l0_1) (hc0_1 : l0_1.length ≤ c0_1) (h : impl_Cells_next.f a0_0 l0_1 a1 0 (-1) = some r) :
    Calls Try.prog 70 #[.agg #[.int .i64 a0_0, .slice A0_1 l0_1.length c0_1], .int .i64 a1, .int .i64 3] w fun e w' => e = .returned (.int .i64 r) ∧ Below w.heap.size w w' := by
  have H := Aside0.mk h
  clear h
  have HR := Aside0.mk hr0_1
  clear hr0_1
  have HC := Aside0.mk hc0_1
  clear hc0_1
  have i0 : ∀ w, (Instr.index 105 (.agg #[.int .i64 1, .int .i64 0, .int .i64 0, .int .i64 1, .int .i64 (-1), .int .i64 0, .int .i64 0, .int .i64 (-1)]) (.int .i64 3)).run Try.prog w = .ok (.agg #[.int .i64 0, .int .i64 (-1)]) w := fun _ => by kernel_rfl
  have hu := Try.underlying39
  go_enter Try.func70, Try.ntmps70
  go_wp2_with (go_at_call 77; (with_reducible refine (impl_Cells_next.calls _ _ _ _ _ _ _ _ _ ?s1 HC.out H.out).mono ?_); (case s1 => exact Kd.C_below HR.out (below_alloc (below_alloc (Below.refl _ _) _) _)); rintro e w1 ⟨rfl, hb⟩)
  go_ret
  exact ⟨rfl, below_step (below_alloc (below_alloc (Below.refl _ _) _) _) hb⟩
theorem impl_Cells_along.calls (a0_0 : Int) (A0_1 : Option Addr) (c0_1 : Nat) (l0_1 : List Int) (a1 : Int) (a2 : Int) (r : Int) (w : World) (hr0_1 : Kd.C (Kd.int .i64) w A0_1 l0_1.length l0_1) (hc0_1 : l0_1.length ≤ c0_1) (h : impl_Cells_along.f a0_0 l0_1 a1 a2 = some r) :
    Calls Try.prog 70 #[.agg #[.int .i64 a0_0, .slice A0_1 l0_1.length c0_1], .int .i64 a1, .int .i64 a2] w fun e w' => e = .returned (.int .i64 r) ∧ Below w.heap.size w w' := by
  unfold impl_Cells_along.f at h
  by_cases h0 : a2 = 0
  · rw [if_pos h0] at h
    subst h0
    exact along0 a0_0 A0_1 c0_1 l0_1 a1 r w hr0_1 hc0_1 h
  rw [if_neg h0] at h
  by_cases h1 : a2 = 1
  · rw [if_pos h1] at h
    subst h1
    exact along1 a0_0 A0_1 c0_1 l0_1 a1 r w hr0_1 hc0_1 h
  rw [if_neg h1] at h
  by_cases h2 : a2 = 2
  · rw [if_pos h2] at h
    subst h2
    exact along2 a0_0 A0_1 c0_1 l0_1 a1 r w hr0_1 hc0_1 h
  rw [if_neg h2] at h
  by_cases h3 : a2 = 3
  · rw [if_pos h3] at h
    subst h3
    exact along3 a0_0 A0_1 c0_1 l0_1 a1 r w hr0_1 hc0_1 h
  rw [if_neg h3] at h
  cases h
end Go.Proofs.Ytcldlljnaijmhaa.Pr
-- Written by this session's own print (wip/tools/mkmp.py) out of the translation. Lean checks it.
namespace Go.Proofs.Ytcldlljnaijmhaa.Pr
open Go.RowKit Go.Proofs.YtcldlljnaijmhaaW.PrintWords Go.Proofs.YtcldlljnaijmhaaW.PrintLast Go.Proofs.YtcldlljnaijmhaaW.PrintMore
attribute [local go_sem] max2_int min2_int max_two min_two max_three min_three max_four min_four   -- for this text's walks alone
set_option linter.unusedVariables false
set_option linter.unusedSimpArgs false

def impl_Cells_goes.T2 : Bool × List (List Nat × List Nat) := (true, [([], []), ([], []), ([0, 1], [0, 1]), ([], []), ([], []), ([3, 4, 2], [3, 4]), ([], []), ([], []), ([], []), ([7, 8, 5], [7, 8]), ([], []), ([], []), ([10, 11, 9], [10, 11]), ([2, 5, 6, 9, 12], [2, 5, 6, 9, 12]), ([13], [13]), ([], [])])
def impl_Cells_goes.B2 : List Nat := [0, 0, 3, 0, 0, 31, 0, 0, 0, 447, 0, 0, 4031, 8191, 16383, 0]
theorem impl_Cells_goes.tab2 : rtab .any (opsOf Try.f58 2) = impl_Cells_goes.T2 := by kernel_rfl
theorem impl_Cells_goes.bits2 : waitsOk impl_Cells_goes.T2.2 impl_Cells_goes.B2 = true := by kernel_rfl
set_option maxHeartbeats 8000000 in
set_option maxRecDepth 100000 in
theorem impl_Cells_goes.calls (k : Nat) (a0_0 : Int) (A0_1 : Option Addr) (c0_1 : Nat) (l0_1 : List Int) (a1 : Int) (r : List Int) (w : World) (hr0_1 : Kd.C (Kd.int .i64) w A0_1 l0_1.length l0_1) (hc0_1 : l0_1.length ≤ c0_1) (h : impl_Cells_goes.f k a0_0 l0_1 a1 = some r) :
   Calls Try.prog 58 #[.agg #[.int .i64 a0_0, .slice A0_1 l0_1.length c0_1], .int .i64 a1] w fun e w' => ∃ v0_ : Value, e = .returned (v0_) ∧ Kd.R (Kd.int .i64) 3 w' w.heap.size (fun _ => True) v0_ r ∧ Below w.heap.size w w' := by
  have hu39 := Try.underlying39
  have HR0_1 := Aside0.mk hr0_1
  have HC0_1 := Aside0.mk hc0_1
  clear hr0_1 hc0_1
  have HB := Aside0.mk (Below.refl w.heap.size w)
  have H : ((impl_Cells_along.f a0_0 l0_1 a1 3).bind fun t245 => ((impl_Cells_along.f a0_0 l0_1 a1 2).bind fun t246 => ((impl_Cells_along.f a0_0 l0_1 a1 0).bind fun t247 => ((impl_Cells_along.f a0_0 l0_1 a1 1).bind fun t248 => ((some (([t245, t246, a1, t247, t248] : List Int) : List Int)).bind fun y249 => (impl_Cells_goes.l0 k ([] : List Int) y249 (y249.length : Int) 0 a0_0 l0_1)))))) = some r := h
  clear h
  replace H := Option.bind_eq_some_iff.mp H
  obtain ⟨t245, A30, H⟩ := H
  replace H : ((impl_Cells_along.f a0_0 l0_1 a1 2).bind fun t246 => ((impl_Cells_along.f a0_0 l0_1 a1 0).bind fun t247 => ((impl_Cells_along.f a0_0 l0_1 a1 1).bind fun t248 => ((some (([t245, t246, a1, t247, t248] : List Int) : List Int)).bind fun y249 => (impl_Cells_goes.l0 k ([] : List Int) y249 (y249.length : Int) 0 a0_0 l0_1))))) = some r := H
  have A3 := Aside0.mk A30
  clear A30
  replace H := Option.bind_eq_some_iff.mp H
  obtain ⟨t246, A40, H⟩ := H
  replace H : ((impl_Cells_along.f a0_0 l0_1 a1 0).bind fun t247 => ((impl_Cells_along.f a0_0 l0_1 a1 1).bind fun t248 => ((some (([t245, t246, a1, t247, t248] : List Int) : List Int)).bind fun y249 => (impl_Cells_goes.l0 k ([] : List Int) y249 (y249.length : Int) 0 a0_0 l0_1)))) = some r := H
  have A4 := Aside0.mk A40
  clear A40
  replace H := Option.bind_eq_some_iff.mp H
  obtain ⟨t247, A50, H⟩ := H
  replace H : ((impl_Cells_along.f a0_0 l0_1 a1 1).bind fun t248 => ((some (([t245, t246, a1, t247, t248] : List Int) : List Int)).bind fun y249 => (impl_Cells_goes.l0 k ([] : List Int) y249 (y249.length : Int) 0 a0_0 l0_1))) = some r := H
  have A5 := Aside0.mk A50
  clear A50
  replace H := Option.bind_eq_some_iff.mp H
  obtain ⟨t248, A60, H⟩ := H
  replace H : ((some (([t245, t246, a1, t247, t248] : List Int) : List Int)).bind fun y249 => (impl_Cells_goes.l0 k ([] : List Int) y249 (y249.length : Int) 0 a0_0 l0_1)) = some r := H
  have A6 := Aside0.mk A60
  clear A60
  obtain ⟨y249, hy249⟩ : ∃ y_ : List Int, y_ = (([t245, t246, a1, t247, t248] : List Int)) := ⟨_, rfl⟩
  replace H : (impl_Cells_goes.l0 k ([] : List Int) y249 (y249.length : Int) 0 a0_0 l0_1) = some r := by first | (rw [hy249]; with_reducible exact H) | (have H2_ := (Option.bind_some _ _).symm.trans H; rw [hy249]; with_reducible exact H2_) | (have H2_ := (Option.bind_some _ _).symm.trans H; with_reducible exact H2_) | with_reducible exact H | (rw [hy249]; exact H) | exact H
  have Ny249 := Aside0.mk hy249
  clear hy249
  have H' := Aside0.mk H
  clear H
  go_enter Try.func58, Try.ntmps58
  try go_wp2_with (first | ((with_reducible refine gate_dst (N := 2) rfl ?_); refine box_event ?hg (N := 2) ?hd (cs := #[.int .i64 a0_0, .slice A0_1 l0_1.length c0_1]) (t := 39) ?hr ?_; (case hd => rfl); (case hg => rfl); (case hr => first | (go_simp; done) | (go_simp; rfl)); intro gb244 hg w7 hbox hb; have n0_ := Aside0.mk (below_step hb_ hb); have n1_ := Aside0.mk (hbox); have n2_ : Aside0 (w.heap.size ≤ gb244) := gz_; have n3_ : Aside0 (w.heap.size ≤ gb244) := gz_; clear HB; have HB := n0_; have BK244 := n1_; have GW244 := n2_; have GE244 := n3_; clear n0_ n1_ n2_ n3_; clear hb hbox hg))
  have n0_ := Aside0.mk (blk_drew BK244.out)
  have n1_ := Aside0.mk (below_drew1 HB.out)
  clear BK244
  clear HB
  have BK244 := n0_
  have HB := n1_
  clear n0_ n1_
  refine start_ (n := 16) (S := fun w' => w'.cell? ⟨gb244, 0, none⟩ = some (.int .i64 a0_0) ∧ w'.cell? ⟨gb244, 1, none⟩ = some (.slice A0_1 l0_1.length c0_1)) (ds := []) #[false, false, false, false, false, false, false, false, false, false, false, false, false, false, false, false] (by kernel_rfl) rfl rfl ⟨(blk_cell BK244.out 0).trans rfl, (blk_cell BK244.out 1).trans rfl⟩ (fun hHeld => ?_); refine with_tabW impl_Cells_goes.tab2 impl_Cells_goes.bits2 (fun HT_ HW_ => ?_)
  generalize w7.drew = w8 at BK244 HB hHeld ⊢
  refine pure_ (i := 1) (N := some 9) (v := ?_) (a' := ?_) #[false, true, false, false, false, false, false, false, false, false, false, false, false, false, false, false] rfl rfl (any_of HT_.out (by kernel_rfl)) (fun _ _ _ h => h) (Or.inl ⟨by rfl, ?_⟩) ?_ ?_
  rotate_left
  ·intro w'
   go_simp
   with_reducible rfl
  rotate_left
  ·simp only [Act.put, List.setIfInBounds_toArray, List.set_cons_zero, List.set_cons_succ, i64_w, i32_w]
   rfl
  refine pure_ (i := 4) (N := some 12) (v := ?_) (a' := ?_) #[false, true, false, false, true, false, false, false, false, false, false, false, false, false, false, false] rfl rfl (any_of HT_.out (by kernel_rfl)) (fun _ _ _ h => h) (Or.inl ⟨by rfl, ?_⟩) ?_ ?_
  rotate_left
  ·intro w'
   go_simp
   with_reducible rfl
  rotate_left
  ·simp only [Act.put, List.setIfInBounds_toArray, List.set_cons_zero, List.set_cons_succ, i64_w, i32_w]
   rfl
  refine pure_ (i := 6) (N := some 14) (v := ?_) (a' := ?_) #[false, true, false, false, true, false, true, false, false, false, false, false, false, false, false, false] rfl rfl (any_of HT_.out (by kernel_rfl)) (fun _ _ _ h => h) (Or.inl ⟨by rfl, ?_⟩) ?_ ?_
  rotate_left
  ·intro w'
   go_simp
   with_reducible rfl
  rotate_left
  ·simp only [Act.put, List.setIfInBounds_toArray, List.set_cons_zero, List.set_cons_succ, i64_w, i32_w]
   rfl
  refine pure_ (i := 8) (N := some 16) (v := ?_) (a' := ?_) #[false, true, false, false, true, false, true, false, true, false, false, false, false, false, false, false] rfl rfl (any_of HT_.out (by kernel_rfl)) (fun _ _ _ h => h) (Or.inl ⟨by rfl, ?_⟩) ?_ ?_
  rotate_left
  ·intro w'
   go_simp
   with_reducible rfl
  rotate_left
  ·simp only [Act.put, List.setIfInBounds_toArray, List.set_cons_zero, List.set_cons_succ, i64_w, i32_w]
   rfl
  refine pure_ (i := 11) (N := some 19) (v := ?_) (a' := ?_) #[false, true, false, false, true, false, true, false, true, false, false, true, false, false, false, false] rfl rfl (any_of HT_.out (by kernel_rfl)) (fun _ _ _ h => h) (Or.inl ⟨by rfl, ?_⟩) ?_ ?_
  rotate_left
  ·intro w'
   go_simp
   with_reducible rfl
  rotate_left
  ·simp only [Act.put, List.setIfInBounds_toArray, List.set_cons_zero, List.set_cons_succ, i64_w, i32_w]
   rfl
  refine pure_ (i := 15) (N := some 23) (v := ?_) (a' := ?_) #[false, true, false, false, true, false, true, false, true, false, false, true, false, false, false, true] rfl rfl (any_of HT_.out (by kernel_rfl)) (fun _ _ _ h => h) (Or.inl ⟨by rfl, ?_⟩) ?_ ?_
  rotate_left
  ·intro w'
   go_simp
   with_reducible rfl
  rotate_left
  ·simp only [Act.put, List.setIfInBounds_toArray, List.set_cons_zero, List.set_cons_succ, i64_w, i32_w]
   rfl
  refine take_ (i := 0) (N := some 8) (v := ?_) (a' := ?_) #[true, true, false, false, true, false, true, false, true, false, false, true, false, false, false, true] rfl rfl (take_ofW HT_.out HW_.out (by kernel_rfl)) (fun _ _ _ h => h) (Or.inl ⟨by rfl, ?_⟩) hHeld ?_ ?_
  rotate_left
  ·rintro w' ⟨s0, s1⟩
   go_simp
   with_reducible rfl
  rotate_left
  ·simp only [Act.put, List.setIfInBounds_toArray, List.set_cons_zero, List.set_cons_succ, i64_w, i32_w]
   rfl
  refine take_ (i := 3) (N := some 11) (v := ?_) (a' := ?_) #[true, true, false, true, true, false, true, false, true, false, false, true, false, false, false, true] rfl rfl (take_ofW HT_.out HW_.out (by kernel_rfl)) (fun _ _ _ h => h) (Or.inl ⟨by rfl, ?_⟩) hHeld ?_ ?_
  rotate_left
  ·rintro w' ⟨s0, s1⟩
   go_simp
   with_reducible rfl
  rotate_left
  ·simp only [Act.put, List.setIfInBounds_toArray, List.set_cons_zero, List.set_cons_succ, i64_w, i32_w]
   rfl
  refine take_ (i := 7) (N := some 15) (v := ?_) (a' := ?_) #[true, true, false, true, true, false, true, true, true, false, false, true, false, false, false, true] rfl rfl (take_ofW HT_.out HW_.out (by kernel_rfl)) (fun _ _ _ h => h) (Or.inl ⟨by rfl, ?_⟩) hHeld ?_ ?_
  rotate_left
  ·rintro w' ⟨s0, s1⟩
   go_simp
   with_reducible rfl
  rotate_left
  ·simp only [Act.put, List.setIfInBounds_toArray, List.set_cons_zero, List.set_cons_succ, i64_w, i32_w]
   rfl
  refine take_ (i := 10) (N := some 18) (v := ?_) (a' := ?_) #[true, true, false, true, true, false, true, true, true, false, true, true, false, false, false, true] rfl rfl (take_ofW HT_.out HW_.out (by kernel_rfl)) (fun _ _ _ h => h) (Or.inl ⟨by rfl, ?_⟩) hHeld ?_ ?_
  rotate_left
  ·rintro w' ⟨s0, s1⟩
   go_simp
   with_reducible rfl
  rotate_left
  ·simp only [Act.put, List.setIfInBounds_toArray, List.set_cons_zero, List.set_cons_succ, i64_w, i32_w]
   rfl
  refine one_ (i := 2) (N := some 10) #[true, true, true, true, true, false, true, true, true, false, true, true, false, false, false, true] rfl rfl (one_of HT_.out (by kernel_rfl)) (by decide) (fun K hK => ?_)
  refine goes_ Try.func70 (by kernel_rfl) rfl #[.agg #[.int .i64 a0_0, .slice A0_1 l0_1.length c0_1], .int .i64 a1, .int .i64 3] (by rfl) rfl rfl ls_ ?_
  with_reducible refine (impl_Cells_along.calls a0_0 _ _ l0_1 a1 3 t245 _ ?side1 ?side2 A3.out).mono ?_
  (case side1 => exact cb_ HR0_1.out)
  (case side2 => exact HC0_1.out)
  rintro e w9 ⟨rfl, hb⟩
  refine ⟨_, rfl, ?_⟩
  have n0_ := bb_ BK244 hb
  have n1_ := Aside0.mk (below_step hb_ hb)
  clear BK244
  clear HB
  have BK244 := n0_
  have HB := n1_
  clear n0_ n1_
  (try clear hb)
  (try clear hb2)
  (try clear hk)
  (try clear hi)
  refine hK.out _ _ ⟨(blk_cell BK244.out 0).trans rfl, (blk_cell BK244.out 1).trans rfl⟩ (fun hHeld => ?_)
  clear hK K
  refine norm_ (a' := ?_) ?_ ?_
  rotate_left
  ·show Act.put _ (some 10) _ = _
   simp only [Act.put, List.setIfInBounds_toArray, List.set_cons_zero, List.set_cons_succ, i64_w, i32_w]
   rfl
  refine one_ (i := 5) (N := some 13) #[true, true, true, true, true, true, true, true, true, false, true, true, false, false, false, true] rfl rfl (one_of HT_.out (by kernel_rfl)) (by decide) (fun K hK => ?_)
  refine goes_ Try.func70 (by kernel_rfl) rfl #[.agg #[.int .i64 a0_0, .slice A0_1 l0_1.length c0_1], .int .i64 a1, .int .i64 2] (by rfl) rfl rfl ls_ ?_
  with_reducible refine (impl_Cells_along.calls a0_0 _ _ l0_1 a1 2 t246 _ ?side1 ?side2 A4.out).mono ?_
  (case side1 => exact cb_ HR0_1.out)
  (case side2 => exact HC0_1.out)
  rintro e w10 ⟨rfl, hb⟩
  refine ⟨_, rfl, ?_⟩
  have n0_ := bb_ BK244 hb
  have n1_ := Aside0.mk (below_step hb_ hb)
  clear BK244
  clear HB
  have BK244 := n0_
  have HB := n1_
  clear n0_ n1_
  (try clear hb)
  (try clear hb2)
  (try clear hk)
  (try clear hi)
  refine hK.out _ _ ⟨(blk_cell BK244.out 0).trans rfl, (blk_cell BK244.out 1).trans rfl⟩ (fun hHeld => ?_)
  clear hK K
  refine norm_ (a' := ?_) ?_ ?_
  rotate_left
  ·show Act.put _ (some 13) _ = _
   simp only [Act.put, List.setIfInBounds_toArray, List.set_cons_zero, List.set_cons_succ, i64_w, i32_w]
   rfl
  refine one_ (i := 9) (N := some 17) #[true, true, true, true, true, true, true, true, true, true, true, true, false, false, false, true] rfl rfl (one_of HT_.out (by kernel_rfl)) (by decide) (fun K hK => ?_)
  refine goes_ Try.func70 (by kernel_rfl) rfl #[.agg #[.int .i64 a0_0, .slice A0_1 l0_1.length c0_1], .int .i64 a1, .int .i64 0] (by rfl) rfl rfl ls_ ?_
  with_reducible refine (impl_Cells_along.calls a0_0 _ _ l0_1 a1 0 t247 _ ?side1 ?side2 A5.out).mono ?_
  (case side1 => exact cb_ HR0_1.out)
  (case side2 => exact HC0_1.out)
  rintro e w11 ⟨rfl, hb⟩
  refine ⟨_, rfl, ?_⟩
  have n0_ := bb_ BK244 hb
  have n1_ := Aside0.mk (below_step hb_ hb)
  clear BK244
  clear HB
  have BK244 := n0_
  have HB := n1_
  clear n0_ n1_
  (try clear hb)
  (try clear hb2)
  (try clear hk)
  (try clear hi)
  refine hK.out _ _ ⟨(blk_cell BK244.out 0).trans rfl, (blk_cell BK244.out 1).trans rfl⟩ (fun hHeld => ?_)
  clear hK K
  refine norm_ (a' := ?_) ?_ ?_
  rotate_left
  ·show Act.put _ (some 17) _ = _
   simp only [Act.put, List.setIfInBounds_toArray, List.set_cons_zero, List.set_cons_succ, i64_w, i32_w]
   rfl
  refine one_ (i := 12) (N := some 20) #[true, true, true, true, true, true, true, true, true, true, true, true, true, false, false, true] rfl rfl (one_of HT_.out (by kernel_rfl)) (by decide) (fun K hK => ?_)
  refine goes_ Try.func70 (by kernel_rfl) rfl #[.agg #[.int .i64 a0_0, .slice A0_1 l0_1.length c0_1], .int .i64 a1, .int .i64 1] (by rfl) rfl rfl ls_ ?_
  with_reducible refine (impl_Cells_along.calls a0_0 _ _ l0_1 a1 1 t248 _ ?side1 ?side2 A6.out).mono ?_
  (case side1 => exact cb_ HR0_1.out)
  (case side2 => exact HC0_1.out)
  rintro e w12 ⟨rfl, hb⟩
  refine ⟨_, rfl, ?_⟩
  have n0_ := bb_ BK244 hb
  have n1_ := Aside0.mk (below_step hb_ hb)
  clear BK244
  clear HB
  have BK244 := n0_
  have HB := n1_
  clear n0_ n1_
  (try clear hb)
  (try clear hb2)
  (try clear hk)
  (try clear hi)
  refine hK.out _ _ ⟨(blk_cell BK244.out 0).trans rfl, (blk_cell BK244.out 1).trans rfl⟩ (fun hHeld => ?_)
  clear hK K
  refine norm_ (a' := ?_) ?_ ?_
  rotate_left
  ·show Act.put _ (some 20) _ = _
   simp only [Act.put, List.setIfInBounds_toArray, List.set_cons_zero, List.set_cons_succ, i64_w, i32_w]
   rfl
  refine one_ (i := 13) (N := some 21) #[true, true, true, true, true, true, true, true, true, true, true, true, true, true, false, true] rfl rfl (one_of HT_.out (by kernel_rfl)) (by decide) (fun K hK => ?_)
  refine Kd.R_lit_step (Kd.int .i64) _ 3 ?hg (N := 21) ?hd (xs := ([t245, t246, a1, t247, t248] : List Int)) (inner := [.int .i64 t245, .int .i64 t246, .int .i64 a1, .int .i64 t247, .int .i64 t248]) (ok := fun _ => True) (okp := fun _ => True) ?hr ?hp (fun _ hk => hk) trivial (Below.refl _ _) (Nat.le_refl _) (by simp) ?_; (case hd => rfl); (case hg => rfl); (case hr => first | (go_simp; done) | (go_simp; rfl)); (case hp => exact (Reps.one (show Kd.M (Kd.int .i64) _ _ _ t245 [.int .i64 t245] from rfl) (Reps.one (show Kd.M (Kd.int .i64) _ _ _ t246 [.int .i64 t246] from rfl) (Reps.one (show Kd.M (Kd.int .i64) _ _ _ a1 [.int .i64 a1] from rfl) (Reps.one (show Kd.M (Kd.int .i64) _ _ _ t247 [.int .i64 t247] from rfl) (Reps.one (show Kd.M (Kd.int .i64) _ _ _ t248 [.int .i64 t248] from rfl) (Reps.none _ _)))))))
  intro v250 w13 ho14 hb hg_ hnew_
  clear hg_ hnew_
  (first | rw [← Ny249.out] at ho14 | (simp only [Int.reduceToNat] at ho14; rw [← Ny249.out] at ho14))
  have n0_ := Aside0.mk (Kd.R_lower ho14 (below_size hb_))
  have n1_ := bb_ BK244 hb
  have n2_ := Aside0.mk (below_step hb_ hb)
  clear BK244
  clear HB
  have HO251 := n0_
  have BK244 := n1_
  have HB := n2_
  clear n0_ n1_ n2_
  clear hb ho14
  obtain ⟨Ao15, co15, eo15⟩ := Kd.R_slice HO251.out
  (first | subst eo15 | (injection eo15 with f1_ f2_ f3_; have f4_ := f1_.symm; have f5_ := f3_.symm; clear f1_ f2_ f3_; subst f4_; subst f5_))
  refine hK.out _ _ ⟨(blk_cell BK244.out 0).trans rfl, (blk_cell BK244.out 1).trans rfl⟩ (fun hHeld => ?_)
  clear hK K
  refine norm_ (a' := ?_) ?_ ?_
  rotate_left
  ·show Act.put _ (some 21) _ = _
   simp only [Act.put, List.setIfInBounds_toArray, List.set_cons_zero, List.set_cons_succ, i64_w, i32_w]
   rfl
  refine pure_ (i := 14) (N := some 22) (v := ?_) (a' := ?_) #[true, true, true, true, true, true, true, true, true, true, true, true, true, true, true, true] rfl rfl (any_of HT_.out (by kernel_rfl)) (fun _ _ _ h => h) (Or.inl ⟨by rfl, ?_⟩) ?_ ?_
  rotate_left
  ·intro w'
   go_simp
   with_reducible rfl
  rotate_left
  ·simp only [Act.put, List.setIfInBounds_toArray, List.set_cons_zero, List.set_cons_succ, i64_w, i32_w]
   rfl
  refine done_ (done_of HT_.out (by kernel_rfl)) ?_
  try go_wp2
  go_loopg [5, 23] k (fun kq v5 v23 w' => ∃ (x5_1 : List Int) (x23_1 : Int), v23 = .int .i64 x23_1 ∧ Aside0 (impl_Cells_goes.l0 kq x5_1 y249 (y249.length : Int) x23_1 a0_0 l0_1 = some r) ∧ Aside0 (kq ≤ k) ∧ Aside0 (Kd.R (Kd.int .i64) 3 w' w.heap.size (fun k_ => some k_ ≠ ((.slice Ao15 y249.length co15) : Value).ownBlock) v5 x5_1) ∧ Aside0 (Kd.R (Kd.int .i64) 3 w' w.heap.size (fun k_ => some k_ ≠ (v5 : Value).ownBlock) (.slice Ao15 y249.length co15) y249) ∧ Aside0 (w'.heap[gb244]? = some (.cells #[.int .i64 a0_0, (.slice A0_1 l0_1.length c0_1)] 39 (0, 0))) ∧ Aside0 (Below w.heap.size w w'))
  case atStart => exact ⟨(([] : List Int)), (0), es_, H', ⟨Nat.le_refl _⟩, ⟨by first | exact Kd.R_nil _ _ _ _ _ | exact Kd.N_nil _ _ _ _ _ | exact Kd.V_nil _ _ _ _ _ | exact Kd.Q_nil _ _ _ _ _ | exact Kd.S_nil _ _ _ _ _⟩, ⟨by (with_reducible repeat (first | apply Kd.R_alloc | apply Kd.R_drewN | apply Kd.R_drew)); exact Kd.R_mono HO251.out (fun _ hk => (by simp [Value.ownBlock]))⟩, ⟨bk_ BK244.out⟩, ⟨hb_⟩⟩
  case round =>
   clear H'
   try clear p2
   try clear c5
   try clear c7
   obtain ⟨x5_1, x23_1, rfl, HA, HK1, HO_5, HO_21, BK244, HB⟩ := hrel
   cases gk with
   | zero => exact absurd HA.out (by simp [impl_Cells_goes.l0])
   | succ k1 =>
    have H := HA.out
    clear HA
    simp only [impl_Cells_goes.l0] at H
    by_cases c16 : x23_1 < (y249.length : Int)
    ·rw [if_pos c16] at H
     have c16b0 : decide (x23_1 < (y249.length : Int)) = true := decide_eq_true c16
     clear c16
     by_cases c17 : 0 ≤ x23_1
     ·rw [if_pos c17] at H
      have c17b0 : decide (0 ≤ x23_1) = true := decide_eq_true c17
      clear c17
      by_cases c18 : x23_1 < (y249.length : Int)
      ·rw [if_pos c18] at H
       have c18b0 : decide (x23_1 < (y249.length : Int)) = true := decide_eq_true c18
       clear c18
       replace H := Option.bind_eq_some_iff.mp H
       obtain ⟨t253, A190, H⟩ := H
       replace H : (if t253 = true then (if x5_1.length < 17592186044416 then (impl_Cells_goes.l0 k1 (x5_1 ++ [rd y249 x23_1]) y249 (y249.length : Int) (wrap64 (x23_1 + 1)) a0_0 l0_1) else (none)) else (impl_Cells_goes.l0 k1 x5_1 y249 (y249.length : Int) (wrap64 (x23_1 + 1)) a0_0 l0_1)) = some r := H
       have A19 := Aside0.mk A190
       clear A190
       by_cases c20 : t253 = true
       ·subst c20
        rw [if_pos rfl] at H
        by_cases c21 : x5_1.length < 17592186044416
        ·rw [if_pos c21] at H
         have LMc21 := Aside0.mk c21
         clear c21
         obtain ⟨y254, hy254⟩ : ∃ y_ : List Int, y_ = (x5_1 ++ [rd y249 x23_1]) := ⟨_, rfl⟩
         replace H : (impl_Cells_goes.l0 k1 y254 y249 (y249.length : Int) (wrap64 (x23_1 + 1)) a0_0 l0_1) = some r := by first | (rw [hy254]; with_reducible exact H) | (have H2_ := (Option.bind_some _ _).symm.trans H; rw [hy254]; with_reducible exact H2_) | (have H2_ := (Option.bind_some _ _).symm.trans H; with_reducible exact H2_) | with_reducible exact H | (rw [hy254]; exact H) | exact H
         have Ny254 := Aside0.mk hy254
         clear hy254
         have H' := Aside0.mk H
         clear H
         have p252 : 0 ≤ (x23_1 : Int) := of_decide_eq_true as_
         have q252 : x23_1 < (y249.length : Int) := of_decide_eq_true as_
         obtain ⟨ad252, e252, hx252_0⟩ := Kd.at_int (Kd.R_reads' HO_21.out).2.2 x23_1 p252 q252
         cases e252
         replace p252 := eq_true p252
         replace q252 := eq_true q252
         have hcz22_0 : wr.cell? ⟨gb244, 0, none⟩ = some (.int .i64 a0_0) := (blk_cell BK244.out 0).trans rfl
         have hcz22_1 : wr.cell? ⟨gb244, 1, none⟩ = some (.slice A0_1 l0_1.length c0_1) := (blk_cell BK244.out 1).trans rfl
         have hfz22_0 := blk_frozen BK244.out 0
         have hfz22_1 := blk_frozen BK244.out 1
         go_wp2_with (first | ((with_reducible refine gate_callee (f := 55) rfl ?_); refine goesL_ (some 29) rfl rfl Try.func55 (by kernel_rfl) rfl #[.agg #[.int .i64 a0_0, .slice A0_1 l0_1.length c0_1], .int .i64 (rd y249 x23_1)] rfl ls_ ?_; (with_reducible refine (impl_Cells_free.calls a0_0 _ _ l0_1 (rd y249 x23_1) true _ ?side1 ?side2 A19.out).mono ?_); (case side1 => exact cb_ HR0_1.out); (case side2 => exact HC0_1.out); rintro e w23 ⟨rfl, hb⟩; refine ⟨_, rfl, ?_⟩; have n0_ := Aside0.mk (Kd.R_below (ra_ HO_5.out) hb); have n1_ := Aside0.mk (Kd.R_below (ra_ HO_21.out) hb); have n2_ := bb_ BK244 hb; have n3_ := Aside0.mk (below_step hb_ hb); clear HO_5; clear HO_21; clear BK244; clear HB; have HO_5 := n0_; have HO_21 := n1_; have BK244 := n2_; have HB := n3_; clear n0_ n1_ n2_ n3_; (try clear hb); (try clear hb2); (try clear hk); (try clear hi)) | ((with_reducible refine gate_builtin (b := .append) (xs := #[.tmp 30, .tmp 32]) rfl ?_); at_builtin; refine Kd.R_append (Kd.int .i64) (w0 := w) w.heap.size rfl (.tmp 30) (.tmp 32) 22 3 (.int .i64 0) 8 rfl Try.underlying22 info3 rfl (by decide) (by omega) u5 x5_1 (rd y249 x23_1) [.int .i64 (rd y249 x23_1)] (fun k_ => some k_ ≠ (.slice (some ad252) y249.length co15 : Value).ownBlock) (fun _ => False) rfl rfl ?aP (fun _ hk => hk.elim) ?aF ?aO ?aB ?aS ?aL ?_; (case aP => exact rfl); (case aB => exact hb_); (case aF => exact (fun k_ hk => Kd.fresh' (Kd.R_lt (ra_ HO_21.out)) k_ hk)); (case aO => exact (ra_ HO_5.out)); (case aS => exact (below_size hb_)); (case aL => have := LMc21.out; omega); intro v255 w24 ho hb hg hat; rw [← Ny254.out] at ho; have n0_ := Aside0.mk (Kd.R_after (ok := (fun _ => True)) (by (with_reducible repeat (first | apply Kd.R_alloc | apply Kd.R_drewN | apply Kd.R_drew)); exact Kd.R_mono HO_21.out (fun _ hk => ⟨trivial, hk⟩)) hg hat); have n1_ := Aside0.mk (blk_grown (g := gb244) (o := .cells #[.int .i64 a0_0, .slice A0_1 l0_1.length c0_1] 39 (0, 0)) (bk_ BK244.out) hg (Kd.R_ne HO_5.out BK244.out (by decide))); have n2_ := Aside0.mk (hb); have n3_ := Aside0.mk (ho); clear HO_21; clear BK244; clear HB; clear HO_5; have HO_21 := n0_; have BK244 := n1_; have HB := n2_; have HO256 := n3_; clear n0_ n1_ n2_ n3_; clear ho hb hg hat))
         go_roundg k1
         case measure => have := HK1.out; omega
         case rel => exact ⟨(y254), (wrap64 (x23_1 + 1)), es_, H', ⟨by have := HK1.out; omega⟩, ⟨ra_ HO256.out⟩, ⟨by (with_reducible repeat (first | apply Kd.R_alloc | apply Kd.R_drewN | apply Kd.R_drew)); exact Kd.R_mono HO_21.out (fun _ hk => hk.2)⟩, ⟨bk_ BK244.out⟩, ⟨hb_⟩⟩
        ·rw [if_neg c21] at H
         exact absurd H (by simp)
       ·replace c20 := Bool.eq_false_iff.mpr c20
        subst c20
        rw [if_neg (show ¬ (false = true) by decide)] at H
        have H' := Aside0.mk H
        clear H
        have p252 : 0 ≤ (x23_1 : Int) := of_decide_eq_true as_
        have q252 : x23_1 < (y249.length : Int) := of_decide_eq_true as_
        obtain ⟨ad252, e252, hx252_0⟩ := Kd.at_int (Kd.R_reads' HO_21.out).2.2 x23_1 p252 q252
        cases e252
        replace p252 := eq_true p252
        replace q252 := eq_true q252
        have hcz25_0 : wr.cell? ⟨gb244, 0, none⟩ = some (.int .i64 a0_0) := (blk_cell BK244.out 0).trans rfl
        have hcz25_1 : wr.cell? ⟨gb244, 1, none⟩ = some (.slice A0_1 l0_1.length c0_1) := (blk_cell BK244.out 1).trans rfl
        have hfz25_0 := blk_frozen BK244.out 0
        have hfz25_1 := blk_frozen BK244.out 1
        go_wp2_with (first | ((with_reducible refine gate_callee (f := 55) rfl ?_); refine goesL_ (some 29) rfl rfl Try.func55 (by kernel_rfl) rfl #[.agg #[.int .i64 a0_0, .slice A0_1 l0_1.length c0_1], .int .i64 (rd y249 x23_1)] rfl ls_ ?_; (with_reducible refine (impl_Cells_free.calls a0_0 _ _ l0_1 (rd y249 x23_1) false _ ?side1 ?side2 A19.out).mono ?_); (case side1 => exact cb_ HR0_1.out); (case side2 => exact HC0_1.out); rintro e w26 ⟨rfl, hb⟩; refine ⟨_, rfl, ?_⟩; have n0_ := Aside0.mk (Kd.R_below (ra_ HO_5.out) hb); have n1_ := Aside0.mk (Kd.R_below (ra_ HO_21.out) hb); have n2_ := bb_ BK244 hb; have n3_ := Aside0.mk (below_step hb_ hb); clear HO_5; clear HO_21; clear BK244; clear HB; have HO_5 := n0_; have HO_21 := n1_; have BK244 := n2_; have HB := n3_; clear n0_ n1_ n2_ n3_; (try clear hb); (try clear hb2); (try clear hk); (try clear hi)))
        go_roundg k1
        case measure => have := HK1.out; omega
        case rel => exact ⟨(x5_1), (wrap64 (x23_1 + 1)), es_, H', ⟨by have := HK1.out; omega⟩, ⟨ra_ HO_5.out⟩, ⟨ra_ HO_21.out⟩, ⟨bk_ BK244.out⟩, ⟨hb_⟩⟩
      ·rw [if_neg c18] at H
       exact absurd H (by simp)
     ·rw [if_neg c17] at H
      exact absurd H (by simp)
    ·rw [if_neg c16] at H
     have c16b0 : decide (x23_1 < (y249.length : Int)) = false := decide_eq_false c16
     clear c16
     obtain rfl := Option.some.inj H
     go_wp2
     go_ret
     exact ⟨_, er_, by (with_reducible repeat (first | apply Kd.R_alloc | apply Kd.R_drewN | apply Kd.R_drew)); exact Kd.R_mono HO_5.out (fun _ hk => trivial), hb_⟩

end Go.Proofs.Ytcldlljnaijmhaa.Pr
/-
Own text: maps at the operations: one that is made, one that is written; a queue's first element taken off.
-/
namespace Go.Proofs.Ytcldlljnaijmhaa.Mp
open Go.RowKit Go.Proofs.YtcldlljnaijmhaaW.PrintWords Go.Proofs.YtcldlljnaijmhaaW.PrintLast Go.Proofs.YtcldlljnaijmhaaW.PrintMore
open Go.MapKept Go.ChangeMaps
set_option linter.unusedVariables false

theorem kept_block {w : World} {b : Nat} {o' : Obj} : Kept w (setBlock w b o') (fun k => k = b) :=
  ⟨by simp [setBlock], fun i hi hn => by simp [setBlock, Ne.symm hn]⟩
theorem below_block {B : Nat} {w W : World} {b : Nat} {o' : Obj} (h : Below B w W) (hb : B ≤ b) : Below B w (setBlock W b o') :=
  ⟨h.os, h.tape, h.output, by simpa [setBlock] using h.size, fun i hi => by rw [← h.block i hi]; simp [setBlock, show ¬ b = i by omega]⟩
section
variable {P : Program} {ops : Array Oper} {rest : List Oper} {o : Oper} {a : Act} {Q : Exit → Act → World → Prop}
variable {α β : Type} {ek : α → Value} {ev : β → Value}
/-- make(map[K]V). -/
theorem make_event {W : World} (hgd : o.guard = none) {N : Tmp} (_hd : o.dst = some N) {t : TypeId} (ho : o.op = .makeMap t none) (ek : α → Value) (ev : β → Value)
    (h : ∀ g, g = W.heap.size → ∀ w1, w1.heap[g]? = some (mobj ek ev []) → Below W.heap.size W w1 → wpList P ops Q rest (a.put o.dst (.map (some g))) w1) : wpList P ops Q (o :: rest) a W := by
  refine Kd.event_run (w1 := W.alloc (.map #[] 0)) (v := .map (some W.heap.size)) hgd ?_ (h _ rfl _ (blk_new W _) (below_alloc (Below.refl _ _) _))
  unfold execOp
  rw [ho]
  simp [Instr.makeMap, Result.andThen]
variable [DecidableEq α]
/-- m[x] = v. -/
theorem put_event {W : World} {w0 : World} {B : Nat} (hgd : o.guard = none) (hN : o.dst = none) {t kt e : TypeId} {m x v : Operand} (ho : o.op = .mapUpdate t m x v ∨ o.op = .insert t m x v) (K : Key P kt ek) (ht : P.underlying t = some (.map kt e))
    {g : Nat} {L : List (α × β)} (hb : W.heap[g]? = some (mobj ek ev L)) (key : α) (val : β) (hm : a.eval m = .map (some g)) (hx : a.eval x = ek key) (hv : a.eval v = ev val) (HB : Below B w0 W) (hBg : B ≤ g)
    (h : ∀ w1, w1.heap[g]? = some (mobj ek ev (put L key val)) → Kept W w1 (fun k => k = g) → Below B w0 w1 → wpList P ops Q rest a w1) : wpList P ops Q (o :: rest) a W := by
  have hrun := run_put K ht hb key val
  refine wpList_plain hgd fun K' hK' => ?_
  have he : (execOp a.eval o).run P W = .ok .skip (setBlock W g (mobj ek ev (put L key val))) := by
    unfold execOp
    rcases ho with ho | ho <;> rw [ho] <;> simp [hm, hx, hv, hrun, Result.andThen]
  unfold Oper.wp
  rw [he]
  show K' (a.put o.dst undef) _
  rw [hN]
  exact hK' _ _ (h _ (setBlock_at hb _) kept_block (below_block HB hBg))
end
theorem gate_mapUpdate {P : Program} {ops : Array Oper} {rest : List Oper} {o : Oper} {a : Act} {Q : Exit → Act → World → Prop} {W : World} {t : TypeId} {m x v : Operand} (_ho : o.op = .mapUpdate t m x v) (h : wpList P ops Q (o :: rest) a W) : wpList P ops Q (o :: rest) a W := h
theorem gate_insert {P : Program} {ops : Array Oper} {rest : List Oper} {o : Oper} {a : Act} {Q : Exit → Act → World → Prop} {W : World} {t : TypeId} {m x v : Operand} (_ho : o.op = .insert t m x v) (h : wpList P ops Q (o :: rest) a W) : wpList P ops Q (o :: rest) a W := h
theorem cells_map {α β : Type} {ek : α → Value} {ev : β → Value} {L : List (α × β)} {w : World} {g gm t : Nat} {cs : Array Value} (h : w.heap[g]? = some (.cells cs t (0, 0))) (hm : w.heap[gm]? = some (mobj ek ev L)) : ¬ g = gm := fun e => by
  rw [e, hm] at h
  cases h
/-- q = q[1:]. -/
theorem Q_pop {P : Program} {α : Type} {d : Kd α} (t e : TypeId) (ht : P.underlying t = some (.slice e)) {z : Value} {bytes : Nat} (hinfo : (P.info? e).map (fun i => (i.zero, i.size, i.bytes)) = some (some z, d.sz, bytes))
    {w : World} {base : Nat} {ok : Nat → Prop} {A : Option Addr} {n c : Nat} {xs : List α} (h : d.Q e w base ok (.slice A n c) xs) (hn : 1 ≤ xs.length) :
    ∃ v, (∀ W : World, (Instr.slice t (.slice A n c) (some (.int .i64 1)) none none).run P W = .ok v W) ∧ d.Q e w base ok v (xs.drop 1) := by
  obtain ⟨i0, hi, hz0, hz1, hz2⟩ := info_parts hinfo
  obtain ⟨hl, _, _⟩ := Kd.Q_reads' h
  exact ⟨_, cut_from t e .i64 ht hi d.sz hz1 A n c 1 (by omega) (by omega), Kd.Q_drop (k := 1) h hn⟩
end Go.Proofs.Ytcldlljnaijmhaa.Mp
/-
Own text, by hand: the walk of AloneTicks (gen-alone.py).
-/
namespace Go.Proofs.Ytcldlljnaijmhaa.Pr
open Go.RowKit Go.Proofs.YtcldlljnaijmhaaW.PrintWords Go.Proofs.YtcldlljnaijmhaaW.PrintLast Go.Proofs.YtcldlljnaijmhaaW.PrintMore Go.Proofs.Ytcldlljnaijmhaa.Mp
open Bfs (Run relax open_)
set_option linter.unusedVariables false
set_option linter.unusedSimpArgs false

theorem keyI : Key Try.prog 3 (Value.int .i64) := Key.int Try.underlying3
theorem zeroI (w : World) : (zeroValue 3).run Try.prog w = .ok (.int .i64 0) w := by kernel_rfl
def Iv (a b k : Nat) : Prop := a ≤ k ∧ k < b
/-- One round of the search. -/
theorem run_cons {nx : Int → List Int} {g : Nat} {D D' : List (Int × Int)} {Q : List Int} (h : Run nx g D Q D') (hq : 0 < Q.length) : ∃ g' d, g = g' + 1 ∧ lk D (rd Q 0) = some d ∧ Run nx g' (relax d D (Q.drop 1) (nx (rd Q 0))).1 (relax d D (Q.drop 1) (nx (rd Q 0))).2 D' := by
  cases h with
  | done => simp at hq
  | step hd hr => exact ⟨_, _, rfl, hd, hr⟩
theorem run_nil {nx : Int → List Int} {g : Nat} {D D' : List (Int × Int)} {Q : List Int} (h : Run nx g D Q D') (hq : ¬ 0 < Q.length) : D = D' := by
  cases h with
  | done => rfl
  | step hd hr => simp at hq
set_option maxHeartbeats 4000000 in
set_option maxRecDepth 100000 in
theorem alone_good (a0_0 : Int) (A0_1 : Option Addr) (c0_1 : Nat) (l0_1 : List Int) (a1_0 : Int) (a1_1 : Int) (r : Int) (k : Nat) (w : World) (hr0_1 : Kd.C (Kd.int .i64) w A0_1 l0_1.length l0_1) (hc0_1 : l0_1.length ≤ c0_1)
    (hg : impl_GoodTrips.f k a0_0 l0_1 [⟨a1_0, a1_1⟩] = some true) (hG : Pure.Gt a0_0 l0_1 [⟨a1_0, a1_1⟩]) (hr : (lk (Bfs.fin (Pure.Gos a0_0 l0_1) a1_0) a1_1).getD (-1) = r) :
    Calls Try.prog 33 #[.agg #[.int .i64 a0_0, .slice A0_1 l0_1.length c0_1], .agg #[.int .i64 a1_0, .int .i64 a1_1]] w fun e w' => e = .returned (.int .i64 r) ∧ Below w.heap.size w w' := by
  have hu39 := Try.underlying39
  have hu49 := Try.underlying49
  have hu75 := Try.underlying75
  have HR := Aside0.mk hr0_1
  have HC := Aside0.mk hc0_1
  have HG := Aside0.mk hg
  have HRes := Aside0.mk hr
  have hCl : Aside0 (Pure.Cl a0_0 l0_1) := ⟨hG.1⟩
  obtain ⟨hFs, hFt⟩ : Aside0 (Pure.Fr l0_1 a1_0) ∧ Aside0 (Pure.Fr l0_1 a1_1) := by
    have hf := (hG.2.2 0 (Nat.le_refl _) (by simp)).1
    exact ⟨⟨hf.1⟩, ⟨hf.2⟩⟩
  obtain ⟨n0, hrun⟩ := Bfs.fin_run (nx := Pure.Gos a0_0 l0_1) (s := a1_0) (Pure.Us l0_1.length) (Pure.mem_Us.2 ⟨hFs.out.1, hFs.out.2.1⟩) Pure.Gos_in
  have HRun := Aside0.mk hrun
  generalize Bfs.fin (Pure.Gos a0_0 l0_1) a1_0 = DF at HRun HRes
  clear hr0_1 hc0_1 hg hG hr hrun
  have HB := Aside0.mk (Below.refl w.heap.size w)
  obtain ⟨y0, hy0⟩ : ∃ y, y = [(⟨a1_0, a1_1⟩ : S49)] := ⟨_, rfl⟩
  rw [← hy0] at HG
  have Ny := Aside0.mk hy0
  clear hy0
  go_enter Try.func33, Try.ntmps33
  go_wp2_with (first
    | ((with_reducible refine gate_dst (N := 2) rfl ?_); refine box_event ?hg (N := 2) ?hd (cs := #[.int .i64 a0_0, .slice A0_1 l0_1.length c0_1]) (t := 39) ?hr ?_; (case hd => rfl); (case hg => rfl); (case hr => first | (go_simp; done) | (go_simp; rfl)); intro g0 hg w1 hbox hb; have n0_ := Aside0.mk (below_step HB.out hb); have n1_ := Aside0.mk (hbox); have n2_ := Aside0.mk (show w.heap.size ≤ g0 by rw [hg]; exact HB.out.size); clear HB; have HB := n0_; have B0 := n1_; have G0 := n2_; clear n0_ n1_ n2_; clear hb hbox hg)
    | ((with_reducible refine gate_dst (N := 3) rfl ?_); refine box_event ?hg (N := 3) ?hd (cs := #[.int .i64 a1_0, .int .i64 a1_1]) (t := 49) ?hr ?_; (case hd => rfl); (case hg => rfl); (case hr => first | (go_simp; done) | (go_simp; rfl)); intro g1 hg w2 hbox hb; have n0_ := Aside0.mk (below_step HB.out hb); have n1_ := Aside0.mk (blk_below B0.out hb); have n2_ := Aside0.mk (hbox); have n3_ := Aside0.mk (show w.heap.size ≤ g1 by rw [hg]; exact HB.out.size); clear HB B0; have HB := n0_; have B0 := n1_; have B1 := n2_; have G1 := n3_; clear n0_ n1_ n2_ n3_; clear hb hbox hg; have zg0_0 : w2.cell? ⟨g0, 0, none⟩ = some (.int .i64 a0_0) := (blk_cell B0.out 0).trans rfl; have fzg0_0 := blk_frozen B0.out 0; have zg0_1 : w2.cell? ⟨g0, 1, none⟩ = some (.slice A0_1 l0_1.length c0_1) := (blk_cell B0.out 1).trans rfl; have fzg0_1 := blk_frozen B0.out 1; have zg1_0 : w2.cell? ⟨g1, 0, none⟩ = some (.int .i64 a1_0) := (blk_cell B1.out 0).trans rfl; have fzg1_0 := blk_frozen B1.out 0; have zg1_1 : w2.cell? ⟨g1, 1, none⟩ = some (.int .i64 a1_1) := (blk_cell B1.out 1).trans rfl; have fzg1_1 := blk_frozen B1.out 1)
    | ((with_reducible refine gate_dst (N := 16) rfl ?_); refine Kd.R_lit k49 _ 49 ?hg (N := 16) ?hd (xs := [(⟨a1_0, a1_1⟩ : S49)]) (inner := [.int .i64 a1_0, .int .i64 a1_1]) (ok := fun _ => True) (okp := fun _ => True) ?hr ?hp (fun _ hk => hk) trivial (Below.refl _ _) (Nat.le_refl _) (by simp) ?_; (case hd => rfl); (case hg => rfl); (case hr => first | (go_simp; done) | (go_simp; rfl)); (case hp => exact (Reps.c2 (show Kd.M k49 _ _ _ (⟨a1_0, a1_1⟩ : S49) [.int .i64 a1_0, .int .i64 a1_1] from (k49_mkM _ _ _ (⟨a1_0, a1_1⟩ : S49) )) (Reps.none _ _))); intro v3 w3 ho hb hg_ hnew_; clear hg_ hnew_; rw [← Ny.out] at ho; clear zg0_0 fzg0_0 zg0_1 fzg0_1; clear zg1_0 fzg1_0 zg1_1 fzg1_1; have n0_ := Aside0.mk (below_step HB.out hb); have n1_ := Aside0.mk (blk_below B0.out hb); have n2_ := Aside0.mk (blk_below B1.out hb); clear HB B0 B1; have HB := n0_; have B0 := n1_; have B1 := n2_; clear n0_ n1_ n2_; clear hb; obtain ⟨A3, c3, e3⟩ := Kd.R_slice ho; subst e3; have HO3 := Aside0.mk ho; clear ho)
    | (go_at_call 28; (with_reducible refine (impl_GoodTrips.calls k a0_0 A0_1 c0_1 l0_1 A3 c3 y0 true _ ?s1 HC.out ?s2 ?s3 HG.out).mono ?_); (case s1 => exact Kd.C_below HR.out HB.out); (case s2 => exact (Kd.R_reads' HO3.out).2.2); (case s3 => exact (Kd.R_reads' HO3.out).2.1); rintro e w4 ⟨rfl, hb⟩; have n0_ := Aside0.mk (below_step HB.out hb); have n1_ := Aside0.mk (blk_below B0.out hb); have n2_ := Aside0.mk (blk_below B1.out hb); clear HB B0 B1 HO3; have HB := n0_; have B0 := n1_; have B1 := n2_; clear n0_ n1_ n2_; clear hb)
    | ((with_reducible refine gate_dst (N := 19) rfl ?_); refine make_event (t := 75) ?hg (N := 19) ?hd ?ho (Value.int .i64) (Value.int .i64) ?_; (case hd => rfl); (case hg => rfl); (case ho => rfl); intro gm hg w5 hbox hb; have n0_ := Aside0.mk (below_step HB.out hb); have n1_ := Aside0.mk (blk_below B0.out hb); have n2_ := Aside0.mk (blk_below B1.out hb); have n3_ := Aside0.mk (hbox); have n4_ := Aside0.mk (show w.heap.size ≤ gm by rw [hg]; exact HB.out.size); clear HB B0 B1; have HB := n0_; have B0 := n1_; have B1 := n2_; have M := n3_; have GM := n4_; clear n0_ n1_ n2_ n3_ n4_; clear hb hbox hg; have zg1_0 : w5.cell? ⟨g1, 0, none⟩ = some (.int .i64 a1_0) := (blk_cell B1.out 0).trans rfl; have fzg1_0 := blk_frozen B1.out 0; have zg1_1 : w5.cell? ⟨g1, 1, none⟩ = some (.int .i64 a1_1) := (blk_cell B1.out 1).trans rfl; have fzg1_1 := blk_frozen B1.out 1)
    | ((with_reducible refine gate_insert (t := 75) (m := .tmp 19) (x := .tmp 21) rfl ?_); refine put_event (P := Try.prog) ?hg ?hN (.inr rfl) keyI Try.underlying75 M.out a1_0 0 ?hm ?hx ?hv HB.out GM.out ?_; (case hg => rfl); (case hN => rfl); (case hm => rfl); (case hx => rfl); (case hv => rfl); intro w6 hM hk hb; clear zg1_0 fzg1_0 zg1_1 fzg1_1; have n0_ := Aside0.mk (hb); have n1_ := Aside0.mk (blk_kept B0.out hk (cells_map B0.out M.out)); have n2_ := Aside0.mk (blk_kept B1.out hk (cells_map B1.out M.out)); have n3_ := Aside0.mk (hM); clear HB B0 B1 M; have HB := n0_; have B0 := n1_; have B1 := n2_; have M := n3_; clear n0_ n1_ n2_ n3_; clear hM hk hb; have zg1_0 : w6.cell? ⟨g1, 0, none⟩ = some (.int .i64 a1_0) := (blk_cell B1.out 0).trans rfl; have fzg1_0 := blk_frozen B1.out 0; have zg1_1 : w6.cell? ⟨g1, 1, none⟩ = some (.int .i64 a1_1) := (blk_cell B1.out 1).trans rfl; have fzg1_1 := blk_frozen B1.out 1)
    | ((with_reducible refine gate_dst (N := 25) rfl ?_); refine Kd.R_lit (Kd.int .i64) w.heap.size 3 ?hg (N := 25) ?hd (xs := [a1_0]) (inner := [.int .i64 a1_0]) (ok := fun k => ¬ k = gm) (okp := fun _ => False) ?hr ?hp (fun _ hk => hk.elim) (fun e => Nat.ne_of_gt (blk_lt M.out) e) HB.out HB.out.size (by simp) ?_; (case hd => rfl); (case hg => rfl); (case hr => first | (go_simp; done) | (go_simp; rfl)); (case hp => exact (Reps.one (show Kd.M (Kd.int .i64) _ _ _ a1_0 [.int .i64 a1_0] from rfl) (Reps.none _ _))); intro v7 w7 ho hb hg_ hnew_; clear hnew_; clear zg1_0 fzg1_0 zg1_1 fzg1_1; have n0_ := Aside0.mk (hb); have n1_ := Aside0.mk (blk_grown B0.out hg_ (by simp)); have n2_ := Aside0.mk (blk_grown B1.out hg_ (by simp)); have n3_ := Aside0.mk (blk_grown M.out hg_ (by simp)); have n4_ := Aside0.mk (Kd.Q_of_R ho); clear HB B0 B1 M; have HB := n0_; have B0 := n1_; have B1 := n2_; have M := n3_; have HQ := n4_; clear n0_ n1_ n2_ n3_ n4_; clear hb ho hg_)
    | fail)
  have HLen : Aside0 ([a1_0].length + open_ [(a1_0, (0 : Int))] (Pure.Us l0_1.length) ≤ 1000) := ⟨by have := Pure.open_le [(a1_0, (0 : Int))] (Pure.Us l0_1.length); rw [Pure.Us_length] at this; have := hCl.out.n256; simp only [List.length_singleton]; omega⟩
  have HLow : Aside0 (Pure.Low [(a1_0, (0 : Int))] (Pure.Us l0_1.length) 1000) := ⟨by
    intro x e hx
    have := Pure.open_le [(a1_0, (0 : Int))] (Pure.Us l0_1.length); rw [Pure.Us_length] at this; have := hCl.out.n256
    simp only [lk] at hx
    split at hx
    · cases hx; omega
    · cases hx⟩
  have HFr : Aside0 (∀ q ∈ [a1_0], Pure.Fr l0_1 q) := ⟨fun q hq => by rw [List.mem_singleton.1 hq]; exact hFs.out⟩
  go_loopg [6] n0 (fun g v6 w' => ∃ (D : List (Int × Int)) (Q : List Int), Aside0 (Run (Pure.Gos a0_0 l0_1) g D Q DF) ∧ Aside0 (Kd.Q (Kd.int .i64) 3 w' w.heap.size (fun k => ¬ k = gm) v6 Q) ∧ Aside0 (Q.length + open_ D (Pure.Us l0_1.length) ≤ 1000) ∧ Aside0 (Pure.Low D (Pure.Us l0_1.length) 1000) ∧ Aside0 (∀ q ∈ Q, Pure.Fr l0_1 q) ∧ Aside0 (w'.heap[g0]? = some (.cells #[.int .i64 a0_0, .slice A0_1 l0_1.length c0_1] 39 (0, 0))) ∧ Aside0 (w'.heap[g1]? = some (.cells #[.int .i64 a1_0, .int .i64 a1_1] 49 (0, 0))) ∧ Aside0 (w'.heap[gm]? = some (mobj (Value.int .i64) (Value.int .i64) D)) ∧ Aside0 (Below w.heap.size w w'))
  case atStart => exact ⟨[(a1_0, 0)], [a1_0], HRun, HQ, HLen, HLow, HFr, B0, B1, M, HB⟩
  case round =>
   clear HRun HQ HLen HLow HFr B0 B1 M HB Ny HG
   obtain ⟨D, Q, HRun, HQ, HLen, HLow, HFr, B0, B1, M, HB⟩ := hrel
   obtain ⟨wo, rfl⟩ : ∃ wo : World, wo = wr := ⟨_, rfl⟩
   obtain ⟨A6, c6, e6, hc6⟩ := Kd.Q_slice HQ.out
   subst e6
   by_cases cq : 0 < Q.length
   ·obtain ⟨g', d, hgk, hd, hrun⟩ := run_cons HRun.out cq
    have hfc : Pure.Fr l0_1 (rd Q 0) := HFr.out _ (by unfold rd; exact EvKit.getD_mem Q 0 0 cq)
    obtain ⟨gq, oq, cap, e6, _, _, _⟩ := Kd.Q_form HQ.out cq
    injection e6 with e6 _ e7
    subst e6 e7
    have hcell : wo.cell? ⟨gq, oq, none⟩ = some (.int .i64 (rd Q 0)) := (Kd.Q_cell 0 HQ.out 0 (by omega) (by omega)).1
    obtain ⟨v', hcut, hQ'⟩ := Q_pop (P := Try.prog) 22 3 Try.underlying22 info3 HQ.out cq
    have HQ' := Aside0.mk hQ'
    obtain ⟨k2, hk2⟩ := Ev.rounds (Pure.goes_ev hCl.out hfc).1
    generalize rd Q 0 = c at hfc hcell hd hrun hk2
    obtain ⟨l, hl⟩ : ∃ l, l = Pure.Gos a0_0 l0_1 c := ⟨_, rfl⟩
    rw [← hl] at hk2 hrun
    have HLk := Aside0.mk (show ∀ n ∈ l, Pure.Fr l0_1 n by rw [hl]; exact fun n hn => Pure.Gos_free hn)
    have hlen := show l.length ≤ 100 by rw [hl]; exact Pure.Gos_len _ _ _
    have HL100 := Aside0.mk hlen
    obtain ⟨Q0, hQ0⟩ : ∃ Q0, Q0 = Q.drop 1 := ⟨_, rfl⟩
    rw [← hQ0] at hrun HQ'
    have HLen' : Aside0 (Q0.length + 1 + open_ D (Pure.Us l0_1.length) ≤ 1000) := ⟨by rw [hQ0, List.length_drop]; have := HLen.out; omega⟩
    have HFr' : Aside0 (∀ q ∈ Q0, Pure.Fr l0_1 q) := ⟨fun q hq => HFr.out q (by rw [hQ0] at hq; exact List.mem_of_mem_drop hq)⟩
    obtain ⟨FD, FQ, hfin⟩ : ∃ FD FQ, relax d D Q0 l = (FD, FQ) := ⟨_, _, rfl⟩
    rw [hfin] at hrun
    have HFin := Aside0.mk hfin
    have HRun' := Aside0.mk hrun
    have HD := Aside0.mk hd
    have Hfc := Aside0.mk hfc
    have HK2 := Aside0.mk hk2
    have HGk := Aside0.mk hgk
    have HD2 := HLow.out c d hd
    have hd0 : 0 ≤ d := HD2.1
    have hd1 : d ≤ 1000 := by omega
    have cqb : decide (0 < Q.length) = true := decide_eq_true cq
    have cqc : decide ((0 : Int) < (Q.length : Int)) = true := decide_eq_true (by omega)
    have cqt := eq_true cq
    clear hQ' hl hrun hfin hd hfc hk2 hlen hQ0 hgk HD2 HLen HFr HRun HQ cq
    have zg0_0 : wo.cell? ⟨g0, 0, none⟩ = some (.int .i64 a0_0) := (blk_cell B0.out 0).trans rfl
    have fzg0_0 := blk_frozen B0.out 0
    have zg0_1 : wo.cell? ⟨g0, 1, none⟩ = some (.slice A0_1 l0_1.length c0_1) := (blk_cell B0.out 1).trans rfl
    have fzg0_1 := blk_frozen B0.out 1
    have HBs := Aside0.mk HB.out.size
    go_wp2_with (first
      | (go_at_call 58; (with_reducible refine (impl_Cells_goes.calls k2 a0_0 A0_1 c0_1 l0_1 c l _ ?s1 HC.out HK2.out).mono ?_); (case s1 => exact Kd.C_below HR.out HB.out); rintro e w8 ⟨v8, rfl, ho, hb⟩; clear zg0_0 fzg0_0 zg0_1 fzg0_1; clear hcell; have hgm_ := blk_lt M.out; have n9_ := Aside0.mk (Kd.R_mono (Kd.R_bound ho) (fun k hk => (⟨hk.2.1, hk.2.2.1⟩ : Iv wo.heap.size w8.heap.size k))); have n0_ := Aside0.mk (below_step HB.out hb); have n1_ := Aside0.mk (blk_below B0.out hb); have n2_ := Aside0.mk (blk_below B1.out hb); have n3_ := Aside0.mk (blk_below M.out hb); have n4_ := Aside0.mk ((Kd.Q_mono (Kd.Q_below (Kd.Q_bound HQ'.out) hb) (fun k hk => (⟨hk.1, fun h2 => by have := h2.1; have := hk.2.2.1; omega⟩ : ¬ k = gm ∧ ¬ Iv wo.heap.size w8.heap.size k)))); clear HB B0 B1 M HQ'; have HB := n0_; have B0 := n1_; have B1 := n2_; have M := n3_; have HQ' := n4_; clear n0_ n1_ n2_ n3_ n4_; have HIv : Aside0 (gm < wo.heap.size ∧ wo.heap.size ≤ w8.heap.size) := ⟨⟨hgm_, hb.size⟩⟩; have HN := Aside0.mk (Kd.R_lower n9_.out (Nat.le_trans HBs.out (Nat.le_refl _))); clear n9_ hb ho hgm_; obtain ⟨A8, c8, e8⟩ := Kd.R_slice HN.out; subst e8)
      | fail)
    go_loopg [6, 38] l.length (fun g v6 v38 w' => ∃ (j : Nat) (D1 : List (Int × Int)) (Q1 : List Int), v38 = .int .i64 j ∧ Aside0 (j + g = l.length) ∧ Aside0 (relax d D1 Q1 (l.drop j) = (FD, FQ)) ∧ Aside0 (lk D1 c = some d) ∧ Aside0 (Kd.Q (Kd.int .i64) 3 w' w.heap.size (fun k => ¬ k = gm ∧ ¬ Iv wo.heap.size w8.heap.size k) v6 Q1) ∧ Aside0 (Kd.R (Kd.int .i64) 3 w' w.heap.size (Iv wo.heap.size w8.heap.size) (.slice A8 l.length c8) l) ∧ Aside0 (Q1.length + 1 + open_ D1 (Pure.Us l0_1.length) ≤ 1000) ∧ Aside0 (Pure.Low D1 (Pure.Us l0_1.length) 1000) ∧ Aside0 (∀ q ∈ Q1, Pure.Fr l0_1 q) ∧ Aside0 (w8.heap.size ≤ w'.heap.size) ∧ Aside0 (w'.heap[g0]? = some (.cells #[.int .i64 a0_0, .slice A0_1 l0_1.length c0_1] 39 (0, 0))) ∧ Aside0 (w'.heap[g1]? = some (.cells #[.int .i64 a1_0, .int .i64 a1_1] 49 (0, 0))) ∧ Aside0 (w'.heap[gm]? = some (mobj (Value.int .i64) (Value.int .i64) D1)) ∧ Aside0 (Below w.heap.size w w'))
    case atStart => exact ⟨0, D, Q0, rfl, ⟨Nat.zero_add _⟩, ⟨HFin.out⟩, HD, HQ', HN, HLen', HLow, HFr', ⟨Nat.le_refl _⟩, B0, B1, M, HB⟩
    case round =>
     clear HFin HD HQ' HN HLen' HLow HFr' B0 B1 M HB
     obtain ⟨j, D1, Q1, rfl, HJ, HFin, HD, HQ, HN, HLen, HLow, HFr, HSz, B0, B1, M, HB⟩ := hrel
     by_cases cj : j < l.length
     ·have cjb : decide ((j : Int) < (l.length : Int)) = true := decide_eq_true (by omega)
      have cjc : decide (j < l.length) = true := decide_eq_true cj
      have CJ := Aside0.mk cj
      have hR8 := (Kd.R_reads' HN.out).2.2
      obtain ⟨ad, e1, hx⟩ := Kd.at_int hR8 (j : Int) (by omega) (by omega)
      subst e1
      rw [Int.toNat_natCast] at hx
      have hdr : l.drop j = rd l (j : Int) :: l.drop (j + 1) := by
        rw [List.drop_eq_getElem_cons cj]
        congr 1
        unfold rd
        simp [List.getD_eq_getElem?_getD, List.getElem?_eq_getElem cj]
      have hfn : Pure.Fr l0_1 (rd l (j : Int)) := HLk.out _ (by unfold rd; exact EvKit.getD_mem l j 0 cj)
      have hfin := HFin.out
      rw [hdr] at hfin
      generalize rd l (j : Int) = n at hx hfin hfn
      have Hfn := Aside0.mk hfn
      have cjt := eq_true cj
      have hw : wrap64 ((j : Int) + 1) = ((j + 1 : Nat) : Int) := Pure.succ_w (by have := HL100.out; omega)
      have HW := Aside0.mk hw
      clear hw cj hdr hR8 hfn HFin
      cases hk : lk D1 n with
      | none =>
       have hl0 := run_lk_ok keyI Try.underlying75 (zeroI wr) M.out n
       have hl1 := run_lk keyI Try.underlying75 (zeroI wr) M.out c
       rw [hk] at hl0
       rw [HD.out] at hl1
       simp only [Option.map_none, Option.getD_none, Option.isSome_none] at hl0
       simp only [Option.map_some, Option.getD_some] at hl1
       have HK := Aside0.mk hk
       simp only [relax, hk, if_true] at hfin
       have HFin := Aside0.mk hfin
       clear hk hfin
       go_wp2_with (first
         | ((with_reducible refine gate_mapUpdate (t := 75) (m := .tmp 50) (x := .tmp 51) rfl ?_); refine put_event (P := Try.prog) ?hg ?hN (.inl rfl) keyI Try.underlying75 M.out n (d + 1) ?hm ?hx ?hv HB.out GM.out ?_; (case hg => rfl); (case hN => rfl); (case hm => rfl); (case hx => rfl); (case hv => rfl); intro w9 hM hk hb; clear hx hl0 hl1; have hsz := hk.1; have n0_ := Aside0.mk (hb); have n1_ := Aside0.mk (blk_kept B0.out hk (cells_map B0.out M.out)); have n2_ := Aside0.mk (blk_kept B1.out hk (cells_map B1.out M.out)); have n3_ := Aside0.mk (hM); have n4_ := Aside0.mk (Kd.Q_kept HQ.out hk (fun k h1 h2 => h1.1 h2)); have n5_ := Aside0.mk (Kd.R_kept HN.out hk (fun k h1 h2 => by have := h1.1; have := HIv.out; omega)); have n6_ := Aside0.mk (Nat.le_trans HSz.out hsz); clear HB B0 B1 M HQ HN HSz; have HB := n0_; have B0 := n1_; have B1 := n2_; have M := n3_; have HQ := n4_; have HN := n5_; have HSz := n6_; clear n0_ n1_ n2_ n3_ n4_ n5_ n6_; clear hM hk hb hsz)
         | ((with_reducible refine gate_builtin (b := .append) (xs := #[.tmp 56, .tmp 58]) rfl ?_); at_builtin; refine Kd.Q_append (Kd.int .i64) (w0 := w) w.heap.size rfl (.tmp 56) (.tmp 58) 22 3 (.int .i64 0) 8 rfl Try.underlying22 info3 rfl (by decide) (by omega) _ Q1 n [.int .i64 n] (fun k => ¬ k = gm ∧ ¬ Iv wo.heap.size w8.heap.size k) (fun _ => False) rfl rfl ?aP (fun _ hk => hk.elim) ?aF HQ.out HB.out ?aS ?aL ?_; (case aP => exact rfl); (case aF => exact (fun k hk => ⟨fun e => by have := blk_lt M.out; omega, fun h => by have := h.2; have := HSz.out; omega⟩)); (case aS => exact HB.out.size); (case aL => have := HLen.out; omega); intro v9 w10 hq hb hg hat; have n0_ := Aside0.mk (blk_grown B0.out hg (Kd.Q_ne HQ.out B0.out (by decide))); have n1_ := Aside0.mk (blk_grown B1.out hg (Kd.Q_ne HQ.out B1.out (by decide))); have n2_ := Aside0.mk (blk_grown M.out hg (fun e => (HQ.out.1 gm e.symm).1 rfl)); have n3_ := Aside0.mk (Kd.R_grown HN.out hg (fun k h1 e => (HQ.out.1 k e.symm).2 h1)); have n4_ := Aside0.mk (Nat.le_trans HSz.out hg.size); have n5_ := Aside0.mk (hb); clear B0 B1 M HN HSz HB HQ; have B0 := n0_; have B1 := n1_; have M := n2_; have HN := n3_; have HSz := n4_; have HB := n5_; clear n0_ n1_ n2_ n3_ n4_ n5_; have HQ := Aside0.mk hq; clear hq hb hg hat)
         | fail)
       rw [HW.out]
       go_roundg (gk - 1)
       case measure => have := HJ.out; have := CJ.out; omega
       case rel => exact ⟨j + 1, _, _, rfl, ⟨by have := HJ.out; have := CJ.out; omega⟩, HFin, ⟨by rw [lk_put, if_neg (fun e => by have h1 := HD.out; rw [e, HK.out] at h1; cases h1)]; exact HD.out⟩, HQ, HN, ⟨by have := (Bfs.open_put (D := D1) (n := n) (d + 1) (Pure.Us l0_1.length)).2 (Pure.mem_Us.2 ⟨Hfn.out.1, Hfn.out.2.1⟩) HK.out; have := HLen.out; simp only [List.length_append, List.length_singleton]; omega⟩, ⟨HLow.out.put HD.out (Pure.mem_Us.2 ⟨Hfn.out.1, Hfn.out.2.1⟩) HK.out⟩, ⟨fun q hq => (List.mem_append.1 hq).elim (HFr.out q) (fun h => by rw [List.mem_singleton.1 h]; exact Hfn.out)⟩, HSz, B0, B1, M, HB⟩
      | some e =>
       have hl0 := run_lk_ok keyI Try.underlying75 (zeroI wr) M.out n
       rw [hk] at hl0
       simp only [Option.map_some, Option.getD_some, Option.isSome_some] at hl0
       simp only [relax, hk, reduceCtorEq, if_false] at hfin
       have HFin := Aside0.mk hfin
       clear hk hfin
       go_wp2_with fail
       rw [HW.out]
       go_roundg (gk - 1)
       case measure => have := HJ.out; have := CJ.out; omega
       case rel => exact ⟨j + 1, _, _, rfl, ⟨by have := HJ.out; have := CJ.out; omega⟩, HFin, HD, HQ, HN, HLen, HLow, HFr, HSz, B0, B1, M, HB⟩
     ·have cjb : decide ((j : Int) < (l.length : Int)) = false := decide_eq_false (by omega)
      have cjc : decide (j < l.length) = false := decide_eq_false cj
      have hfin := HFin.out
      rw [List.drop_eq_nil_of_le (by omega)] at hfin
      simp only [relax, Prod.mk.injEq] at hfin
      obtain ⟨rfl, rfl⟩ := hfin
      have HQ2 := Aside0.mk (Kd.Q_mono HQ.out (fun k hk => hk.1))
      clear cj HFin HQ HN
      go_wp2_with fail
      go_roundg g'
      case measure => have := HGk.out; omega
      case rel => exact ⟨D1, Q1, HRun', HQ2, ⟨by have := HLen.out; omega⟩, HLow, HFr, B0, B1, M, HB⟩
   ·have hDF := run_nil HRun.out cq
    subst hDF
    have cqb : decide (0 < Q.length) = false := decide_eq_false cq
    have cqc : decide ((0 : Int) < (Q.length : Int)) = false := decide_eq_false (by omega)
    clear cq HRun HQ
    have zg1_1 : wo.cell? ⟨g1, 1, none⟩ = some (.int .i64 a1_1) := (blk_cell B1.out 1).trans rfl
    have hl0 := run_lk_ok keyI Try.underlying75 (zeroI wo) M.out a1_1
    have hres := HRes.out
    cases hk : lk D a1_1 with
    | none =>
     rw [hk] at hl0 hres
     simp only [Option.map_none, Option.getD_none, Option.isSome_none] at hl0 hres
     have HR2 := Aside0.mk hres
     clear hk hres HRes
     go_wp2_with fail
     go_ret
     exact ⟨by rw [← HR2.out]; rfl, HB.out⟩
    | some e =>
     rw [hk] at hl0 hres
     simp only [Option.map_some, Option.getD_some, Option.isSome_some] at hl0 hres
     have HR2 := Aside0.mk hres
     clear hk hres HRes
     go_wp2_with fail
     go_ret
     exact ⟨by rw [← HR2.out]; rfl, HB.out⟩
set_option maxHeartbeats 4000000 in
set_option maxRecDepth 100000 in
theorem alone_bad (a0_0 : Int) (A0_1 : Option Addr) (c0_1 : Nat) (l0_1 : List Int) (a1_0 : Int) (a1_1 : Int) (k : Nat) (w : World) (hr0_1 : Kd.C (Kd.int .i64) w A0_1 l0_1.length l0_1) (hc0_1 : l0_1.length ≤ c0_1)
    (hg : impl_GoodTrips.f k a0_0 l0_1 [⟨a1_0, a1_1⟩] = some false) :
    Calls Try.prog 33 #[.agg #[.int .i64 a0_0, .slice A0_1 l0_1.length c0_1], .agg #[.int .i64 a1_0, .int .i64 a1_1]] w fun e w' => e = .returned (.int .i64 (-1)) ∧ Below w.heap.size w w' := by
  have hu39 := Try.underlying39
  have hu49 := Try.underlying49
  have HR := Aside0.mk hr0_1
  have HC := Aside0.mk hc0_1
  have HG := Aside0.mk hg
  clear hr0_1 hc0_1 hg
  have HB := Aside0.mk (Below.refl w.heap.size w)
  obtain ⟨y0, hy0⟩ : ∃ y, y = [(⟨a1_0, a1_1⟩ : S49)] := ⟨_, rfl⟩
  rw [← hy0] at HG
  have Ny := Aside0.mk hy0
  clear hy0
  go_enter Try.func33, Try.ntmps33
  go_wp2_with (first
    | ((with_reducible refine gate_dst (N := 2) rfl ?_); refine box_event ?hg (N := 2) ?hd (cs := #[.int .i64 a0_0, .slice A0_1 l0_1.length c0_1]) (t := 39) ?hr ?_; (case hd => rfl); (case hg => rfl); (case hr => first | (go_simp; done) | (go_simp; rfl)); intro g0 hg w1 hbox hb; have n0_ := Aside0.mk (below_step HB.out hb); have n1_ := Aside0.mk (hbox); have n2_ := Aside0.mk (show w.heap.size ≤ g0 by rw [hg]; exact HB.out.size); clear HB; have HB := n0_; have B0 := n1_; have G0 := n2_; clear n0_ n1_ n2_; clear hb hbox hg)
    | ((with_reducible refine gate_dst (N := 3) rfl ?_); refine box_event ?hg (N := 3) ?hd (cs := #[.int .i64 a1_0, .int .i64 a1_1]) (t := 49) ?hr ?_; (case hd => rfl); (case hg => rfl); (case hr => first | (go_simp; done) | (go_simp; rfl)); intro g1 hg w2 hbox hb; have n0_ := Aside0.mk (below_step HB.out hb); have n1_ := Aside0.mk (blk_below B0.out hb); have n2_ := Aside0.mk (hbox); have n3_ := Aside0.mk (show w.heap.size ≤ g1 by rw [hg]; exact HB.out.size); clear HB B0; have HB := n0_; have B0 := n1_; have B1 := n2_; have G1 := n3_; clear n0_ n1_ n2_ n3_; clear hb hbox hg; have zg0_0 : w2.cell? ⟨g0, 0, none⟩ = some (.int .i64 a0_0) := (blk_cell B0.out 0).trans rfl; have fzg0_0 := blk_frozen B0.out 0; have zg0_1 : w2.cell? ⟨g0, 1, none⟩ = some (.slice A0_1 l0_1.length c0_1) := (blk_cell B0.out 1).trans rfl; have fzg0_1 := blk_frozen B0.out 1; have zg1_0 : w2.cell? ⟨g1, 0, none⟩ = some (.int .i64 a1_0) := (blk_cell B1.out 0).trans rfl; have fzg1_0 := blk_frozen B1.out 0; have zg1_1 : w2.cell? ⟨g1, 1, none⟩ = some (.int .i64 a1_1) := (blk_cell B1.out 1).trans rfl; have fzg1_1 := blk_frozen B1.out 1)
    | ((with_reducible refine gate_dst (N := 16) rfl ?_); refine Kd.R_lit k49 _ 49 ?hg (N := 16) ?hd (xs := [(⟨a1_0, a1_1⟩ : S49)]) (inner := [.int .i64 a1_0, .int .i64 a1_1]) (ok := fun _ => True) (okp := fun _ => True) ?hr ?hp (fun _ hk => hk) trivial (Below.refl _ _) (Nat.le_refl _) (by simp) ?_; (case hd => rfl); (case hg => rfl); (case hr => first | (go_simp; done) | (go_simp; rfl)); (case hp => exact (Reps.c2 (show Kd.M k49 _ _ _ (⟨a1_0, a1_1⟩ : S49) [.int .i64 a1_0, .int .i64 a1_1] from (k49_mkM _ _ _ (⟨a1_0, a1_1⟩ : S49) )) (Reps.none _ _))); intro v3 w3 ho hb hg_ hnew_; clear hg_ hnew_; rw [← Ny.out] at ho; clear zg0_0 fzg0_0 zg0_1 fzg0_1; clear zg1_0 fzg1_0 zg1_1 fzg1_1; have n0_ := Aside0.mk (below_step HB.out hb); have n1_ := Aside0.mk (blk_below B0.out hb); have n2_ := Aside0.mk (blk_below B1.out hb); clear HB B0 B1; have HB := n0_; have B0 := n1_; have B1 := n2_; clear n0_ n1_ n2_; clear hb; obtain ⟨A3, c3, e3⟩ := Kd.R_slice ho; subst e3; have HO3 := Aside0.mk ho; clear ho)
    | (go_at_call 28; (with_reducible refine (impl_GoodTrips.calls k a0_0 A0_1 c0_1 l0_1 A3 c3 y0 false _ ?s1 HC.out ?s2 ?s3 HG.out).mono ?_); (case s1 => exact Kd.C_below HR.out HB.out); (case s2 => exact (Kd.R_reads' HO3.out).2.2); (case s3 => exact (Kd.R_reads' HO3.out).2.1); rintro e w4 ⟨rfl, hb⟩; have n0_ := Aside0.mk (below_step HB.out hb); have n1_ := Aside0.mk (blk_below B0.out hb); have n2_ := Aside0.mk (blk_below B1.out hb); clear HB B0 B1 HO3; have HB := n0_; have B0 := n1_; have B1 := n2_; clear n0_ n1_ n2_; clear hb)
    | fail)
  go_ret
  exact ⟨rfl, HB.out⟩
open Classical in
theorem impl_AloneTicks.calls (a0_0 : Int) (A0_1 : Option Addr) (c0_1 : Nat) (l0_1 : List Int) (a1_0 : Int) (a1_1 : Int) (r : Int) (w : World) (hr0_1 : Kd.C (Kd.int .i64) w A0_1 l0_1.length l0_1) (hc0_1 : l0_1.length ≤ c0_1) (h : impl_AloneTicks.f a0_0 l0_1 a1_0 a1_1 = some r) :
    Calls Try.prog 33 #[.agg #[.int .i64 a0_0, .slice A0_1 l0_1.length c0_1], .agg #[.int .i64 a1_0, .int .i64 a1_1]] w fun e w' => e = .returned (.int .i64 r) ∧ Below w.heap.size w w' := by
  unfold impl_AloneTicks.f at h
  by_cases hn : l0_1.length ≤ 35184372088832
  case neg => rw [if_neg hn] at h; cases h
  rw [if_pos hn] at h
  injection h with h
  obtain ⟨k, hk⟩ := Ev.rounds (Pure.goodTrips_both a0_0 l0_1 [⟨a1_0, a1_1⟩] hn).1
  by_cases hG : Pure.Gt a0_0 l0_1 [⟨a1_0, a1_1⟩]
  · rw [if_pos hG] at h
    rw [decide_eq_true hG] at hk
    exact alone_good a0_0 A0_1 c0_1 l0_1 a1_0 a1_1 r k w hr0_1 hc0_1 hk hG h
  · rw [if_neg hG] at h
    rw [decide_eq_false hG] at hk
    subst h
    exact alone_bad a0_0 A0_1 c0_1 l0_1 a1_0 a1_1 k w hr0_1 hc0_1 hk
end Go.Proofs.Ytcldlljnaijmhaa.Pr
