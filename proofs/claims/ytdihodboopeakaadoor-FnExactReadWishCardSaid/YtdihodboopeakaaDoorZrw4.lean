-- Joined and pruned by wip/tools/prune.py out of this session's own texts (Pr25, Pr4, Pr5)
import Derived.Test.YtdihodboopeakaaDoorZrw3
-- Written by this session's own print (wip/tools/mkmp.py) out of the translation. Lean checks it.
namespace Go.Proofs.YtdihodboopeakaaDoor.Pr
open Go.RowKit Go.Proofs.YtdihodboopeakaaDoorW.PrintWords Go.Proofs.YtdihodboopeakaaDoorW.PrintLast Go.Proofs.YtdihodboopeakaaDoorW.PrintMore
attribute [local go_sem] max2_int min2_int max_two min_two max_three min_three max_four min_four   -- for this text's walks alone
set_option linter.unusedVariables false
set_option linter.unusedSimpArgs false

set_option maxHeartbeats 8000000 in
set_option maxRecDepth 100000 in
theorem spec_ReadWish.calls (k : Nat) (a0 : ByteArray) (r1 : List ByteArray) (r2 : List ByteArray) (r3 : Int) (r4 : Int) (w : World) (h : spec_ReadWish.f k a0 = some (r1, r2, r3, r4)) :
   Calls Tryd.prog 29 #[.string a0] w fun e w' => ∃ v0_ v1_ : Value, e = .returned (.agg #[v0_, v1_, .int .i64 r3, .int .i64 r4]) ∧ Kd.R Kd.string 9 w' w.heap.size (fun k_ => some k_ ≠ (v1_ : Value).ownBlock) v0_ r1 ∧ Kd.R Kd.string 9 w' w.heap.size (fun k_ => some k_ ≠ (v0_ : Value).ownBlock) v1_ r2 ∧ Below w.heap.size w w' := by
  have hu48 := Tryd.underlying48
  have hu83 := Tryd.underlying83
  have hu36 := Tryd.underlying36
  have HB := Aside0.mk (Below.refl w.heap.size w)
  have H : (if (a0.size : Int) > 200 then ((spec_l22Bad_at.f 5 0).bind fun bt362 => (some (bt362.1, bt362.2.1, bt362.2.2.1, bt362.2.2.2))) else (spec_ReadWish.l0 k a0 0 1 0 ([] : List ByteArray) ([] : List ByteArray))) = some (r1, r2, r3, r4) := h
  clear h
  by_cases c2 : (a0.size : Int) > 200
  ·rw [if_pos c2] at H
   have c2b0 : decide (200 < (a0.size : Int)) = true := decide_eq_true c2
   have c2b1 : decide (200 < a0.size) = true := decide_eq_true (by omega)
   clear c2
   replace H := Option.bind_eq_some_iff.mp H
   obtain ⟨⟨t362, t365, t368, t369⟩, A30, H⟩ := H
   replace H : (some (t362, t365, t368, t369)) = some (r1, r2, r3, r4) := H
   have A3 := Aside0.mk A30
   clear A30
   simp only [Option.some.injEq, Prod.mk.injEq] at H
   obtain ⟨rfl, rfl, rfl, rfl⟩ := H
   go_enter Tryd.func29, Tryd.ntmps29
   go_wp2_with (first | ((with_reducible refine gate_dst (N := 2) rfl ?_); refine box_event ?hg (N := 2) ?hd (cs := #[.slice none 0 0, .slice none 0 0, .int .i64 0, .int .i64 0]) (t := 48) ?hr ?_; (case hd => rfl); (case hg => rfl); (case hr => first | (go_simp; done) | (go_simp; rfl)); intro gb360 hg w4 hbox hb; have n0_ := Aside0.mk (below_step hb_ hb); have n1_ := Aside0.mk (hbox); have n2_ : Aside0 (w.heap.size ≤ gb360) := gz_; have n3_ : Aside0 (w.heap.size ≤ gb360) := gz_; clear HB; have HB := n0_; have BK360 := n1_; have GW360 := n2_; have GE360 := n3_; clear n0_ n1_ n2_ n3_; clear hb hbox hg) | ((with_reducible refine gate_dst (N := 3) rfl ?_); refine box_event ?hg (N := 3) ?hd (cs := #[]) (t := 83) ?hr ?_; (case hd => rfl); (case hg => rfl); (case hr => first | (go_simp; done) | (go_simp; rfl)); intro gb361 hg w5 hbox hb; have n0_ := bb_ BK360 hb; have n1_ := Aside0.mk (below_step hb_ hb); have n2_ := Aside0.mk (hbox); have n3_ : Aside0 (w.heap.size ≤ gb361) := gz_; have n4_ : Aside0 (w.heap.size ≤ gb361) := gz_; have n5_ := Aside0.mk ((by rw [hg]; exact Nat.ne_of_lt (blk_lt (g := gb360) (o := .cells #[.slice none 0 0, .slice none 0 0, .int .i64 0, .int .i64 0] 48 (0, 0)) (bk_ BK360.out)) : gb360 ≠ gb361)); have n6_ := Aside0.mk ((by rw [hg]; exact Nat.ne_of_gt (blk_lt (g := gb360) (o := .cells #[.slice none 0 0, .slice none 0 0, .int .i64 0, .int .i64 0] 48 (0, 0)) (bk_ BK360.out)) : gb361 ≠ gb360)); clear BK360; clear HB; have BK360 := n0_; have HB := n1_; have BK361 := n2_; have GW361 := n3_; have GE361 := n4_; have NB360_361 := n5_; have NB361_360 := n6_; clear n0_ n1_ n2_ n3_ n4_ n5_ n6_; clear hb hbox hg; have hnb6 := NB361_360.out; have hnc6 := NB360_361.out) | ((with_reducible refine gate_callee (f := 66) rfl ?_); refine goesL_ (some 19) rfl rfl Tryd.func66 (by kernel_rfl) rfl #[.agg #[], .int .i64 5, .int .i64 0] rfl ls_ ?_; (with_reducible refine (spec_l22Bad_at.calls  5 0 t362 t365 t368 t369 _ A3.out).mono ?_); rintro e w8 ⟨v363, v366, rfl, ho0, ho1, hb⟩; refine ⟨_, rfl, ?_⟩; have n0_ := Aside0.mk (Kd.R_lower ho0 (below_size hb_)); have n1_ := Aside0.mk (Kd.R_lower ho1 (below_size hb_)); have n2_ := bb_ BK360 hb; have n3_ := bb_ BK361 hb; have n4_ := Aside0.mk (below_step hb_ hb); clear BK360; clear BK361; clear HB; have HO364 := n0_; have HO367 := n1_; have BK360 := n2_; have BK361 := n3_; have HB := n4_; clear n0_ n1_ n2_ n3_ n4_; (try clear hb); (try clear hb2); (try clear hk); (try clear hi); (try clear ho0); (try clear ho1); obtain ⟨Ao9, co9, eo9⟩ := Kd.R_slice HO364.out; subst eo9; have hcz10_0 : w8.cell? ⟨gb360, 0, none⟩ = some (.slice none 0 0) := (blk_cell BK360.out 0).trans rfl; have hcz10_1 : w8.cell? ⟨gb360, 1, none⟩ = some (.slice none 0 0) := (blk_cell BK360.out 1).trans rfl; have hcz10_2 : w8.cell? ⟨gb360, 2, none⟩ = some (.int .i64 0) := (blk_cell BK360.out 2).trans rfl; have hcz10_3 : w8.cell? ⟨gb360, 3, none⟩ = some (.int .i64 0) := (blk_cell BK360.out 3).trans rfl; have hfz10_0 := blk_frozen BK360.out 0; have hfz10_1 := blk_frozen BK360.out 1; have hfz10_2 := blk_frozen BK360.out 2; have hfz10_3 := blk_frozen BK360.out 3; obtain ⟨Ao11, co11, eo11⟩ := Kd.R_slice HO367.out; subst eo11))
   refine bodyPost_ret (results_cell_row rfl _ _ gb360 48 #[.slice Ao9 t362.length co9, .slice Ao11 t365.length co11, .int .i64 t368, .int .i64 t369] (0, 0) _ rfl (by (with_reducible repeat (first | refine blk_drewN ?_ _ | refine blk_drew ?_ | refine blk_alloc ?_ _)); refine blk_put (cs := #[.slice Ao9 t362.length co9, .slice Ao11 t365.length co11, .int .i64 t368, .int .i64 0]) ?_ 3 _ rfl; (with_reducible repeat (first | refine blk_drewN ?_ _ | refine blk_drew ?_ | refine blk_alloc ?_ _)); refine blk_put (cs := #[.slice Ao9 t362.length co9, .slice Ao11 t365.length co11, .int .i64 0, .int .i64 0]) ?_ 2 _ rfl; (with_reducible repeat (first | refine blk_drewN ?_ _ | refine blk_drew ?_ | refine blk_alloc ?_ _)); refine blk_put (cs := #[.slice Ao9 t362.length co9, .slice none 0 0, .int .i64 0, .int .i64 0]) ?_ 1 _ rfl; (with_reducible repeat (first | refine blk_drewN ?_ _ | refine blk_drew ?_ | refine blk_alloc ?_ _)); refine blk_put (cs := #[.slice none 0 0, .slice none 0 0, .int .i64 0, .int .i64 0]) ?_ 0 _ rfl; (with_reducible repeat (first | refine blk_drewN ?_ _ | refine blk_drew ?_ | refine blk_alloc ?_ _)); exact BK360.out) Tryd.underlying48 rfl (by kernel_rfl)) rfl ?_
   exact ⟨_, _, er_, by (with_reducible repeat (first | apply Kd.R_alloc | apply Kd.R_drewN | apply Kd.R_drew)); exact Kd.R_mono (Kd.R_far (p := ⟨gb360, 3, none⟩) (Kd.R_far (p := ⟨gb360, 2, none⟩) (Kd.R_far (p := ⟨gb360, 1, none⟩) (Kd.R_far (p := ⟨gb360, 0, none⟩) (Kd.R_types HO364.out BK360.out (by decide)) (fun _ hk => hk.2) (.slice Ao9 t362.length co9)) (fun _ hk => hk.2) (.slice Ao11 t365.length co11)) (fun _ hk => hk.2) (.int .i64 t368)) (fun _ hk => hk.2) (.int .i64 t369)) (fun _ hk => hk.1), by (with_reducible repeat (first | apply Kd.R_alloc | apply Kd.R_drewN | apply Kd.R_drew)); exact Kd.R_mono (Kd.R_far (p := ⟨gb360, 3, none⟩) (Kd.R_far (p := ⟨gb360, 2, none⟩) (Kd.R_far (p := ⟨gb360, 1, none⟩) (Kd.R_far (p := ⟨gb360, 0, none⟩) (Kd.R_types HO367.out BK360.out (by decide)) (fun _ hk => hk.2) (.slice Ao9 t362.length co9)) (fun _ hk => hk.2) (.slice Ao11 t365.length co11)) (fun _ hk => hk.2) (.int .i64 t368)) (fun _ hk => hk.2) (.int .i64 t369)) (fun _ hk => hk.1), hb_⟩
  ·rw [if_neg c2] at H
   have c2b0 : decide (200 < (a0.size : Int)) = false := decide_eq_false c2
   have c2b1 : decide (200 < a0.size) = false := decide_eq_false (by omega)
   clear c2
   have H' := Aside0.mk H
   clear H
   go_enter Tryd.func29, Tryd.ntmps29
   go_wp2_with (first | ((with_reducible refine gate_dst (N := 2) rfl ?_); refine box_event ?hg (N := 2) ?hd (cs := #[.slice none 0 0, .slice none 0 0, .int .i64 0, .int .i64 0]) (t := 48) ?hr ?_; (case hd => rfl); (case hg => rfl); (case hr => first | (go_simp; done) | (go_simp; rfl)); intro gb360 hg w12 hbox hb; have n0_ := Aside0.mk (below_step hb_ hb); have n1_ := Aside0.mk (hbox); have n2_ : Aside0 (w.heap.size ≤ gb360) := gz_; have n3_ : Aside0 (w.heap.size ≤ gb360) := gz_; clear HB; have HB := n0_; have BK360 := n1_; have GW360 := n2_; have GE360 := n3_; clear n0_ n1_ n2_ n3_; clear hb hbox hg) | ((with_reducible refine gate_dst (N := 3) rfl ?_); refine box_event ?hg (N := 3) ?hd (cs := #[]) (t := 83) ?hr ?_; (case hd => rfl); (case hg => rfl); (case hr => first | (go_simp; done) | (go_simp; rfl)); intro gb361 hg w13 hbox hb; have n0_ := bb_ BK360 hb; have n1_ := Aside0.mk (below_step hb_ hb); have n2_ := Aside0.mk (hbox); have n3_ : Aside0 (w.heap.size ≤ gb361) := gz_; have n4_ : Aside0 (w.heap.size ≤ gb361) := gz_; have n5_ := Aside0.mk ((by rw [hg]; exact Nat.ne_of_lt (blk_lt (g := gb360) (o := .cells #[.slice none 0 0, .slice none 0 0, .int .i64 0, .int .i64 0] 48 (0, 0)) (bk_ BK360.out)) : gb360 ≠ gb361)); have n6_ := Aside0.mk ((by rw [hg]; exact Nat.ne_of_gt (blk_lt (g := gb360) (o := .cells #[.slice none 0 0, .slice none 0 0, .int .i64 0, .int .i64 0] 48 (0, 0)) (bk_ BK360.out)) : gb361 ≠ gb360)); clear BK360; clear HB; have BK360 := n0_; have HB := n1_; have BK361 := n2_; have GW361 := n3_; have GE361 := n4_; have NB360_361 := n5_; have NB361_360 := n6_; clear n0_ n1_ n2_ n3_ n4_ n5_ n6_; clear hb hbox hg) | ((with_reducible refine gate_dst (N := 4) rfl ?_); refine box_event ?hg (N := 4) ?hd (cs := #[.slice none 0 0, .slice none 0 0]) (t := 36) ?hr ?_; (case hd => rfl); (case hg => rfl); (case hr => first | (go_simp; done) | (go_simp; rfl)); intro gb370 hg w14 hbox hb; have n0_ := bb_ BK360 hb; have n1_ := bb_ BK361 hb; have n2_ := Aside0.mk (below_step hb_ hb); have n3_ := Aside0.mk (hbox); have n4_ : Aside0 (w.heap.size ≤ gb370) := gz_; have n5_ : Aside0 (w.heap.size ≤ gb370) := gz_; have n6_ := Aside0.mk ((by rw [hg]; exact Nat.ne_of_lt (blk_lt (g := gb360) (o := .cells #[.slice none 0 0, .slice none 0 0, .int .i64 0, .int .i64 0] 48 (0, 0)) (bk_ BK360.out)) : gb360 ≠ gb370)); have n7_ := Aside0.mk ((by rw [hg]; exact Nat.ne_of_gt (blk_lt (g := gb360) (o := .cells #[.slice none 0 0, .slice none 0 0, .int .i64 0, .int .i64 0] 48 (0, 0)) (bk_ BK360.out)) : gb370 ≠ gb360)); have n8_ := Aside0.mk ((by rw [hg]; exact Nat.ne_of_lt (blk_lt (g := gb361) (o := .cells #[] 83 (0, 0)) (bk_ BK361.out)) : gb361 ≠ gb370)); have n9_ := Aside0.mk ((by rw [hg]; exact Nat.ne_of_gt (blk_lt (g := gb361) (o := .cells #[] 83 (0, 0)) (bk_ BK361.out)) : gb370 ≠ gb361)); clear BK360; clear BK361; clear HB; have BK360 := n0_; have BK361 := n1_; have HB := n2_; have BK370 := n3_; have GW370 := n4_; have GE370 := n5_; have NB360_370 := n6_; have NB370_360 := n7_; have NB361_370 := n8_; have NB370_361 := n9_; clear n0_ n1_ n2_ n3_ n4_ n5_ n6_ n7_ n8_ n9_; clear hb hbox hg; have hnb15 := NB370_360.out; have hnc15 := NB360_370.out; have hnb16 := NB370_361.out; have hnc16 := NB361_370.out; have hcz17_0 : w14.cell? ⟨gb370, 0, none⟩ = some (.slice none 0 0) := (blk_cell BK370.out 0).trans rfl; have hcz17_1 : w14.cell? ⟨gb370, 1, none⟩ = some (.slice none 0 0) := (blk_cell BK370.out 1).trans rfl; have hfz17_0 := blk_frozen BK370.out 0; have hfz17_1 := blk_frozen BK370.out 1))
   go_loopg [5, 6, 7] k (fun kq v5 v6 v7 w' => ∃ (x5_1 : Int) (x6_1 : Int) (x7_1 : Int) (x361002_1 : Int) (x361003_1 : Int) (x371000_1 : List ByteArray) (x371001_1 : List ByteArray) (u371000 : Value) (u371001 : Value), v5 = .int .i64 x5_1 ∧ v6 = .int .i64 x6_1 ∧ v7 = .int .i64 x7_1 ∧ Aside0 (spec_ReadWish.l0 kq a0 x5_1 x6_1 x7_1 x371000_1 x371001_1 = some (r1, r2, r3, r4)) ∧ Aside0 (kq ≤ k) ∧ Aside0 (Kd.R Kd.string 9 w' w.heap.size (fun k_ => some k_ ≠ (u371001 : Value).ownBlock) u371000 x371000_1) ∧ Aside0 (Kd.R Kd.string 9 w' w.heap.size (fun k_ => some k_ ≠ (u371000 : Value).ownBlock) u371001 x371001_1) ∧ Aside0 (w'.heap[gb360]? = some (.cells #[(.slice none 0 0), (.slice none 0 0), .int .i64 x361002_1, .int .i64 x361003_1] 48 (0, 0))) ∧ Aside0 (w'.heap[gb361]? = some (.cells #[] 83 (0, 0))) ∧ Aside0 (w'.heap[gb370]? = some (.cells #[u371000, u371001] 36 (0, 0))) ∧ Aside0 (Below w.heap.size w w'))
   case atStart => exact ⟨(0), (1), (0), (0), (0), (([] : List ByteArray)), (([] : List ByteArray)), (.slice none 0 0), (.slice none 0 0), es_, es_, es_, H', ⟨Nat.le_refl _⟩, ⟨by first | exact Kd.R_nil _ _ _ _ _ | exact Kd.N_nil _ _ _ _ _ | exact Kd.V_nil _ _ _ _ _ | exact Kd.Q_nil _ _ _ _ _ | exact Kd.S_nil _ _ _ _ _⟩, ⟨by first | exact Kd.R_nil _ _ _ _ _ | exact Kd.N_nil _ _ _ _ _ | exact Kd.V_nil _ _ _ _ _ | exact Kd.Q_nil _ _ _ _ _ | exact Kd.S_nil _ _ _ _ _⟩, ⟨by (with_reducible repeat (first | refine blk_drewN ?_ _ | refine blk_drew ?_ | refine blk_alloc ?_ _)); refine blk_far ?_ NB360_370.out _; (with_reducible repeat (first | refine blk_drewN ?_ _ | refine blk_drew ?_ | refine blk_alloc ?_ _)); refine blk_far ?_ NB360_370.out _; (with_reducible repeat (first | refine blk_drewN ?_ _ | refine blk_drew ?_ | refine blk_alloc ?_ _)); exact BK360.out⟩, ⟨by (with_reducible repeat (first | refine blk_drewN ?_ _ | refine blk_drew ?_ | refine blk_alloc ?_ _)); refine blk_far ?_ NB361_370.out _; (with_reducible repeat (first | refine blk_drewN ?_ _ | refine blk_drew ?_ | refine blk_alloc ?_ _)); refine blk_far ?_ NB361_370.out _; (with_reducible repeat (first | refine blk_drewN ?_ _ | refine blk_drew ?_ | refine blk_alloc ?_ _)); exact BK361.out⟩, ⟨by (with_reducible repeat (first | refine blk_drewN ?_ _ | refine blk_drew ?_ | refine blk_alloc ?_ _)); refine blk_put (cs := #[.slice none 0 0, .slice none 0 0]) ?_ 1 _ rfl; (with_reducible repeat (first | refine blk_drewN ?_ _ | refine blk_drew ?_ | refine blk_alloc ?_ _)); refine blk_put (cs := #[.slice none 0 0, .slice none 0 0]) ?_ 0 _ rfl; (with_reducible repeat (first | refine blk_drewN ?_ _ | refine blk_drew ?_ | refine blk_alloc ?_ _)); exact BK370.out⟩, ⟨hb_⟩⟩
   case round =>
    clear H'
    try clear c1
    try clear c2
    try clear c2b0
    try clear c2b1
    try clear p2
    try clear c6
    try clear c15
    try clear c16
    try clear hcz10_0
    try clear hcz10_1
    try clear hcz10_2
    try clear hcz10_3
    try clear hcz17_0
    try clear hcz17_1
    try clear hfz10_0
    try clear hfz10_1
    try clear hfz10_2
    try clear hfz10_3
    try clear hfz17_0
    try clear hfz17_1
    obtain ⟨x5_1, x6_1, x7_1, x361002_1, x361003_1, x371000_1, x371001_1, u371000, u371001, rfl, rfl, rfl, HA, HK1, HO_371000, HO_371001, BK360, BK361, BK370, HB⟩ := hrel
    cases gk with
    | zero => exact absurd HA.out (by simp [spec_ReadWish.l0])
    | succ k1 =>
     have H := HA.out
     clear HA
     simp only [spec_ReadWish.l0] at H
     by_cases c18 : x7_1 < (a0.size : Int)
     ·rw [if_pos c18] at H
      have c18b0 : decide (x7_1 < (a0.size : Int)) = true := decide_eq_true c18
      clear c18
      by_cases c19 : 0 ≤ x7_1
      ·rw [if_pos c19] at H
       have c19b0 : decide (0 ≤ x7_1) = true := decide_eq_true c19
       clear c19
       by_cases c21 : (bt a0 x7_1) = 32
       ·rw [if_pos c21] at H
        have c21b0 : ((bt a0 x7_1) == 32) = true := beq_iff_eq.mpr c21
        have c21b1 : ((bt a0 x7_1) != 32) = false := bne_eq_false_iff_eq.mpr c21
        clear c21
        have H' := Aside0.mk H
        clear H
        have p20 : 0 ≤ (x7_1 : Int) := of_decide_eq_true as_
        have q20 : x7_1 < (a0.size : Int) := of_decide_eq_true as_
        have hx20 := bt_at a0 x7_1
        replace p20 := eq_true p20
        replace q20 := eq_true q20
        go_wp2
        go_roundg k1
        case measure => have := HK1.out; omega
        case rel => exact ⟨(x5_1), (x6_1), (wrap64 (x7_1 + 1)), (x361002_1), (x361003_1), (x371000_1), (x371001_1), (u371000), (u371001), es_, es_, es_, H', ⟨by have := HK1.out; omega⟩, ⟨ra_ HO_371000.out⟩, ⟨ra_ HO_371001.out⟩, ⟨bk_ BK360.out⟩, ⟨bk_ BK361.out⟩, ⟨bk_ BK370.out⟩, ⟨hb_⟩⟩
       ·rw [if_neg c21] at H
        have c21b0 : ((bt a0 x7_1) == 32) = false := beq_eq_false_iff_ne.mpr c21
        have c21b1 : ((bt a0 x7_1) != 32) = true := bne_iff_ne.mpr c21
        have HC22 := Aside0.mk H
        clear H
        have p20 : 0 ≤ (x7_1 : Int) := of_decide_eq_true as_
        have q20 : x7_1 < (a0.size : Int) := of_decide_eq_true as_
        have hx20 := bt_at a0 x7_1
        replace p20 := eq_true p20
        replace q20 := eq_true q20
        go_upto_block 2 with (fail)
        go_cut [8] (fun v8 wc => ∃ (kq : Nat) (x8_21 : Int), v8 = .int .i64 x8_21 ∧ Aside0 (spec_ReadWish.j2 kq a0 x5_1 x6_1 x7_1 x8_21 x371000_1 x371001_1 = some (r1, r2, r3, r4)) ∧ Aside0 (kq ≤ k1) ∧ Aside0 (Kd.R Kd.string 9 wc w.heap.size (fun k_ => some k_ ≠ (u371001 : Value).ownBlock) u371000 x371000_1) ∧ Aside0 (Kd.R Kd.string 9 wc w.heap.size (fun k_ => some k_ ≠ (u371000 : Value).ownBlock) u371001 x371001_1) ∧ Aside0 (wc.heap[gb360]? = some (.cells #[(.slice none 0 0), (.slice none 0 0), .int .i64 x361002_1, .int .i64 x361003_1] 48 (0, 0))) ∧ Aside0 (wc.heap[gb361]? = some (.cells #[] 83 (0, 0))) ∧ Aside0 (wc.heap[gb370]? = some (.cells #[u371000, u371001] 36 (0, 0))) ∧ Aside0 (Below w.heap.size w wc))
        case first =>
         have H := HC22.out
         clear HC22
         have H' := Aside0.mk H
         clear H
         go_wp2
         go_loopg [8] k1 (fun kq v8 w' => ∃ (x8_2 : Int), v8 = .int .i64 x8_2 ∧ Aside0 (spec_ReadWish.l1 kq a0 x5_1 x6_1 x7_1 x8_2 x371000_1 x371001_1 = some (r1, r2, r3, r4)) ∧ Aside0 (kq ≤ k1) ∧ Aside0 (Kd.R Kd.string 9 w' w.heap.size (fun k_ => some k_ ≠ (u371001 : Value).ownBlock) u371000 x371000_1) ∧ Aside0 (Kd.R Kd.string 9 w' w.heap.size (fun k_ => some k_ ≠ (u371000 : Value).ownBlock) u371001 x371001_1) ∧ Aside0 (w'.heap[gb360]? = some (.cells #[(.slice none 0 0), (.slice none 0 0), .int .i64 x361002_1, .int .i64 x361003_1] 48 (0, 0))) ∧ Aside0 (w'.heap[gb361]? = some (.cells #[] 83 (0, 0))) ∧ Aside0 (w'.heap[gb370]? = some (.cells #[u371000, u371001] 36 (0, 0))) ∧ Aside0 (Below w.heap.size w w'))
         case atStart => exact ⟨(x7_1), es_, H', ⟨Nat.le_refl _⟩, ⟨ra_ HO_371000.out⟩, ⟨ra_ HO_371001.out⟩, ⟨bk_ BK360.out⟩, ⟨bk_ BK361.out⟩, ⟨bk_ BK370.out⟩, ⟨hb_⟩⟩
         case round =>
          clear H'
          try clear c1
          try clear c2
          try clear c2b0
          try clear c2b1
          try clear p2
          try clear q2
          try clear hx2
          try clear c6
          try clear p6
          try clear c15
          try clear c16
          try clear c18
          try clear c18b0
          try clear c19
          try clear c19b0
          try clear p20
          try clear q20
          try clear hx20
          try clear c21
          try clear c21b0
          try clear c21b1
          try clear hcz10_0
          try clear hcz10_1
          try clear hcz10_2
          try clear hcz10_3
          try clear hcz17_0
          try clear hcz17_1
          try clear hfz10_0
          try clear hfz10_1
          try clear hfz10_2
          try clear hfz10_3
          try clear hfz17_0
          try clear hfz17_1
          try clear p2
          try clear p20
          try clear q20
          obtain ⟨x8_2, rfl, HA, HK2, HO_371000, HO_371001, BK360, BK361, BK370, HB⟩ := hrel
          cases gk with
          | zero => exact absurd HA.out (by simp [spec_ReadWish.l1])
          | succ k2 =>
           have H := HA.out
           clear HA
           simp only [spec_ReadWish.l1] at H
           by_cases c23 : x8_2 < (a0.size : Int)
           ·rw [if_pos c23] at H
            have c23b0 : decide (x8_2 < (a0.size : Int)) = true := decide_eq_true c23
            clear c23
            (first | rw [c23b0] | (simp only [i64_w, i32_w]; rw [c23b0]) | skip)
            by_cases c24 : 0 ≤ x8_2
            ·rw [if_pos c24] at H
             have c24b0 : decide (0 ≤ x8_2) = true := decide_eq_true c24
             clear c24
             by_cases c26 : (bt a0 x8_2) = 32
             ·rw [if_pos c26] at H
              have c26b0 : ((bt a0 x8_2) == 32) = true := beq_iff_eq.mpr c26
              have c26b1 : ((bt a0 x8_2) != 32) = false := bne_eq_false_iff_eq.mpr c26
              clear c26
              have H' := Aside0.mk H
              clear H
              have p25 : 0 ≤ (x8_2 : Int) := of_decide_eq_true as_
              have q25 : x8_2 < (a0.size : Int) := of_decide_eq_true as_
              have hx25 := bt_at a0 x8_2
              replace p25 := eq_true p25
              replace q25 := eq_true q25
              go_wp2
              go_meet
              case rel => exact ⟨_, (x8_2), es_, H', ⟨by have := HK1.out; have := HK2.out; first | omega | exact Nat.le_refl _⟩, ⟨ra_ HO_371000.out⟩, ⟨ra_ HO_371001.out⟩, ⟨bk_ BK360.out⟩, ⟨bk_ BK361.out⟩, ⟨bk_ BK370.out⟩, ⟨hb_⟩⟩
             ·rw [if_neg c26] at H
              have c26b0 : ((bt a0 x8_2) == 32) = false := beq_eq_false_iff_ne.mpr c26
              have c26b1 : ((bt a0 x8_2) != 32) = true := bne_iff_ne.mpr c26
              have H' := Aside0.mk H
              clear H
              have p25 : 0 ≤ (x8_2 : Int) := of_decide_eq_true as_
              have q25 : x8_2 < (a0.size : Int) := of_decide_eq_true as_
              have hx25 := bt_at a0 x8_2
              replace p25 := eq_true p25
              replace q25 := eq_true q25
              go_wp2
              go_roundg k2
              case measure => have := HK1.out; have := HK2.out; omega
              case rel => exact ⟨(wrap64 (x8_2 + 1)), es_, H', ⟨by have := HK1.out; have := HK2.out; omega⟩, ⟨ra_ HO_371000.out⟩, ⟨ra_ HO_371001.out⟩, ⟨bk_ BK360.out⟩, ⟨bk_ BK361.out⟩, ⟨bk_ BK370.out⟩, ⟨hb_⟩⟩
            ·rw [if_neg c24] at H
             exact absurd H (by simp)
           ·rw [if_neg c23] at H
            have c23b0 : decide (x8_2 < (a0.size : Int)) = false := decide_eq_false c23
            clear c23
            (first | rw [c23b0] | (simp only [i64_w, i32_w]; rw [c23b0]) | skip)
            have H' := Aside0.mk H
            clear H
            go_wp2
            go_meet
            case rel => exact ⟨_, (x8_2), es_, H', ⟨by have := HK1.out; have := HK2.out; first | omega | exact Nat.le_refl _⟩, ⟨ra_ HO_371000.out⟩, ⟨ra_ HO_371001.out⟩, ⟨bk_ BK360.out⟩, ⟨bk_ BK361.out⟩, ⟨bk_ BK370.out⟩, ⟨hb_⟩⟩
        case rest =>
         clear HC22
         try clear c1
         try clear c2
         try clear c2b0
         try clear c2b1
         try clear p2
         try clear q2
         try clear hx2
         try clear c6
         try clear p6
         try clear c15
         try clear c16
         try clear c18
         try clear c18b0
         try clear c19
         try clear c19b0
         try clear p20
         try clear q20
         try clear hx20
         try clear c21
         try clear c21b0
         try clear c21b1
         try clear c23
         try clear c23b0
         try clear c24
         try clear c24b0
         try clear p25
         try clear q25
         try clear hx25
         try clear c26
         try clear c26b0
         try clear c26b1
         try clear hcz10_0
         try clear hcz10_1
         try clear hcz10_2
         try clear hcz10_3
         try clear hcz17_0
         try clear hcz17_1
         try clear hfz10_0
         try clear hfz10_1
         try clear hfz10_2
         try clear hfz10_3
         try clear hfz17_0
         try clear hfz17_1
         try clear p2
         try clear p20
         try clear p25
         try clear p6
         try clear q2
         try clear q20
         try clear q25
         obtain ⟨kq, x8_21, rfl, HA, HJ21, HO_371000, HO_371001, BK360, BK361, BK370, HB⟩ := hcut
         cases kq with
         | zero => exact absurd HA.out (by simp [spec_ReadWish.j2])
         | succ kj21 =>
          have H := HA.out
          clear HA
          simp only [spec_ReadWish.j2] at H
          by_cases c27 : 0 ≤ x7_1
          ·rw [if_pos c27] at H
           have c27b0 := eq_true c27
           have c27b1 : decide (0 ≤ x7_1) = true := decide_eq_true c27
           clear c27
           by_cases c28 : x7_1 ≤ x8_21
           ·rw [if_pos c28] at H
            have c28b0 := eq_true c28
            have c28b1 : decide (x7_1 ≤ x8_21) = true := decide_eq_true c28
            clear c28
            by_cases c29 : x8_21 ≤ (a0.size : Int)
            ·rw [if_pos c29] at H
             have c29b0 := eq_true c29
             have c29b1 : decide (x8_21 ≤ (a0.size : Int)) = true := decide_eq_true c29
             clear c29
             replace H := Option.bind_eq_some_iff.mp H
             obtain ⟨⟨t379, t380⟩, A300, H⟩ := H
             replace H : (if t379 ≥ 0 then ((spec_l22Bad_at.f 3 (wrap64 (x7_1 + t379))).bind fun bt381 => (some (bt381.1, bt381.2.1, bt381.2.2.1, bt381.2.2.2))) else (if (a0.extract (x7_1 : Int).toNat (x8_21 : Int).toNat).toList = ([114, 101, 97, 99, 104] : List UInt8) then (spec_ReadWish.j3 kj21 a0 x5_1 x6_1 x7_1 x8_21 (a0.extract (x7_1 : Int).toNat (x8_21 : Int).toNat) t380 true x371000_1 x371001_1) else (spec_ReadWish.j3 kj21 a0 x5_1 x6_1 x7_1 x8_21 (a0.extract (x7_1 : Int).toNat (x8_21 : Int).toNat) t380 ((a0.extract (x7_1 : Int).toNat (x8_21 : Int).toNat).toList == ([97, 118, 111, 105, 100] : List UInt8)) x371000_1 x371001_1))) = some (r1, r2, r3, r4) := H
             have A30 := Aside0.mk A300
             clear A300
             by_cases c31 : t379 ≥ 0
             ·rw [if_pos c31] at H
              have c31b0 : decide (0 ≤ t379) = true := decide_eq_true c31
              clear c31
              replace H := Option.bind_eq_some_iff.mp H
              obtain ⟨⟨t381, t384, t387, t388⟩, A320, H⟩ := H
              replace H : (some (t381, t384, t387, t388)) = some (r1, r2, r3, r4) := H
              have A32 := Aside0.mk A320
              clear A320
              simp only [Option.some.injEq, Prod.mk.injEq] at H
              obtain ⟨rfl, rfl, rfl, rfl⟩ := H
              go_wp2_with (first | ((with_reducible refine gate_callee (f := 67) rfl ?_); refine goesL_ (some 50) rfl rfl Tryd.func67 (by kernel_rfl) rfl #[.string (a0.extract (x7_1 : Int).toNat (x8_21 : Int).toNat)] rfl ls_ ?_; (with_reducible refine (spec_l22Odd.calls kj21 (a0.extract (x7_1 : Int).toNat (x8_21 : Int).toNat) t379 t380 _ A30.out).mono ?_); rintro e w' ⟨rfl, ⟨nd, rfl⟩⟩; refine ⟨_, rfl, ?_⟩; (try (rw [drewN_self wc]; generalize hq_ : World.drewN wc _ = wc; have n0_ := Aside0.mk (Kd.R_at hq_ HO_371000.out); have n1_ := Aside0.mk (Kd.R_at hq_ HO_371001.out); have n2_ := Aside0.mk (blk_at hq_ BK360.out); have n3_ := Aside0.mk (blk_at hq_ BK361.out); have n4_ := Aside0.mk (blk_at hq_ BK370.out); have n5_ := Aside0.mk (below_at hq_ HB.out); clear hq_ HO_371000 HO_371001 BK360 BK361 BK370 HB; have HO_371000 := n0_; have HO_371001 := n1_; have BK360 := n2_; have BK361 := n3_; have BK370 := n4_; have HB := n5_; clear n0_ n1_ n2_ n3_ n4_ n5_)); have hnb33 := NB361_360.out; have hnc33 := NB360_361.out; have hnb34 := NB361_370.out; have hnc34 := NB370_361.out) | ((with_reducible refine gate_callee (f := 66) rfl ?_); refine goesL_ (some 59) rfl rfl Tryd.func66 (by kernel_rfl) rfl #[.agg #[], .int .i64 3, .int .i64 (wrap64 (x7_1 + t379))] rfl ls_ ?_; (with_reducible refine (spec_l22Bad_at.calls  3 (wrap64 (x7_1 + t379)) t381 t384 t387 t388 _ A32.out).mono ?_); rintro e w36 ⟨v382, v385, rfl, ho0, ho1, hb⟩; refine ⟨_, rfl, ?_⟩; have n0_ := Aside0.mk (Kd.R_mono (Kd.R_told (Kd.R_told (Kd.R_old (ra_ HO_371000.out) hb) (Kd.R_base ho0)) (Kd.R_base ho1)) (fun _ h_ => h_.1)); have n1_ := Aside0.mk (Kd.R_mono (Kd.R_told (Kd.R_told (Kd.R_old (ra_ HO_371001.out) hb) (Kd.R_base ho0)) (Kd.R_base ho1)) (fun _ h_ => h_.1)); have n2_ := Aside0.mk (Kd.R_lower (Kd.R_new' (Kd.R_new' ho0 (Kd.R_lt (ra_ HO_371000.out))) (Kd.R_lt (ra_ HO_371001.out))) (below_size hb_)); have n3_ := Aside0.mk (Kd.R_lower (Kd.R_new' (Kd.R_new' ho1 (Kd.R_lt (ra_ HO_371000.out))) (Kd.R_lt (ra_ HO_371001.out))) (below_size hb_)); have n4_ := bb_ BK360 hb; have n5_ := bb_ BK361 hb; have n6_ := bb_ BK370 hb; have n7_ := Aside0.mk (below_step hb_ hb); clear HO_371000; clear HO_371001; clear BK360; clear BK361; clear BK370; clear HB; have HO_371000 := n0_; have HO_371001 := n1_; have HO383 := n2_; have HO386 := n3_; have BK360 := n4_; have BK361 := n5_; have BK370 := n6_; have HB := n7_; clear n0_ n1_ n2_ n3_ n4_ n5_ n6_ n7_; (try clear hb); (try clear hb2); (try clear hk); (try clear hi); (try clear ho0); (try clear ho1); obtain ⟨Ao37, co37, eo37⟩ := Kd.R_slice HO383.out; subst eo37; have hnb38 := NB360_370.out; have hnc38 := NB370_360.out; have hcz39_0 : w36.cell? ⟨gb360, 0, none⟩ = some (.slice none 0 0) := (blk_cell BK360.out 0).trans rfl; have hcz39_1 : w36.cell? ⟨gb360, 1, none⟩ = some (.slice none 0 0) := (blk_cell BK360.out 1).trans rfl; have hcz39_2 : w36.cell? ⟨gb360, 2, none⟩ = some (.int .i64 x361002_1) := (blk_cell BK360.out 2).trans rfl; have hcz39_3 : w36.cell? ⟨gb360, 3, none⟩ = some (.int .i64 x361003_1) := (blk_cell BK360.out 3).trans rfl; have hfz39_0 := blk_frozen BK360.out 0; have hfz39_1 := blk_frozen BK360.out 1; have hfz39_2 := blk_frozen BK360.out 2; have hfz39_3 := blk_frozen BK360.out 3; obtain ⟨Ao40, co40, eo40⟩ := Kd.R_slice HO386.out; subst eo40))
              refine bodyPost_ret (results_cell_row rfl _ _ gb360 48 #[.slice Ao37 t381.length co37, .slice Ao40 t384.length co40, .int .i64 t387, .int .i64 t388] (0, 0) _ rfl (by (with_reducible repeat (first | refine blk_drewN ?_ _ | refine blk_drew ?_ | refine blk_alloc ?_ _)); refine blk_put (cs := #[.slice Ao37 t381.length co37, .slice Ao40 t384.length co40, .int .i64 t387, .int .i64 x361003_1]) ?_ 3 _ rfl; (with_reducible repeat (first | refine blk_drewN ?_ _ | refine blk_drew ?_ | refine blk_alloc ?_ _)); refine blk_put (cs := #[.slice Ao37 t381.length co37, .slice Ao40 t384.length co40, .int .i64 x361002_1, .int .i64 x361003_1]) ?_ 2 _ rfl; (with_reducible repeat (first | refine blk_drewN ?_ _ | refine blk_drew ?_ | refine blk_alloc ?_ _)); refine blk_put (cs := #[.slice Ao37 t381.length co37, .slice none 0 0, .int .i64 x361002_1, .int .i64 x361003_1]) ?_ 1 _ rfl; (with_reducible repeat (first | refine blk_drewN ?_ _ | refine blk_drew ?_ | refine blk_alloc ?_ _)); refine blk_put (cs := #[.slice none 0 0, .slice none 0 0, .int .i64 x361002_1, .int .i64 x361003_1]) ?_ 0 _ rfl; (with_reducible repeat (first | refine blk_drewN ?_ _ | refine blk_drew ?_ | refine blk_alloc ?_ _)); exact BK360.out) Tryd.underlying48 rfl (by kernel_rfl)) rfl ?_
              exact ⟨_, _, er_, by (with_reducible repeat (first | apply Kd.R_alloc | apply Kd.R_drewN | apply Kd.R_drew)); exact Kd.R_mono (Kd.R_far (p := ⟨gb360, 3, none⟩) (Kd.R_far (p := ⟨gb360, 2, none⟩) (Kd.R_far (p := ⟨gb360, 1, none⟩) (Kd.R_far (p := ⟨gb360, 0, none⟩) (Kd.R_types HO383.out BK360.out (by decide)) (fun _ hk => hk.2) (.slice Ao37 t381.length co37)) (fun _ hk => hk.2) (.slice Ao40 t384.length co40)) (fun _ hk => hk.2) (.int .i64 t387)) (fun _ hk => hk.2) (.int .i64 t388)) (fun _ hk => hk.1.1.1), by (with_reducible repeat (first | apply Kd.R_alloc | apply Kd.R_drewN | apply Kd.R_drew)); exact Kd.R_mono (Kd.R_far (p := ⟨gb360, 3, none⟩) (Kd.R_far (p := ⟨gb360, 2, none⟩) (Kd.R_far (p := ⟨gb360, 1, none⟩) (Kd.R_far (p := ⟨gb360, 0, none⟩) (Kd.R_types HO386.out BK360.out (by decide)) (fun _ hk => hk.2) (.slice Ao37 t381.length co37)) (fun _ hk => hk.2) (.slice Ao40 t384.length co40)) (fun _ hk => hk.2) (.int .i64 t387)) (fun _ hk => hk.2) (.int .i64 t388)) (fun _ hk => hk.1.1.1), hb_⟩
             ·rw [if_neg c31] at H
              have c31b0 : decide (0 ≤ t379) = false := decide_eq_false c31
              clear c31
              have HC41 := Aside0.mk H
              clear H
              go_upto_region 18 with (first | ((with_reducible refine gate_callee (f := 67) rfl ?_); refine goesL_ (some 50) rfl rfl Tryd.func67 (by kernel_rfl) rfl #[.string (a0.extract (x7_1 : Int).toNat (x8_21 : Int).toNat)] rfl ls_ ?_; (with_reducible refine (spec_l22Odd.calls kj21 (a0.extract (x7_1 : Int).toNat (x8_21 : Int).toNat) t379 t380 _ A30.out).mono ?_); rintro e w' ⟨rfl, ⟨nd, rfl⟩⟩; refine ⟨_, rfl, ?_⟩))
              (try simp only [Act.put, List.setIfInBounds_toArray, List.set_cons_zero, List.set_cons_succ])
              go_cut [65] (fun v65 wc => ∃ (kq : Nat) (x65_40 : Bool), v65 = .bool x65_40 ∧ Aside0 (spec_ReadWish.j3 kq a0 x5_1 x6_1 x7_1 x8_21 (a0.extract (x7_1 : Int).toNat (x8_21 : Int).toNat) t380 x65_40 x371000_1 x371001_1 = some (r1, r2, r3, r4)) ∧ Aside0 (kq ≤ kj21) ∧ Aside0 (Kd.R Kd.string 9 wc w.heap.size (fun k_ => some k_ ≠ (u371001 : Value).ownBlock) u371000 x371000_1) ∧ Aside0 (Kd.R Kd.string 9 wc w.heap.size (fun k_ => some k_ ≠ (u371000 : Value).ownBlock) u371001 x371001_1) ∧ Aside0 (wc.heap[gb360]? = some (.cells #[(.slice none 0 0), (.slice none 0 0), .int .i64 x361002_1, .int .i64 x361003_1] 48 (0, 0))) ∧ Aside0 (wc.heap[gb361]? = some (.cells #[] 83 (0, 0))) ∧ Aside0 (wc.heap[gb370]? = some (.cells #[u371000, u371001] 36 (0, 0))) ∧ Aside0 (Below w.heap.size w wc))
              case first =>
               have H := HC41.out
               clear HC41
               by_cases c42 : (a0.extract (x7_1 : Int).toNat (x8_21 : Int).toNat).toList = ([114, 101, 97, 99, 104] : List UInt8)
               ·rw [if_pos c42] at H
                have c42b0 : ((a0.extract (x7_1 : Int).toNat (x8_21 : Int).toNat).toList == ([114, 101, 97, 99, 104] : List UInt8)) = true := beq_iff_eq.mpr c42
                have c42b1 : ((a0.extract (x7_1 : Int).toNat (x8_21 : Int).toNat).toList != ([114, 101, 97, 99, 104] : List UInt8)) = false := bne_eq_false_iff_eq.mpr c42
                clear c42
                (first | rw [c42b0] | (simp only [i64_w, i32_w]; rw [c42b0]) | skip)
                have H' := Aside0.mk H
                clear H
                go_wp2
                go_meet
                case rel => exact ⟨_, (true), es_, H', ⟨by have := HK1.out; have := HJ21.out; first | omega | exact Nat.le_refl _⟩, ⟨ra_ HO_371000.out⟩, ⟨ra_ HO_371001.out⟩, ⟨bk_ BK360.out⟩, ⟨bk_ BK361.out⟩, ⟨bk_ BK370.out⟩, ⟨hb_⟩⟩
               ·rw [if_neg c42] at H
                have c42b0 : ((a0.extract (x7_1 : Int).toNat (x8_21 : Int).toNat).toList == ([114, 101, 97, 99, 104] : List UInt8)) = false := beq_eq_false_iff_ne.mpr c42
                have c42b1 : ((a0.extract (x7_1 : Int).toNat (x8_21 : Int).toNat).toList != ([114, 101, 97, 99, 104] : List UInt8)) = true := bne_iff_ne.mpr c42
                (first | rw [c42b0] | (simp only [i64_w, i32_w]; rw [c42b0]) | skip)
                have H' := Aside0.mk H
                clear H
                go_wp2
                go_meet
                case rel => exact ⟨_, (((a0.extract (x7_1 : Int).toNat (x8_21 : Int).toNat).toList == ([97, 118, 111, 105, 100] : List UInt8))), es_, H', ⟨by have := HK1.out; have := HJ21.out; first | omega | exact Nat.le_refl _⟩, ⟨ra_ HO_371000.out⟩, ⟨ra_ HO_371001.out⟩, ⟨bk_ BK360.out⟩, ⟨bk_ BK361.out⟩, ⟨bk_ BK370.out⟩, ⟨hb_⟩⟩
              case rest =>
               clear HC41
               try clear c1
               try clear c2
               try clear c2b0
               try clear c2b1
               try clear p2
               try clear q2
               try clear hx2
               try clear c3
               try clear c4
               try clear c6
               try clear p6
               try clear c15
               try clear c16
               try clear c18
               try clear c18b0
               try clear c19
               try clear c19b0
               try clear p20
               try clear q20
               try clear hx20
               try clear c21
               try clear c21b0
               try clear c21b1
               try clear c23
               try clear c23b0
               try clear c24
               try clear c24b0
               try clear p25
               try clear q25
               try clear hx25
               try clear c26
               try clear c26b0
               try clear c26b1
               try clear c27
               try clear c27b0
               try clear c27b1
               try clear c28
               try clear c28b0
               try clear c28b1
               try clear c29
               try clear c29b0
               try clear c29b1
               try clear c31
               try clear c31b0
               try clear c33
               try clear c34
               try clear c38
               try clear c42
               try clear c42b0
               try clear c42b1
               try clear hcz10_0
               try clear hcz10_1
               try clear hcz10_2
               try clear hcz10_3
               try clear hcz17_0
               try clear hcz17_1
               try clear hcz39_0
               try clear hcz39_1
               try clear hcz39_2
               try clear hcz39_3
               try clear hfz10_0
               try clear hfz10_1
               try clear hfz10_2
               try clear hfz10_3
               try clear hfz17_0
               try clear hfz17_1
               try clear hfz39_0
               try clear hfz39_1
               try clear hfz39_2
               try clear hfz39_3
               try clear p2
               try clear p20
               try clear p25
               try clear p6
               try clear q2
               try clear q20
               try clear q25
               obtain ⟨kq, x65_40, rfl, HA, HJ40, HO_371000, HO_371001, BK360, BK361, BK370, HB⟩ := hcut
               cases kq with
               | zero => exact absurd HA.out (by simp [spec_ReadWish.j3])
               | succ kj40 =>
                have H := HA.out
                clear HA
                simp only [spec_ReadWish.j3] at H
                by_cases c43 : x65_40 = true
                ·subst c43
                 rw [if_pos rfl] at H
                 by_cases c44 : (a0.extract (x7_1 : Int).toNat (x8_21 : Int).toNat).toList = ([97, 118, 111, 105, 100] : List UInt8)
                 ·rw [if_pos c44] at H
                  have c44b0 : ((a0.extract (x7_1 : Int).toNat (x8_21 : Int).toNat).toList == ([97, 118, 111, 105, 100] : List UInt8)) = true := beq_iff_eq.mpr c44
                  have c44b1 : ((a0.extract (x7_1 : Int).toNat (x8_21 : Int).toNat).toList != ([97, 118, 111, 105, 100] : List UInt8)) = false := bne_eq_false_iff_eq.mpr c44
                  clear c44
                  by_cases c45 : 2 ≤ x5_1
                  ·rw [if_pos c45] at H
                   have c45b0 : decide (2 ≤ x5_1) = true := decide_eq_true c45
                   clear c45
                   replace H := Option.bind_eq_some_iff.mp H
                   obtain ⟨⟨t389, t392, t395, t396⟩, A460, H⟩ := H
                   replace H : (some (t389, t392, t395, t396)) = some (r1, r2, r3, r4) := H
                   have A46 := Aside0.mk A460
                   clear A460
                   simp only [Option.some.injEq, Prod.mk.injEq] at H
                   obtain ⟨rfl, rfl, rfl, rfl⟩ := H
                   have hnb47 := NB361_360.out
                   have hnc47 := NB360_361.out
                   have hnb48 := NB361_370.out
                   have hnc48 := NB370_361.out
                   go_wp2_with (first | ((with_reducible refine gate_callee (f := 66) rfl ?_); refine goesL_ (some 77) rfl rfl Tryd.func66 (by kernel_rfl) rfl #[.agg #[], .int .i64 1, .int .i64 x7_1] rfl ls_ ?_; (with_reducible refine (spec_l22Bad_at.calls  1 x7_1 t389 t392 t395 t396 _ A46.out).mono ?_); rintro e w50 ⟨v390, v393, rfl, ho0, ho1, hb⟩; refine ⟨_, rfl, ?_⟩; have n0_ := Aside0.mk (Kd.R_mono (Kd.R_told (Kd.R_told (Kd.R_old (ra_ HO_371000.out) hb) (Kd.R_base ho0)) (Kd.R_base ho1)) (fun _ h_ => h_.1)); have n1_ := Aside0.mk (Kd.R_mono (Kd.R_told (Kd.R_told (Kd.R_old (ra_ HO_371001.out) hb) (Kd.R_base ho0)) (Kd.R_base ho1)) (fun _ h_ => h_.1)); have n2_ := Aside0.mk (Kd.R_lower (Kd.R_new' (Kd.R_new' ho0 (Kd.R_lt (ra_ HO_371000.out))) (Kd.R_lt (ra_ HO_371001.out))) (below_size hb_)); have n3_ := Aside0.mk (Kd.R_lower (Kd.R_new' (Kd.R_new' ho1 (Kd.R_lt (ra_ HO_371000.out))) (Kd.R_lt (ra_ HO_371001.out))) (below_size hb_)); have n4_ := bb_ BK360 hb; have n5_ := bb_ BK361 hb; have n6_ := bb_ BK370 hb; have n7_ := Aside0.mk (below_step hb_ hb); clear HO_371000; clear HO_371001; clear BK360; clear BK361; clear BK370; clear HB; have HO_371000 := n0_; have HO_371001 := n1_; have HO391 := n2_; have HO394 := n3_; have BK360 := n4_; have BK361 := n5_; have BK370 := n6_; have HB := n7_; clear n0_ n1_ n2_ n3_ n4_ n5_ n6_ n7_; (try clear hb); (try clear hb2); (try clear hk); (try clear hi); (try clear ho0); (try clear ho1); obtain ⟨Ao51, co51, eo51⟩ := Kd.R_slice HO391.out; subst eo51; have hnb52 := NB360_370.out; have hnc52 := NB370_360.out; have hcz53_0 : w50.cell? ⟨gb360, 0, none⟩ = some (.slice none 0 0) := (blk_cell BK360.out 0).trans rfl; have hcz53_1 : w50.cell? ⟨gb360, 1, none⟩ = some (.slice none 0 0) := (blk_cell BK360.out 1).trans rfl; have hcz53_2 : w50.cell? ⟨gb360, 2, none⟩ = some (.int .i64 x361002_1) := (blk_cell BK360.out 2).trans rfl; have hcz53_3 : w50.cell? ⟨gb360, 3, none⟩ = some (.int .i64 x361003_1) := (blk_cell BK360.out 3).trans rfl; have hfz53_0 := blk_frozen BK360.out 0; have hfz53_1 := blk_frozen BK360.out 1; have hfz53_2 := blk_frozen BK360.out 2; have hfz53_3 := blk_frozen BK360.out 3; obtain ⟨Ao54, co54, eo54⟩ := Kd.R_slice HO394.out; subst eo54))
                   refine bodyPost_ret (results_cell_row rfl _ _ gb360 48 #[.slice Ao51 t389.length co51, .slice Ao54 t392.length co54, .int .i64 t395, .int .i64 t396] (0, 0) _ rfl (by (with_reducible repeat (first | refine blk_drewN ?_ _ | refine blk_drew ?_ | refine blk_alloc ?_ _)); refine blk_put (cs := #[.slice Ao51 t389.length co51, .slice Ao54 t392.length co54, .int .i64 t395, .int .i64 x361003_1]) ?_ 3 _ rfl; (with_reducible repeat (first | refine blk_drewN ?_ _ | refine blk_drew ?_ | refine blk_alloc ?_ _)); refine blk_put (cs := #[.slice Ao51 t389.length co51, .slice Ao54 t392.length co54, .int .i64 x361002_1, .int .i64 x361003_1]) ?_ 2 _ rfl; (with_reducible repeat (first | refine blk_drewN ?_ _ | refine blk_drew ?_ | refine blk_alloc ?_ _)); refine blk_put (cs := #[.slice Ao51 t389.length co51, .slice none 0 0, .int .i64 x361002_1, .int .i64 x361003_1]) ?_ 1 _ rfl; (with_reducible repeat (first | refine blk_drewN ?_ _ | refine blk_drew ?_ | refine blk_alloc ?_ _)); refine blk_put (cs := #[.slice none 0 0, .slice none 0 0, .int .i64 x361002_1, .int .i64 x361003_1]) ?_ 0 _ rfl; (with_reducible repeat (first | refine blk_drewN ?_ _ | refine blk_drew ?_ | refine blk_alloc ?_ _)); exact BK360.out) Tryd.underlying48 rfl (by kernel_rfl)) rfl ?_
                   exact ⟨_, _, er_, by (with_reducible repeat (first | apply Kd.R_alloc | apply Kd.R_drewN | apply Kd.R_drew)); exact Kd.R_mono (Kd.R_far (p := ⟨gb360, 3, none⟩) (Kd.R_far (p := ⟨gb360, 2, none⟩) (Kd.R_far (p := ⟨gb360, 1, none⟩) (Kd.R_far (p := ⟨gb360, 0, none⟩) (Kd.R_types HO391.out BK360.out (by decide)) (fun _ hk => hk.2) (.slice Ao51 t389.length co51)) (fun _ hk => hk.2) (.slice Ao54 t392.length co54)) (fun _ hk => hk.2) (.int .i64 t395)) (fun _ hk => hk.2) (.int .i64 t396)) (fun _ hk => hk.1.1.1), by (with_reducible repeat (first | apply Kd.R_alloc | apply Kd.R_drewN | apply Kd.R_drew)); exact Kd.R_mono (Kd.R_far (p := ⟨gb360, 3, none⟩) (Kd.R_far (p := ⟨gb360, 2, none⟩) (Kd.R_far (p := ⟨gb360, 1, none⟩) (Kd.R_far (p := ⟨gb360, 0, none⟩) (Kd.R_types HO394.out BK360.out (by decide)) (fun _ hk => hk.2) (.slice Ao51 t389.length co51)) (fun _ hk => hk.2) (.slice Ao54 t392.length co54)) (fun _ hk => hk.2) (.int .i64 t395)) (fun _ hk => hk.2) (.int .i64 t396)) (fun _ hk => hk.1.1.1), hb_⟩
                  ·rw [if_neg c45] at H
                   have c45b0 : decide (2 ≤ x5_1) = false := decide_eq_false c45
                   clear c45
                   by_cases c55 : x6_1 = 0
                   ·rw [if_pos c55] at H
                    have c55b0 : (x6_1 == 0) = true := beq_iff_eq.mpr c55
                    have c55b1 : (x6_1 != 0) = false := bne_eq_false_iff_eq.mpr c55
                    clear c55
                    replace H := Option.bind_eq_some_iff.mp H
                    obtain ⟨⟨t397, t400, t403, t404⟩, A560, H⟩ := H
                    replace H : (some (t397, t400, t403, t404)) = some (r1, r2, r3, r4) := H
                    have A56 := Aside0.mk A560
                    clear A560
                    simp only [Option.some.injEq, Prod.mk.injEq] at H
                    obtain ⟨rfl, rfl, rfl, rfl⟩ := H
                    have hnb57 := NB361_360.out
                    have hnc57 := NB360_361.out
                    have hnb58 := NB361_370.out
                    have hnc58 := NB370_361.out
                    go_wp2_with (first | ((with_reducible refine gate_callee (f := 66) rfl ?_); refine goesL_ (some 77) rfl rfl Tryd.func66 (by kernel_rfl) rfl #[.agg #[], .int .i64 1, .int .i64 x7_1] rfl ls_ ?_; (with_reducible refine (spec_l22Bad_at.calls  1 x7_1 t397 t400 t403 t404 _ A56.out).mono ?_); rintro e w60 ⟨v398, v401, rfl, ho0, ho1, hb⟩; refine ⟨_, rfl, ?_⟩; have n0_ := Aside0.mk (Kd.R_mono (Kd.R_told (Kd.R_told (Kd.R_old (ra_ HO_371000.out) hb) (Kd.R_base ho0)) (Kd.R_base ho1)) (fun _ h_ => h_.1)); have n1_ := Aside0.mk (Kd.R_mono (Kd.R_told (Kd.R_told (Kd.R_old (ra_ HO_371001.out) hb) (Kd.R_base ho0)) (Kd.R_base ho1)) (fun _ h_ => h_.1)); have n2_ := Aside0.mk (Kd.R_lower (Kd.R_new' (Kd.R_new' ho0 (Kd.R_lt (ra_ HO_371000.out))) (Kd.R_lt (ra_ HO_371001.out))) (below_size hb_)); have n3_ := Aside0.mk (Kd.R_lower (Kd.R_new' (Kd.R_new' ho1 (Kd.R_lt (ra_ HO_371000.out))) (Kd.R_lt (ra_ HO_371001.out))) (below_size hb_)); have n4_ := bb_ BK360 hb; have n5_ := bb_ BK361 hb; have n6_ := bb_ BK370 hb; have n7_ := Aside0.mk (below_step hb_ hb); clear HO_371000; clear HO_371001; clear BK360; clear BK361; clear BK370; clear HB; have HO_371000 := n0_; have HO_371001 := n1_; have HO399 := n2_; have HO402 := n3_; have BK360 := n4_; have BK361 := n5_; have BK370 := n6_; have HB := n7_; clear n0_ n1_ n2_ n3_ n4_ n5_ n6_ n7_; (try clear hb); (try clear hb2); (try clear hk); (try clear hi); (try clear ho0); (try clear ho1); obtain ⟨Ao61, co61, eo61⟩ := Kd.R_slice HO399.out; subst eo61; have hnb62 := NB360_370.out; have hnc62 := NB370_360.out; have hcz63_0 : w60.cell? ⟨gb360, 0, none⟩ = some (.slice none 0 0) := (blk_cell BK360.out 0).trans rfl; have hcz63_1 : w60.cell? ⟨gb360, 1, none⟩ = some (.slice none 0 0) := (blk_cell BK360.out 1).trans rfl; have hcz63_2 : w60.cell? ⟨gb360, 2, none⟩ = some (.int .i64 x361002_1) := (blk_cell BK360.out 2).trans rfl; have hcz63_3 : w60.cell? ⟨gb360, 3, none⟩ = some (.int .i64 x361003_1) := (blk_cell BK360.out 3).trans rfl; have hfz63_0 := blk_frozen BK360.out 0; have hfz63_1 := blk_frozen BK360.out 1; have hfz63_2 := blk_frozen BK360.out 2; have hfz63_3 := blk_frozen BK360.out 3; obtain ⟨Ao64, co64, eo64⟩ := Kd.R_slice HO402.out; subst eo64))
                    refine bodyPost_ret (results_cell_row rfl _ _ gb360 48 #[.slice Ao61 t397.length co61, .slice Ao64 t400.length co64, .int .i64 t403, .int .i64 t404] (0, 0) _ rfl (by (with_reducible repeat (first | refine blk_drewN ?_ _ | refine blk_drew ?_ | refine blk_alloc ?_ _)); refine blk_put (cs := #[.slice Ao61 t397.length co61, .slice Ao64 t400.length co64, .int .i64 t403, .int .i64 x361003_1]) ?_ 3 _ rfl; (with_reducible repeat (first | refine blk_drewN ?_ _ | refine blk_drew ?_ | refine blk_alloc ?_ _)); refine blk_put (cs := #[.slice Ao61 t397.length co61, .slice Ao64 t400.length co64, .int .i64 x361002_1, .int .i64 x361003_1]) ?_ 2 _ rfl; (with_reducible repeat (first | refine blk_drewN ?_ _ | refine blk_drew ?_ | refine blk_alloc ?_ _)); refine blk_put (cs := #[.slice Ao61 t397.length co61, .slice none 0 0, .int .i64 x361002_1, .int .i64 x361003_1]) ?_ 1 _ rfl; (with_reducible repeat (first | refine blk_drewN ?_ _ | refine blk_drew ?_ | refine blk_alloc ?_ _)); refine blk_put (cs := #[.slice none 0 0, .slice none 0 0, .int .i64 x361002_1, .int .i64 x361003_1]) ?_ 0 _ rfl; (with_reducible repeat (first | refine blk_drewN ?_ _ | refine blk_drew ?_ | refine blk_alloc ?_ _)); exact BK360.out) Tryd.underlying48 rfl (by kernel_rfl)) rfl ?_
                    exact ⟨_, _, er_, by (with_reducible repeat (first | apply Kd.R_alloc | apply Kd.R_drewN | apply Kd.R_drew)); exact Kd.R_mono (Kd.R_far (p := ⟨gb360, 3, none⟩) (Kd.R_far (p := ⟨gb360, 2, none⟩) (Kd.R_far (p := ⟨gb360, 1, none⟩) (Kd.R_far (p := ⟨gb360, 0, none⟩) (Kd.R_types HO399.out BK360.out (by decide)) (fun _ hk => hk.2) (.slice Ao61 t397.length co61)) (fun _ hk => hk.2) (.slice Ao64 t400.length co64)) (fun _ hk => hk.2) (.int .i64 t403)) (fun _ hk => hk.2) (.int .i64 t404)) (fun _ hk => hk.1.1.1), by (with_reducible repeat (first | apply Kd.R_alloc | apply Kd.R_drewN | apply Kd.R_drew)); exact Kd.R_mono (Kd.R_far (p := ⟨gb360, 3, none⟩) (Kd.R_far (p := ⟨gb360, 2, none⟩) (Kd.R_far (p := ⟨gb360, 1, none⟩) (Kd.R_far (p := ⟨gb360, 0, none⟩) (Kd.R_types HO402.out BK360.out (by decide)) (fun _ hk => hk.2) (.slice Ao61 t397.length co61)) (fun _ hk => hk.2) (.slice Ao64 t400.length co64)) (fun _ hk => hk.2) (.int .i64 t403)) (fun _ hk => hk.2) (.int .i64 t404)) (fun _ hk => hk.1.1.1), hb_⟩
                   ·rw [if_neg c55] at H
                    have c55b0 : (x6_1 == 0) = false := beq_eq_false_iff_ne.mpr c55
                    have c55b1 : (x6_1 != 0) = true := bne_iff_ne.mpr c55
                    have H' := Aside0.mk H
                    clear H
                    go_wp2
                    go_roundg kj40
                    case measure => have := HK1.out; have := HJ21.out; have := HJ40.out; omega
                    case rel => exact ⟨(2), (0), (x8_21), (x361002_1), (x361003_1), (x371000_1), (x371001_1), (u371000), (u371001), es_, es_, es_, H', ⟨by have := HK1.out; have := HJ21.out; have := HJ40.out; omega⟩, ⟨ra_ HO_371000.out⟩, ⟨ra_ HO_371001.out⟩, ⟨bk_ BK360.out⟩, ⟨bk_ BK361.out⟩, ⟨bk_ BK370.out⟩, ⟨hb_⟩⟩
                 ·rw [if_neg c44] at H
                  have c44b0 : ((a0.extract (x7_1 : Int).toNat (x8_21 : Int).toNat).toList == ([97, 118, 111, 105, 100] : List UInt8)) = false := beq_eq_false_iff_ne.mpr c44
                  have c44b1 : ((a0.extract (x7_1 : Int).toNat (x8_21 : Int).toNat).toList != ([97, 118, 111, 105, 100] : List UInt8)) = true := bne_iff_ne.mpr c44
                  by_cases c65 : 1 ≤ x5_1
                  ·rw [if_pos c65] at H
                   have c65b0 : decide (1 ≤ x5_1) = true := decide_eq_true c65
                   clear c65
                   replace H := Option.bind_eq_some_iff.mp H
                   obtain ⟨⟨t405, t408, t411, t412⟩, A660, H⟩ := H
                   replace H : (some (t405, t408, t411, t412)) = some (r1, r2, r3, r4) := H
                   have A66 := Aside0.mk A660
                   clear A660
                   simp only [Option.some.injEq, Prod.mk.injEq] at H
                   obtain ⟨rfl, rfl, rfl, rfl⟩ := H
                   have hnb67 := NB361_360.out
                   have hnc67 := NB360_361.out
                   have hnb68 := NB361_370.out
                   have hnc68 := NB370_361.out
                   go_wp2_with (first | ((with_reducible refine gate_callee (f := 66) rfl ?_); refine goesL_ (some 77) rfl rfl Tryd.func66 (by kernel_rfl) rfl #[.agg #[], .int .i64 1, .int .i64 x7_1] rfl ls_ ?_; (with_reducible refine (spec_l22Bad_at.calls  1 x7_1 t405 t408 t411 t412 _ A66.out).mono ?_); rintro e w70 ⟨v406, v409, rfl, ho0, ho1, hb⟩; refine ⟨_, rfl, ?_⟩; have n0_ := Aside0.mk (Kd.R_mono (Kd.R_told (Kd.R_told (Kd.R_old (ra_ HO_371000.out) hb) (Kd.R_base ho0)) (Kd.R_base ho1)) (fun _ h_ => h_.1)); have n1_ := Aside0.mk (Kd.R_mono (Kd.R_told (Kd.R_told (Kd.R_old (ra_ HO_371001.out) hb) (Kd.R_base ho0)) (Kd.R_base ho1)) (fun _ h_ => h_.1)); have n2_ := Aside0.mk (Kd.R_lower (Kd.R_new' (Kd.R_new' ho0 (Kd.R_lt (ra_ HO_371000.out))) (Kd.R_lt (ra_ HO_371001.out))) (below_size hb_)); have n3_ := Aside0.mk (Kd.R_lower (Kd.R_new' (Kd.R_new' ho1 (Kd.R_lt (ra_ HO_371000.out))) (Kd.R_lt (ra_ HO_371001.out))) (below_size hb_)); have n4_ := bb_ BK360 hb; have n5_ := bb_ BK361 hb; have n6_ := bb_ BK370 hb; have n7_ := Aside0.mk (below_step hb_ hb); clear HO_371000; clear HO_371001; clear BK360; clear BK361; clear BK370; clear HB; have HO_371000 := n0_; have HO_371001 := n1_; have HO407 := n2_; have HO410 := n3_; have BK360 := n4_; have BK361 := n5_; have BK370 := n6_; have HB := n7_; clear n0_ n1_ n2_ n3_ n4_ n5_ n6_ n7_; (try clear hb); (try clear hb2); (try clear hk); (try clear hi); (try clear ho0); (try clear ho1); obtain ⟨Ao71, co71, eo71⟩ := Kd.R_slice HO407.out; subst eo71; have hnb72 := NB360_370.out; have hnc72 := NB370_360.out; have hcz73_0 : w70.cell? ⟨gb360, 0, none⟩ = some (.slice none 0 0) := (blk_cell BK360.out 0).trans rfl; have hcz73_1 : w70.cell? ⟨gb360, 1, none⟩ = some (.slice none 0 0) := (blk_cell BK360.out 1).trans rfl; have hcz73_2 : w70.cell? ⟨gb360, 2, none⟩ = some (.int .i64 x361002_1) := (blk_cell BK360.out 2).trans rfl; have hcz73_3 : w70.cell? ⟨gb360, 3, none⟩ = some (.int .i64 x361003_1) := (blk_cell BK360.out 3).trans rfl; have hfz73_0 := blk_frozen BK360.out 0; have hfz73_1 := blk_frozen BK360.out 1; have hfz73_2 := blk_frozen BK360.out 2; have hfz73_3 := blk_frozen BK360.out 3; obtain ⟨Ao74, co74, eo74⟩ := Kd.R_slice HO410.out; subst eo74))
                   refine bodyPost_ret (results_cell_row rfl _ _ gb360 48 #[.slice Ao71 t405.length co71, .slice Ao74 t408.length co74, .int .i64 t411, .int .i64 t412] (0, 0) _ rfl (by (with_reducible repeat (first | refine blk_drewN ?_ _ | refine blk_drew ?_ | refine blk_alloc ?_ _)); refine blk_put (cs := #[.slice Ao71 t405.length co71, .slice Ao74 t408.length co74, .int .i64 t411, .int .i64 x361003_1]) ?_ 3 _ rfl; (with_reducible repeat (first | refine blk_drewN ?_ _ | refine blk_drew ?_ | refine blk_alloc ?_ _)); refine blk_put (cs := #[.slice Ao71 t405.length co71, .slice Ao74 t408.length co74, .int .i64 x361002_1, .int .i64 x361003_1]) ?_ 2 _ rfl; (with_reducible repeat (first | refine blk_drewN ?_ _ | refine blk_drew ?_ | refine blk_alloc ?_ _)); refine blk_put (cs := #[.slice Ao71 t405.length co71, .slice none 0 0, .int .i64 x361002_1, .int .i64 x361003_1]) ?_ 1 _ rfl; (with_reducible repeat (first | refine blk_drewN ?_ _ | refine blk_drew ?_ | refine blk_alloc ?_ _)); refine blk_put (cs := #[.slice none 0 0, .slice none 0 0, .int .i64 x361002_1, .int .i64 x361003_1]) ?_ 0 _ rfl; (with_reducible repeat (first | refine blk_drewN ?_ _ | refine blk_drew ?_ | refine blk_alloc ?_ _)); exact BK360.out) Tryd.underlying48 rfl (by kernel_rfl)) rfl ?_
                   exact ⟨_, _, er_, by (with_reducible repeat (first | apply Kd.R_alloc | apply Kd.R_drewN | apply Kd.R_drew)); exact Kd.R_mono (Kd.R_far (p := ⟨gb360, 3, none⟩) (Kd.R_far (p := ⟨gb360, 2, none⟩) (Kd.R_far (p := ⟨gb360, 1, none⟩) (Kd.R_far (p := ⟨gb360, 0, none⟩) (Kd.R_types HO407.out BK360.out (by decide)) (fun _ hk => hk.2) (.slice Ao71 t405.length co71)) (fun _ hk => hk.2) (.slice Ao74 t408.length co74)) (fun _ hk => hk.2) (.int .i64 t411)) (fun _ hk => hk.2) (.int .i64 t412)) (fun _ hk => hk.1.1.1), by (with_reducible repeat (first | apply Kd.R_alloc | apply Kd.R_drewN | apply Kd.R_drew)); exact Kd.R_mono (Kd.R_far (p := ⟨gb360, 3, none⟩) (Kd.R_far (p := ⟨gb360, 2, none⟩) (Kd.R_far (p := ⟨gb360, 1, none⟩) (Kd.R_far (p := ⟨gb360, 0, none⟩) (Kd.R_types HO410.out BK360.out (by decide)) (fun _ hk => hk.2) (.slice Ao71 t405.length co71)) (fun _ hk => hk.2) (.slice Ao74 t408.length co74)) (fun _ hk => hk.2) (.int .i64 t411)) (fun _ hk => hk.2) (.int .i64 t412)) (fun _ hk => hk.1.1.1), hb_⟩
                  ·rw [if_neg c65] at H
                   have c65b0 : decide (1 ≤ x5_1) = false := decide_eq_false c65
                   clear c65
                   by_cases c75 : x6_1 = 0
                   ·rw [if_pos c75] at H
                    have c75b0 : (x6_1 == 0) = true := beq_iff_eq.mpr c75
                    have c75b1 : (x6_1 != 0) = false := bne_eq_false_iff_eq.mpr c75
                    clear c75
                    replace H := Option.bind_eq_some_iff.mp H
                    obtain ⟨⟨t413, t416, t419, t420⟩, A760, H⟩ := H
                    replace H : (some (t413, t416, t419, t420)) = some (r1, r2, r3, r4) := H
                    have A76 := Aside0.mk A760
                    clear A760
                    simp only [Option.some.injEq, Prod.mk.injEq] at H
                    obtain ⟨rfl, rfl, rfl, rfl⟩ := H
                    have hnb77 := NB361_360.out
                    have hnc77 := NB360_361.out
                    have hnb78 := NB361_370.out
                    have hnc78 := NB370_361.out
                    go_wp2_with (first | ((with_reducible refine gate_callee (f := 66) rfl ?_); refine goesL_ (some 77) rfl rfl Tryd.func66 (by kernel_rfl) rfl #[.agg #[], .int .i64 1, .int .i64 x7_1] rfl ls_ ?_; (with_reducible refine (spec_l22Bad_at.calls  1 x7_1 t413 t416 t419 t420 _ A76.out).mono ?_); rintro e w80 ⟨v414, v417, rfl, ho0, ho1, hb⟩; refine ⟨_, rfl, ?_⟩; have n0_ := Aside0.mk (Kd.R_mono (Kd.R_told (Kd.R_told (Kd.R_old (ra_ HO_371000.out) hb) (Kd.R_base ho0)) (Kd.R_base ho1)) (fun _ h_ => h_.1)); have n1_ := Aside0.mk (Kd.R_mono (Kd.R_told (Kd.R_told (Kd.R_old (ra_ HO_371001.out) hb) (Kd.R_base ho0)) (Kd.R_base ho1)) (fun _ h_ => h_.1)); have n2_ := Aside0.mk (Kd.R_lower (Kd.R_new' (Kd.R_new' ho0 (Kd.R_lt (ra_ HO_371000.out))) (Kd.R_lt (ra_ HO_371001.out))) (below_size hb_)); have n3_ := Aside0.mk (Kd.R_lower (Kd.R_new' (Kd.R_new' ho1 (Kd.R_lt (ra_ HO_371000.out))) (Kd.R_lt (ra_ HO_371001.out))) (below_size hb_)); have n4_ := bb_ BK360 hb; have n5_ := bb_ BK361 hb; have n6_ := bb_ BK370 hb; have n7_ := Aside0.mk (below_step hb_ hb); clear HO_371000; clear HO_371001; clear BK360; clear BK361; clear BK370; clear HB; have HO_371000 := n0_; have HO_371001 := n1_; have HO415 := n2_; have HO418 := n3_; have BK360 := n4_; have BK361 := n5_; have BK370 := n6_; have HB := n7_; clear n0_ n1_ n2_ n3_ n4_ n5_ n6_ n7_; (try clear hb); (try clear hb2); (try clear hk); (try clear hi); (try clear ho0); (try clear ho1); obtain ⟨Ao81, co81, eo81⟩ := Kd.R_slice HO415.out; subst eo81; have hnb82 := NB360_370.out; have hnc82 := NB370_360.out; have hcz83_0 : w80.cell? ⟨gb360, 0, none⟩ = some (.slice none 0 0) := (blk_cell BK360.out 0).trans rfl; have hcz83_1 : w80.cell? ⟨gb360, 1, none⟩ = some (.slice none 0 0) := (blk_cell BK360.out 1).trans rfl; have hcz83_2 : w80.cell? ⟨gb360, 2, none⟩ = some (.int .i64 x361002_1) := (blk_cell BK360.out 2).trans rfl; have hcz83_3 : w80.cell? ⟨gb360, 3, none⟩ = some (.int .i64 x361003_1) := (blk_cell BK360.out 3).trans rfl; have hfz83_0 := blk_frozen BK360.out 0; have hfz83_1 := blk_frozen BK360.out 1; have hfz83_2 := blk_frozen BK360.out 2; have hfz83_3 := blk_frozen BK360.out 3; obtain ⟨Ao84, co84, eo84⟩ := Kd.R_slice HO418.out; subst eo84))
                    refine bodyPost_ret (results_cell_row rfl _ _ gb360 48 #[.slice Ao81 t413.length co81, .slice Ao84 t416.length co84, .int .i64 t419, .int .i64 t420] (0, 0) _ rfl (by (with_reducible repeat (first | refine blk_drewN ?_ _ | refine blk_drew ?_ | refine blk_alloc ?_ _)); refine blk_put (cs := #[.slice Ao81 t413.length co81, .slice Ao84 t416.length co84, .int .i64 t419, .int .i64 x361003_1]) ?_ 3 _ rfl; (with_reducible repeat (first | refine blk_drewN ?_ _ | refine blk_drew ?_ | refine blk_alloc ?_ _)); refine blk_put (cs := #[.slice Ao81 t413.length co81, .slice Ao84 t416.length co84, .int .i64 x361002_1, .int .i64 x361003_1]) ?_ 2 _ rfl; (with_reducible repeat (first | refine blk_drewN ?_ _ | refine blk_drew ?_ | refine blk_alloc ?_ _)); refine blk_put (cs := #[.slice Ao81 t413.length co81, .slice none 0 0, .int .i64 x361002_1, .int .i64 x361003_1]) ?_ 1 _ rfl; (with_reducible repeat (first | refine blk_drewN ?_ _ | refine blk_drew ?_ | refine blk_alloc ?_ _)); refine blk_put (cs := #[.slice none 0 0, .slice none 0 0, .int .i64 x361002_1, .int .i64 x361003_1]) ?_ 0 _ rfl; (with_reducible repeat (first | refine blk_drewN ?_ _ | refine blk_drew ?_ | refine blk_alloc ?_ _)); exact BK360.out) Tryd.underlying48 rfl (by kernel_rfl)) rfl ?_
                    exact ⟨_, _, er_, by (with_reducible repeat (first | apply Kd.R_alloc | apply Kd.R_drewN | apply Kd.R_drew)); exact Kd.R_mono (Kd.R_far (p := ⟨gb360, 3, none⟩) (Kd.R_far (p := ⟨gb360, 2, none⟩) (Kd.R_far (p := ⟨gb360, 1, none⟩) (Kd.R_far (p := ⟨gb360, 0, none⟩) (Kd.R_types HO415.out BK360.out (by decide)) (fun _ hk => hk.2) (.slice Ao81 t413.length co81)) (fun _ hk => hk.2) (.slice Ao84 t416.length co84)) (fun _ hk => hk.2) (.int .i64 t419)) (fun _ hk => hk.2) (.int .i64 t420)) (fun _ hk => hk.1.1.1), by (with_reducible repeat (first | apply Kd.R_alloc | apply Kd.R_drewN | apply Kd.R_drew)); exact Kd.R_mono (Kd.R_far (p := ⟨gb360, 3, none⟩) (Kd.R_far (p := ⟨gb360, 2, none⟩) (Kd.R_far (p := ⟨gb360, 1, none⟩) (Kd.R_far (p := ⟨gb360, 0, none⟩) (Kd.R_types HO418.out BK360.out (by decide)) (fun _ hk => hk.2) (.slice Ao81 t413.length co81)) (fun _ hk => hk.2) (.slice Ao84 t416.length co84)) (fun _ hk => hk.2) (.int .i64 t419)) (fun _ hk => hk.2) (.int .i64 t420)) (fun _ hk => hk.1.1.1), hb_⟩
                   ·rw [if_neg c75] at H
                    have c75b0 : (x6_1 == 0) = false := beq_eq_false_iff_ne.mpr c75
                    have c75b1 : (x6_1 != 0) = true := bne_iff_ne.mpr c75
                    have H' := Aside0.mk H
                    clear H
                    go_wp2
                    go_roundg kj40
                    case measure => have := HK1.out; have := HJ21.out; have := HJ40.out; omega
                    case rel => exact ⟨(1), (0), (x8_21), (x361002_1), (x361003_1), (x371000_1), (x371001_1), (u371000), (u371001), es_, es_, es_, H', ⟨by have := HK1.out; have := HJ21.out; have := HJ40.out; omega⟩, ⟨ra_ HO_371000.out⟩, ⟨ra_ HO_371001.out⟩, ⟨bk_ BK360.out⟩, ⟨bk_ BK361.out⟩, ⟨bk_ BK370.out⟩, ⟨hb_⟩⟩
                ·replace c43 := Bool.eq_false_iff.mpr c43
                 subst c43
                 rw [if_neg (show ¬ (false = true) by decide)] at H
                 by_cases c85 : x5_1 = 0
                 ·rw [if_pos c85] at H
                  have c85b0 : (x5_1 == 0) = true := beq_iff_eq.mpr c85
                  have c85b1 : (x5_1 != 0) = false := bne_eq_false_iff_eq.mpr c85
                  clear c85
                  replace H := Option.bind_eq_some_iff.mp H
                  obtain ⟨⟨t421, t424, t427, t428⟩, A860, H⟩ := H
                  replace H : (some (t421, t424, t427, t428)) = some (r1, r2, r3, r4) := H
                  have A86 := Aside0.mk A860
                  clear A860
                  simp only [Option.some.injEq, Prod.mk.injEq] at H
                  obtain ⟨rfl, rfl, rfl, rfl⟩ := H
                  have hnb87 := NB361_360.out
                  have hnc87 := NB360_361.out
                  have hnb88 := NB361_370.out
                  have hnc88 := NB370_361.out
                  go_wp2_with (first | ((with_reducible refine gate_callee (f := 66) rfl ?_); refine goesL_ (some 84) rfl rfl Tryd.func66 (by kernel_rfl) rfl #[.agg #[], .int .i64 1, .int .i64 x7_1] rfl ls_ ?_; (with_reducible refine (spec_l22Bad_at.calls  1 x7_1 t421 t424 t427 t428 _ A86.out).mono ?_); rintro e w90 ⟨v422, v425, rfl, ho0, ho1, hb⟩; refine ⟨_, rfl, ?_⟩; have n0_ := Aside0.mk (Kd.R_mono (Kd.R_told (Kd.R_told (Kd.R_old (ra_ HO_371000.out) hb) (Kd.R_base ho0)) (Kd.R_base ho1)) (fun _ h_ => h_.1)); have n1_ := Aside0.mk (Kd.R_mono (Kd.R_told (Kd.R_told (Kd.R_old (ra_ HO_371001.out) hb) (Kd.R_base ho0)) (Kd.R_base ho1)) (fun _ h_ => h_.1)); have n2_ := Aside0.mk (Kd.R_lower (Kd.R_new' (Kd.R_new' ho0 (Kd.R_lt (ra_ HO_371000.out))) (Kd.R_lt (ra_ HO_371001.out))) (below_size hb_)); have n3_ := Aside0.mk (Kd.R_lower (Kd.R_new' (Kd.R_new' ho1 (Kd.R_lt (ra_ HO_371000.out))) (Kd.R_lt (ra_ HO_371001.out))) (below_size hb_)); have n4_ := bb_ BK360 hb; have n5_ := bb_ BK361 hb; have n6_ := bb_ BK370 hb; have n7_ := Aside0.mk (below_step hb_ hb); clear HO_371000; clear HO_371001; clear BK360; clear BK361; clear BK370; clear HB; have HO_371000 := n0_; have HO_371001 := n1_; have HO423 := n2_; have HO426 := n3_; have BK360 := n4_; have BK361 := n5_; have BK370 := n6_; have HB := n7_; clear n0_ n1_ n2_ n3_ n4_ n5_ n6_ n7_; (try clear hb); (try clear hb2); (try clear hk); (try clear hi); (try clear ho0); (try clear ho1); obtain ⟨Ao91, co91, eo91⟩ := Kd.R_slice HO423.out; subst eo91; have hnb92 := NB360_370.out; have hnc92 := NB370_360.out; have hcz93_0 : w90.cell? ⟨gb360, 0, none⟩ = some (.slice none 0 0) := (blk_cell BK360.out 0).trans rfl; have hcz93_1 : w90.cell? ⟨gb360, 1, none⟩ = some (.slice none 0 0) := (blk_cell BK360.out 1).trans rfl; have hcz93_2 : w90.cell? ⟨gb360, 2, none⟩ = some (.int .i64 x361002_1) := (blk_cell BK360.out 2).trans rfl; have hcz93_3 : w90.cell? ⟨gb360, 3, none⟩ = some (.int .i64 x361003_1) := (blk_cell BK360.out 3).trans rfl; have hfz93_0 := blk_frozen BK360.out 0; have hfz93_1 := blk_frozen BK360.out 1; have hfz93_2 := blk_frozen BK360.out 2; have hfz93_3 := blk_frozen BK360.out 3; obtain ⟨Ao94, co94, eo94⟩ := Kd.R_slice HO426.out; subst eo94))
                  refine bodyPost_ret (results_cell_row rfl _ _ gb360 48 #[.slice Ao91 t421.length co91, .slice Ao94 t424.length co94, .int .i64 t427, .int .i64 t428] (0, 0) _ rfl (by (with_reducible repeat (first | refine blk_drewN ?_ _ | refine blk_drew ?_ | refine blk_alloc ?_ _)); refine blk_put (cs := #[.slice Ao91 t421.length co91, .slice Ao94 t424.length co94, .int .i64 t427, .int .i64 x361003_1]) ?_ 3 _ rfl; (with_reducible repeat (first | refine blk_drewN ?_ _ | refine blk_drew ?_ | refine blk_alloc ?_ _)); refine blk_put (cs := #[.slice Ao91 t421.length co91, .slice Ao94 t424.length co94, .int .i64 x361002_1, .int .i64 x361003_1]) ?_ 2 _ rfl; (with_reducible repeat (first | refine blk_drewN ?_ _ | refine blk_drew ?_ | refine blk_alloc ?_ _)); refine blk_put (cs := #[.slice Ao91 t421.length co91, .slice none 0 0, .int .i64 x361002_1, .int .i64 x361003_1]) ?_ 1 _ rfl; (with_reducible repeat (first | refine blk_drewN ?_ _ | refine blk_drew ?_ | refine blk_alloc ?_ _)); refine blk_put (cs := #[.slice none 0 0, .slice none 0 0, .int .i64 x361002_1, .int .i64 x361003_1]) ?_ 0 _ rfl; (with_reducible repeat (first | refine blk_drewN ?_ _ | refine blk_drew ?_ | refine blk_alloc ?_ _)); exact BK360.out) Tryd.underlying48 rfl (by kernel_rfl)) rfl ?_
                  exact ⟨_, _, er_, by (with_reducible repeat (first | apply Kd.R_alloc | apply Kd.R_drewN | apply Kd.R_drew)); exact Kd.R_mono (Kd.R_far (p := ⟨gb360, 3, none⟩) (Kd.R_far (p := ⟨gb360, 2, none⟩) (Kd.R_far (p := ⟨gb360, 1, none⟩) (Kd.R_far (p := ⟨gb360, 0, none⟩) (Kd.R_types HO423.out BK360.out (by decide)) (fun _ hk => hk.2) (.slice Ao91 t421.length co91)) (fun _ hk => hk.2) (.slice Ao94 t424.length co94)) (fun _ hk => hk.2) (.int .i64 t427)) (fun _ hk => hk.2) (.int .i64 t428)) (fun _ hk => hk.1.1.1), by (with_reducible repeat (first | apply Kd.R_alloc | apply Kd.R_drewN | apply Kd.R_drew)); exact Kd.R_mono (Kd.R_far (p := ⟨gb360, 3, none⟩) (Kd.R_far (p := ⟨gb360, 2, none⟩) (Kd.R_far (p := ⟨gb360, 1, none⟩) (Kd.R_far (p := ⟨gb360, 0, none⟩) (Kd.R_types HO426.out BK360.out (by decide)) (fun _ hk => hk.2) (.slice Ao91 t421.length co91)) (fun _ hk => hk.2) (.slice Ao94 t424.length co94)) (fun _ hk => hk.2) (.int .i64 t427)) (fun _ hk => hk.2) (.int .i64 t428)) (fun _ hk => hk.1.1.1), hb_⟩
                 ·rw [if_neg c85] at H
                  have c85b0 : (x5_1 == 0) = false := beq_eq_false_iff_ne.mpr c85
                  have c85b1 : (x5_1 != 0) = true := bne_iff_ne.mpr c85
                  have HC95 := Aside0.mk H
                  clear H
                  go_upto_region 29 with (fail)
                  go_cut [90] (fun v90 wc => ∃ (kq : Nat) (x90_94 : Bool), v90 = .bool x90_94 ∧ Aside0 (spec_ReadWish.j4 kq a0 x5_1 x6_1 x7_1 x8_21 (a0.extract (x7_1 : Int).toNat (x8_21 : Int).toNat) x90_94 x371000_1 x371001_1 = some (r1, r2, r3, r4)) ∧ Aside0 (kq ≤ kj40) ∧ Aside0 (Kd.R Kd.string 9 wc w.heap.size (fun k_ => some k_ ≠ (u371001 : Value).ownBlock) u371000 x371000_1) ∧ Aside0 (Kd.R Kd.string 9 wc w.heap.size (fun k_ => some k_ ≠ (u371000 : Value).ownBlock) u371001 x371001_1) ∧ Aside0 (wc.heap[gb360]? = some (.cells #[(.slice none 0 0), (.slice none 0 0), .int .i64 x361002_1, .int .i64 x361003_1] 48 (0, 0))) ∧ Aside0 (wc.heap[gb361]? = some (.cells #[] 83 (0, 0))) ∧ Aside0 (wc.heap[gb370]? = some (.cells #[u371000, u371001] 36 (0, 0))) ∧ Aside0 (Below w.heap.size w wc))
                  case first =>
                   have H := HC95.out
                   clear HC95
                   by_cases c96 : t380 > 12
                   ·rw [if_pos c96] at H
                    have c96b0 : decide (12 < t380) = true := decide_eq_true c96
                    clear c96
                    (first | rw [c96b0] | (simp only [i64_w, i32_w]; rw [c96b0]) | skip)
                    have H' := Aside0.mk H
                    clear H
                    go_wp2
                    go_meet
                    case rel => exact ⟨_, (true), es_, H', ⟨by have := HK1.out; have := HJ21.out; have := HJ40.out; first | omega | exact Nat.le_refl _⟩, ⟨ra_ HO_371000.out⟩, ⟨ra_ HO_371001.out⟩, ⟨bk_ BK360.out⟩, ⟨bk_ BK361.out⟩, ⟨bk_ BK370.out⟩, ⟨hb_⟩⟩
                   ·rw [if_neg c96] at H
                    have c96b0 : decide (12 < t380) = false := decide_eq_false c96
                    clear c96
                    (first | rw [c96b0] | (simp only [i64_w, i32_w]; rw [c96b0]) | skip)
                    have H' := Aside0.mk H
                    clear H
                    go_wp2
                    go_meet
                    case rel => exact ⟨_, ((x6_1 == 6)), es_, H', ⟨by have := HK1.out; have := HJ21.out; have := HJ40.out; first | omega | exact Nat.le_refl _⟩, ⟨ra_ HO_371000.out⟩, ⟨ra_ HO_371001.out⟩, ⟨bk_ BK360.out⟩, ⟨bk_ BK361.out⟩, ⟨bk_ BK370.out⟩, ⟨hb_⟩⟩
                  case rest =>
                   clear HC95
                   try clear c1
                   try clear c2
                   try clear c2b0
                   try clear c2b1
                   try clear p2
                   try clear q2
                   try clear hx2
                   try clear c3
                   try clear c4
                   try clear c5
                   try clear c6
                   try clear p6
                   try clear c7
                   try clear c8
                   try clear c9
                   try clear c15
                   try clear c16
                   try clear c18
                   try clear c18b0
                   try clear c19
                   try clear c19b0
                   try clear p20
                   try clear q20
                   try clear hx20
                   try clear c21
                   try clear c21b0
                   try clear c21b1
                   try clear c23
                   try clear c23b0
                   try clear c24
                   try clear c24b0
                   try clear p25
                   try clear q25
                   try clear hx25
                   try clear c26
                   try clear c26b0
                   try clear c26b1
                   try clear c27
                   try clear c27b0
                   try clear c27b1
                   try clear c28
                   try clear c28b0
                   try clear c28b1
                   try clear c29
                   try clear c29b0
                   try clear c29b1
                   try clear c31
                   try clear c31b0
                   try clear c33
                   try clear c34
                   try clear c38
                   try clear c42
                   try clear c42b0
                   try clear c42b1
                   try clear c43
                   try clear c44
                   try clear c44b0
                   try clear c44b1
                   try clear c45
                   try clear c45b0
                   try clear c47
                   try clear c48
                   try clear c52
                   try clear c55
                   try clear c55b0
                   try clear c55b1
                   try clear c57
                   try clear c58
                   try clear c62
                   try clear p64
                   try clear c65
                   try clear c65b0
                   try clear c66
                   try clear c67
                   try clear c68
                   try clear c72
                   try clear c75
                   try clear c75b0
                   try clear c75b1
                   try clear c77
                   try clear c78
                   try clear c82
                   try clear c85
                   try clear c85b0
                   try clear c85b1
                   try clear c87
                   try clear c88
                   try clear c92
                   try clear c96
                   try clear c96b0
                   try clear hcz10_0
                   try clear hcz10_1
                   try clear hcz10_2
                   try clear hcz10_3
                   try clear hcz17_0
                   try clear hcz17_1
                   try clear hcz39_0
                   try clear hcz39_1
                   try clear hcz39_2
                   try clear hcz39_3
                   try clear hcz53_0
                   try clear hcz53_1
                   try clear hcz53_2
                   try clear hcz53_3
                   try clear hcz63_0
                   try clear hcz63_1
                   try clear hcz63_2
                   try clear hcz63_3
                   try clear hcz73_0
                   try clear hcz73_1
                   try clear hcz73_2
                   try clear hcz73_3
                   try clear hcz83_0
                   try clear hcz83_1
                   try clear hcz83_2
                   try clear hcz83_3
                   try clear hcz93_0
                   try clear hcz93_1
                   try clear hcz93_2
                   try clear hcz93_3
                   try clear hfz10_0
                   try clear hfz10_1
                   try clear hfz10_2
                   try clear hfz10_3
                   try clear hfz17_0
                   try clear hfz17_1
                   try clear hfz39_0
                   try clear hfz39_1
                   try clear hfz39_2
                   try clear hfz39_3
                   try clear hfz53_0
                   try clear hfz53_1
                   try clear hfz53_2
                   try clear hfz53_3
                   try clear hfz63_0
                   try clear hfz63_1
                   try clear hfz63_2
                   try clear hfz63_3
                   try clear hfz73_0
                   try clear hfz73_1
                   try clear hfz73_2
                   try clear hfz73_3
                   try clear hfz83_0
                   try clear hfz83_1
                   try clear hfz83_2
                   try clear hfz83_3
                   try clear hfz93_0
                   try clear hfz93_1
                   try clear hfz93_2
                   try clear hfz93_3
                   try clear p2
                   try clear p20
                   try clear p25
                   try clear p6
                   try clear q2
                   try clear q20
                   try clear q25
                   obtain ⟨kq, x90_94, rfl, HA, HJ94, HO_371000, HO_371001, BK360, BK361, BK370, HB⟩ := hcut
                   cases kq with
                   | zero => exact absurd HA.out (by simp [spec_ReadWish.j4])
                   | succ kj94 =>
                    have H := HA.out
                    clear HA
                    simp only [spec_ReadWish.j4] at H
                    by_cases c97 : x90_94 = true
                    ·subst c97
                     rw [if_pos rfl] at H
                     replace H := Option.bind_eq_some_iff.mp H
                     obtain ⟨⟨t429, t432, t435, t436⟩, A980, H⟩ := H
                     replace H : (some (t429, t432, t435, t436)) = some (r1, r2, r3, r4) := H
                     have A98 := Aside0.mk A980
                     clear A980
                     simp only [Option.some.injEq, Prod.mk.injEq] at H
                     obtain ⟨rfl, rfl, rfl, rfl⟩ := H
                     have hnb99 := NB361_360.out
                     have hnc99 := NB360_361.out
                     have hnb100 := NB361_370.out
                     have hnc100 := NB370_361.out
                     go_wp2_with (first | ((with_reducible refine gate_callee (f := 66) rfl ?_); refine goesL_ (some 93) rfl rfl Tryd.func66 (by kernel_rfl) rfl #[.agg #[], .int .i64 2, .int .i64 x7_1] rfl ls_ ?_; (with_reducible refine (spec_l22Bad_at.calls  2 x7_1 t429 t432 t435 t436 _ A98.out).mono ?_); rintro e w102 ⟨v430, v433, rfl, ho0, ho1, hb⟩; refine ⟨_, rfl, ?_⟩; have n0_ := Aside0.mk (Kd.R_mono (Kd.R_told (Kd.R_told (Kd.R_old (ra_ HO_371000.out) hb) (Kd.R_base ho0)) (Kd.R_base ho1)) (fun _ h_ => h_.1)); have n1_ := Aside0.mk (Kd.R_mono (Kd.R_told (Kd.R_told (Kd.R_old (ra_ HO_371001.out) hb) (Kd.R_base ho0)) (Kd.R_base ho1)) (fun _ h_ => h_.1)); have n2_ := Aside0.mk (Kd.R_lower (Kd.R_new' (Kd.R_new' ho0 (Kd.R_lt (ra_ HO_371000.out))) (Kd.R_lt (ra_ HO_371001.out))) (below_size hb_)); have n3_ := Aside0.mk (Kd.R_lower (Kd.R_new' (Kd.R_new' ho1 (Kd.R_lt (ra_ HO_371000.out))) (Kd.R_lt (ra_ HO_371001.out))) (below_size hb_)); have n4_ := bb_ BK360 hb; have n5_ := bb_ BK361 hb; have n6_ := bb_ BK370 hb; have n7_ := Aside0.mk (below_step hb_ hb); clear HO_371000; clear HO_371001; clear BK360; clear BK361; clear BK370; clear HB; have HO_371000 := n0_; have HO_371001 := n1_; have HO431 := n2_; have HO434 := n3_; have BK360 := n4_; have BK361 := n5_; have BK370 := n6_; have HB := n7_; clear n0_ n1_ n2_ n3_ n4_ n5_ n6_ n7_; (try clear hb); (try clear hb2); (try clear hk); (try clear hi); (try clear ho0); (try clear ho1); obtain ⟨Ao103, co103, eo103⟩ := Kd.R_slice HO431.out; subst eo103; have hnb104 := NB360_370.out; have hnc104 := NB370_360.out; have hcz105_0 : w102.cell? ⟨gb360, 0, none⟩ = some (.slice none 0 0) := (blk_cell BK360.out 0).trans rfl; have hcz105_1 : w102.cell? ⟨gb360, 1, none⟩ = some (.slice none 0 0) := (blk_cell BK360.out 1).trans rfl; have hcz105_2 : w102.cell? ⟨gb360, 2, none⟩ = some (.int .i64 x361002_1) := (blk_cell BK360.out 2).trans rfl; have hcz105_3 : w102.cell? ⟨gb360, 3, none⟩ = some (.int .i64 x361003_1) := (blk_cell BK360.out 3).trans rfl; have hfz105_0 := blk_frozen BK360.out 0; have hfz105_1 := blk_frozen BK360.out 1; have hfz105_2 := blk_frozen BK360.out 2; have hfz105_3 := blk_frozen BK360.out 3; obtain ⟨Ao106, co106, eo106⟩ := Kd.R_slice HO434.out; subst eo106))
                     refine bodyPost_ret (results_cell_row rfl _ _ gb360 48 #[.slice Ao103 t429.length co103, .slice Ao106 t432.length co106, .int .i64 t435, .int .i64 t436] (0, 0) _ rfl (by (with_reducible repeat (first | refine blk_drewN ?_ _ | refine blk_drew ?_ | refine blk_alloc ?_ _)); refine blk_put (cs := #[.slice Ao103 t429.length co103, .slice Ao106 t432.length co106, .int .i64 t435, .int .i64 x361003_1]) ?_ 3 _ rfl; (with_reducible repeat (first | refine blk_drewN ?_ _ | refine blk_drew ?_ | refine blk_alloc ?_ _)); refine blk_put (cs := #[.slice Ao103 t429.length co103, .slice Ao106 t432.length co106, .int .i64 x361002_1, .int .i64 x361003_1]) ?_ 2 _ rfl; (with_reducible repeat (first | refine blk_drewN ?_ _ | refine blk_drew ?_ | refine blk_alloc ?_ _)); refine blk_put (cs := #[.slice Ao103 t429.length co103, .slice none 0 0, .int .i64 x361002_1, .int .i64 x361003_1]) ?_ 1 _ rfl; (with_reducible repeat (first | refine blk_drewN ?_ _ | refine blk_drew ?_ | refine blk_alloc ?_ _)); refine blk_put (cs := #[.slice none 0 0, .slice none 0 0, .int .i64 x361002_1, .int .i64 x361003_1]) ?_ 0 _ rfl; (with_reducible repeat (first | refine blk_drewN ?_ _ | refine blk_drew ?_ | refine blk_alloc ?_ _)); exact BK360.out) Tryd.underlying48 rfl (by kernel_rfl)) rfl ?_
                     exact ⟨_, _, er_, by (with_reducible repeat (first | apply Kd.R_alloc | apply Kd.R_drewN | apply Kd.R_drew)); exact Kd.R_mono (Kd.R_far (p := ⟨gb360, 3, none⟩) (Kd.R_far (p := ⟨gb360, 2, none⟩) (Kd.R_far (p := ⟨gb360, 1, none⟩) (Kd.R_far (p := ⟨gb360, 0, none⟩) (Kd.R_types HO431.out BK360.out (by decide)) (fun _ hk => hk.2) (.slice Ao103 t429.length co103)) (fun _ hk => hk.2) (.slice Ao106 t432.length co106)) (fun _ hk => hk.2) (.int .i64 t435)) (fun _ hk => hk.2) (.int .i64 t436)) (fun _ hk => hk.1.1.1), by (with_reducible repeat (first | apply Kd.R_alloc | apply Kd.R_drewN | apply Kd.R_drew)); exact Kd.R_mono (Kd.R_far (p := ⟨gb360, 3, none⟩) (Kd.R_far (p := ⟨gb360, 2, none⟩) (Kd.R_far (p := ⟨gb360, 1, none⟩) (Kd.R_far (p := ⟨gb360, 0, none⟩) (Kd.R_types HO434.out BK360.out (by decide)) (fun _ hk => hk.2) (.slice Ao103 t429.length co103)) (fun _ hk => hk.2) (.slice Ao106 t432.length co106)) (fun _ hk => hk.2) (.int .i64 t435)) (fun _ hk => hk.2) (.int .i64 t436)) (fun _ hk => hk.1.1.1), hb_⟩
                    ·replace c97 := Bool.eq_false_iff.mpr c97
                     subst c97
                     rw [if_neg (show ¬ (false = true) by decide)] at H
                     have HC107 := Aside0.mk H
                     clear H
                     have hnb108 := NB370_360.out
                     have hnc108 := NB360_370.out
                     have hnb109 := NB370_361.out
                     have hnc109 := NB361_370.out
                     have hcz110_0 : wc.cell? ⟨gb370, 0, none⟩ = some (u371000) := (blk_cell BK370.out 0).trans rfl
                     have hcz110_1 : wc.cell? ⟨gb370, 1, none⟩ = some (u371001) := (blk_cell BK370.out 1).trans rfl
                     have hfz110_0 := blk_frozen BK370.out 0
                     have hfz110_1 := blk_frozen BK370.out 1
                     go_upto_if 97 with (fail)
                     go_cut [13] (fun v13 wc => ∃ (kq : Nat) (x13_106 : List ByteArray), Aside0 (spec_ReadWish.j5 kq a0 x5_1 x6_1 x7_1 x8_21 (a0.extract (x7_1 : Int).toNat (x8_21 : Int).toNat) x13_106 x371000_1 x371001_1 = some (r1, r2, r3, r4)) ∧ Aside0 (kq ≤ kj94) ∧ Aside0 (Kd.R Kd.string 9 wc w.heap.size (fun _ => True) v13 x13_106) ∧ Aside0 (Kd.R Kd.string 9 wc w.heap.size (fun k_ => some k_ ≠ (u371001 : Value).ownBlock) u371000 x371000_1) ∧ Aside0 (Kd.R Kd.string 9 wc w.heap.size (fun k_ => some k_ ≠ (u371000 : Value).ownBlock) u371001 x371001_1) ∧ Aside0 (wc.heap[gb360]? = some (.cells #[(.slice none 0 0), (.slice none 0 0), .int .i64 x361002_1, .int .i64 x361003_1] 48 (0, 0))) ∧ Aside0 (wc.heap[gb361]? = some (.cells #[] 83 (0, 0))) ∧ Aside0 (wc.heap[gb370]? = some (.cells #[u371000, u371001] 36 (0, 0))) ∧ Aside0 (Below w.heap.size w wc))
                     case first =>
                      have H := HC107.out
                      clear HC107
                      by_cases c111 : x5_1 = 2
                      ·rw [if_pos c111] at H
                       have c111b0 : (x5_1 == 2) = true := beq_iff_eq.mpr c111
                       have c111b1 : (x5_1 != 2) = false := bne_eq_false_iff_eq.mpr c111
                       clear c111
                       (first | rw [c111b0] | (simp only [i64_w, i32_w]; rw [c111b0]) | skip)
                       have H' := Aside0.mk H
                       clear H
                       have hnb112 := NB370_360.out
                       have hnc112 := NB360_370.out
                       have hnb113 := NB370_361.out
                       have hnc113 := NB361_370.out
                       have hcz114_0 : wc.cell? ⟨gb370, 0, none⟩ = some (u371000) := (blk_cell BK370.out 0).trans rfl
                       have hcz114_1 : wc.cell? ⟨gb370, 1, none⟩ = some (u371001) := (blk_cell BK370.out 1).trans rfl
                       have hfz114_0 := blk_frozen BK370.out 0
                       have hfz114_1 := blk_frozen BK370.out 1
                       go_wp2
                       go_meet
                       case rel => exact ⟨_, (x371001_1), H', ⟨by have := HK1.out; have := HJ21.out; have := HJ40.out; have := HJ94.out; first | omega | exact Nat.le_refl _⟩, ⟨by (with_reducible repeat (first | apply Kd.R_alloc | apply Kd.R_drewN | apply Kd.R_drew)); exact Kd.R_mono HO_371001.out (fun _ _ => trivial)⟩, ⟨ra_ HO_371000.out⟩, ⟨ra_ HO_371001.out⟩, ⟨bk_ BK360.out⟩, ⟨bk_ BK361.out⟩, ⟨bk_ BK370.out⟩, ⟨hb_⟩⟩
                      ·rw [if_neg c111] at H
                       have c111b0 : (x5_1 == 2) = false := beq_eq_false_iff_ne.mpr c111
                       have c111b1 : (x5_1 != 2) = true := bne_iff_ne.mpr c111
                       (first | rw [c111b0] | (simp only [i64_w, i32_w]; rw [c111b0]) | skip)
                       have H' := Aside0.mk H
                       clear H
                       go_wp2
                       go_meet
                       case rel => exact ⟨_, (x371000_1), H', ⟨by have := HK1.out; have := HJ21.out; have := HJ40.out; have := HJ94.out; first | omega | exact Nat.le_refl _⟩, ⟨by (with_reducible repeat (first | apply Kd.R_alloc | apply Kd.R_drewN | apply Kd.R_drew)); exact Kd.R_mono HO_371000.out (fun _ _ => trivial)⟩, ⟨ra_ HO_371000.out⟩, ⟨ra_ HO_371001.out⟩, ⟨bk_ BK360.out⟩, ⟨bk_ BK361.out⟩, ⟨bk_ BK370.out⟩, ⟨hb_⟩⟩
                     case rest =>
                      clear HC107
                      try clear c1
                      try clear c2
                      try clear c2b0
                      try clear c2b1
                      try clear p2
                      try clear q2
                      try clear hx2
                      try clear c3
                      try clear c4
                      try clear c5
                      try clear c6
                      try clear p6
                      try clear c7
                      try clear c8
                      try clear c9
                      try clear c10
                      try clear c11
                      try clear c15
                      try clear c16
                      try clear c18
                      try clear c18b0
                      try clear c19
                      try clear c19b0
                      try clear p20
                      try clear q20
                      try clear hx20
                      try clear c21
                      try clear c21b0
                      try clear c21b1
                      try clear c23
                      try clear c23b0
                      try clear c24
                      try clear c24b0
                      try clear p25
                      try clear q25
                      try clear hx25
                      try clear c26
                      try clear c26b0
                      try clear c26b1
                      try clear c27
                      try clear c27b0
                      try clear c27b1
                      try clear c28
                      try clear c28b0
                      try clear c28b1
                      try clear c29
                      try clear c29b0
                      try clear c29b1
                      try clear c31
                      try clear c31b0
                      try clear c33
                      try clear c34
                      try clear c38
                      try clear c42
                      try clear c42b0
                      try clear c42b1
                      try clear c43
                      try clear c44
                      try clear c44b0
                      try clear c44b1
                      try clear c45
                      try clear c45b0
                      try clear c47
                      try clear c48
                      try clear c52
                      try clear c55
                      try clear c55b0
                      try clear c55b1
                      try clear c57
                      try clear c58
                      try clear c62
                      try clear p64
                      try clear c65
                      try clear c65b0
                      try clear c66
                      try clear c67
                      try clear c68
                      try clear c72
                      try clear c75
                      try clear c75b0
                      try clear c75b1
                      try clear c77
                      try clear c78
                      try clear c82
                      try clear c85
                      try clear c85b0
                      try clear c85b1
                      try clear c87
                      try clear c88
                      try clear c92
                      try clear c96
                      try clear c96b0
                      try clear c97
                      try clear c99
                      try clear c100
                      try clear c104
                      try clear c108
                      try clear c109
                      try clear c111
                      try clear c111b0
                      try clear c111b1
                      try clear c112
                      try clear c113
                      try clear hcz105_0
                      try clear hcz105_1
                      try clear hcz105_2
                      try clear hcz105_3
                      try clear hcz10_0
                      try clear hcz10_1
                      try clear hcz10_2
                      try clear hcz10_3
                      try clear hcz110_0
                      try clear hcz110_1
                      try clear hcz114_0
                      try clear hcz114_1
                      try clear hcz17_0
                      try clear hcz17_1
                      try clear hcz39_0
                      try clear hcz39_1
                      try clear hcz39_2
                      try clear hcz39_3
                      try clear hcz53_0
                      try clear hcz53_1
                      try clear hcz53_2
                      try clear hcz53_3
                      try clear hcz63_0
                      try clear hcz63_1
                      try clear hcz63_2
                      try clear hcz63_3
                      try clear hcz73_0
                      try clear hcz73_1
                      try clear hcz73_2
                      try clear hcz73_3
                      try clear hcz83_0
                      try clear hcz83_1
                      try clear hcz83_2
                      try clear hcz83_3
                      try clear hcz93_0
                      try clear hcz93_1
                      try clear hcz93_2
                      try clear hcz93_3
                      try clear hfz105_0
                      try clear hfz105_1
                      try clear hfz105_2
                      try clear hfz105_3
                      try clear hfz10_0
                      try clear hfz10_1
                      try clear hfz10_2
                      try clear hfz10_3
                      try clear hfz110_0
                      try clear hfz110_1
                      try clear hfz114_0
                      try clear hfz114_1
                      try clear hfz17_0
                      try clear hfz17_1
                      try clear hfz39_0
                      try clear hfz39_1
                      try clear hfz39_2
                      try clear hfz39_3
                      try clear hfz53_0
                      try clear hfz53_1
                      try clear hfz53_2
                      try clear hfz53_3
                      try clear hfz63_0
                      try clear hfz63_1
                      try clear hfz63_2
                      try clear hfz63_3
                      try clear hfz73_0
                      try clear hfz73_1
                      try clear hfz73_2
                      try clear hfz73_3
                      try clear hfz83_0
                      try clear hfz83_1
                      try clear hfz83_2
                      try clear hfz83_3
                      try clear hfz93_0
                      try clear hfz93_1
                      try clear hfz93_2
                      try clear hfz93_3
                      try clear p2
                      try clear p20
                      try clear p25
                      try clear p6
                      try clear p64
                      try clear q2
                      try clear q20
                      try clear q25
                      obtain ⟨kq, x13_106, HA, HJ106, HO_13, HO_371000, HO_371001, BK360, BK361, BK370, HB⟩ := hcut
                      cases kq with
                      | zero => exact absurd HA.out (by simp [spec_ReadWish.j5])
                      | succ kj106 =>
                       have H := HA.out
                       clear HA
                       simp only [spec_ReadWish.j5] at H
                       replace H := Option.bind_eq_some_iff.mp H
                       obtain ⟨t437, A1150, H⟩ := H
                       replace H : (if t437 = true then ((spec_l22Bad_at.f 4 x7_1).bind fun bt438 => (some (bt438.1, bt438.2.1, bt438.2.2.1, bt438.2.2.2))) else (if x5_1 = 2 then (if x371001_1.length < 8796093022208 then (spec_ReadWish.l0 kj106 a0 x5_1 (wrap64 (x6_1 + 1)) x8_21 x371000_1 (x371001_1 ++ [(a0.extract (x7_1 : Int).toNat (x8_21 : Int).toNat)])) else (none)) else (if x371000_1.length < 8796093022208 then (spec_ReadWish.l0 kj106 a0 x5_1 (wrap64 (x6_1 + 1)) x8_21 (x371000_1 ++ [(a0.extract (x7_1 : Int).toNat (x8_21 : Int).toNat)]) x371001_1) else (none)))) = some (r1, r2, r3, r4) := H
                       have A115 := Aside0.mk A1150
                       clear A1150
                       by_cases c116 : t437 = true
                       ·subst c116
                        rw [if_pos rfl] at H
                        replace H := Option.bind_eq_some_iff.mp H
                        obtain ⟨⟨t438, t441, t444, t445⟩, A1170, H⟩ := H
                        replace H : (some (t438, t441, t444, t445)) = some (r1, r2, r3, r4) := H
                        have A117 := Aside0.mk A1170
                        clear A1170
                        simp only [Option.some.injEq, Prod.mk.injEq] at H
                        obtain ⟨rfl, rfl, rfl, rfl⟩ := H
                        obtain ⟨Ao118, co118, eo118⟩ := Kd.R_slice HO_13.out
                        subst eo118
                        go_wp2_with (first | ((with_reducible refine gate_callee (f := 68) rfl ?_); refine goesL_ (some 102) rfl rfl Tryd.func68 (by kernel_rfl) rfl #[.slice Ao118 x13_106.length co118, .string (a0.extract (x7_1 : Int).toNat (x8_21 : Int).toNat)] rfl ls_ ?_; (with_reducible refine (spec_l22In.calls kj106 _ _ x13_106 (a0.extract (x7_1 : Int).toNat (x8_21 : Int).toNat) true _ ?side1 ?side2 A115.out).mono ?_); (case side1 => exact ca_ (Kd.R_reads' HO_13.out).2.2); (case side2 => exact (Kd.R_reads' HO_13.out).2.1); rintro e w' ⟨rfl, ⟨nd, rfl⟩⟩; refine ⟨_, rfl, ?_⟩; (try (rw [drewN_self wc]; generalize hq_ : World.drewN wc _ = wc; have n0_ := Aside0.mk (Kd.R_at hq_ HO_13.out); have n1_ := Aside0.mk (Kd.R_at hq_ HO_371000.out); have n2_ := Aside0.mk (Kd.R_at hq_ HO_371001.out); have n3_ := Aside0.mk (blk_at hq_ BK360.out); have n4_ := Aside0.mk (blk_at hq_ BK361.out); have n5_ := Aside0.mk (blk_at hq_ BK370.out); have n6_ := Aside0.mk (below_at hq_ HB.out); clear hq_ HO_13 HO_371000 HO_371001 BK360 BK361 BK370 HB; have HO_13 := n0_; have HO_371000 := n1_; have HO_371001 := n2_; have BK360 := n3_; have BK361 := n4_; have BK370 := n5_; have HB := n6_; clear n0_ n1_ n2_ n3_ n4_ n5_ n6_)); have hnb119 := NB361_360.out; have hnc119 := NB360_361.out; have hnb120 := NB361_370.out; have hnc120 := NB370_361.out) | ((with_reducible refine gate_callee (f := 66) rfl ?_); refine goesL_ (some 105) rfl rfl Tryd.func66 (by kernel_rfl) rfl #[.agg #[], .int .i64 4, .int .i64 x7_1] rfl ls_ ?_; (with_reducible refine (spec_l22Bad_at.calls  4 x7_1 t438 t441 t444 t445 _ A117.out).mono ?_); rintro e w122 ⟨v439, v442, rfl, ho0, ho1, hb⟩; refine ⟨_, rfl, ?_⟩; have n0_ := Aside0.mk (Kd.R_mono (Kd.R_told (Kd.R_told (Kd.R_old (ra_ HO_13.out) hb) (Kd.R_base ho0)) (Kd.R_base ho1)) (fun _ h_ => h_.1)); have n1_ := Aside0.mk (Kd.R_mono (Kd.R_told (Kd.R_told (Kd.R_old (ra_ HO_371000.out) hb) (Kd.R_base ho0)) (Kd.R_base ho1)) (fun _ h_ => h_.1)); have n2_ := Aside0.mk (Kd.R_mono (Kd.R_told (Kd.R_told (Kd.R_old (ra_ HO_371001.out) hb) (Kd.R_base ho0)) (Kd.R_base ho1)) (fun _ h_ => h_.1)); have n3_ := Aside0.mk (Kd.R_lower (Kd.R_new' (Kd.R_new' (Kd.R_new' ho0 (Kd.R_lt (ra_ HO_13.out))) (Kd.R_lt (ra_ HO_371000.out))) (Kd.R_lt (ra_ HO_371001.out))) (below_size hb_)); have n4_ := Aside0.mk (Kd.R_lower (Kd.R_new' (Kd.R_new' (Kd.R_new' ho1 (Kd.R_lt (ra_ HO_13.out))) (Kd.R_lt (ra_ HO_371000.out))) (Kd.R_lt (ra_ HO_371001.out))) (below_size hb_)); have n5_ := bb_ BK360 hb; have n6_ := bb_ BK361 hb; have n7_ := bb_ BK370 hb; have n8_ := Aside0.mk (below_step hb_ hb); clear HO_13; clear HO_371000; clear HO_371001; clear BK360; clear BK361; clear BK370; clear HB; have HO_13 := n0_; have HO_371000 := n1_; have HO_371001 := n2_; have HO440 := n3_; have HO443 := n4_; have BK360 := n5_; have BK361 := n6_; have BK370 := n7_; have HB := n8_; clear n0_ n1_ n2_ n3_ n4_ n5_ n6_ n7_ n8_; (try clear hb); (try clear hb2); (try clear hk); (try clear hi); (try clear ho0); (try clear ho1); obtain ⟨Ao123, co123, eo123⟩ := Kd.R_slice HO440.out; subst eo123; have hnb124 := NB360_370.out; have hnc124 := NB370_360.out; have hcz125_0 : w122.cell? ⟨gb360, 0, none⟩ = some (.slice none 0 0) := (blk_cell BK360.out 0).trans rfl; have hcz125_1 : w122.cell? ⟨gb360, 1, none⟩ = some (.slice none 0 0) := (blk_cell BK360.out 1).trans rfl; have hcz125_2 : w122.cell? ⟨gb360, 2, none⟩ = some (.int .i64 x361002_1) := (blk_cell BK360.out 2).trans rfl; have hcz125_3 : w122.cell? ⟨gb360, 3, none⟩ = some (.int .i64 x361003_1) := (blk_cell BK360.out 3).trans rfl; have hfz125_0 := blk_frozen BK360.out 0; have hfz125_1 := blk_frozen BK360.out 1; have hfz125_2 := blk_frozen BK360.out 2; have hfz125_3 := blk_frozen BK360.out 3; obtain ⟨Ao126, co126, eo126⟩ := Kd.R_slice HO443.out; subst eo126))
                        refine bodyPost_ret (results_cell_row rfl _ _ gb360 48 #[.slice Ao123 t438.length co123, .slice Ao126 t441.length co126, .int .i64 t444, .int .i64 t445] (0, 0) _ rfl (by (with_reducible repeat (first | refine blk_drewN ?_ _ | refine blk_drew ?_ | refine blk_alloc ?_ _)); refine blk_put (cs := #[.slice Ao123 t438.length co123, .slice Ao126 t441.length co126, .int .i64 t444, .int .i64 x361003_1]) ?_ 3 _ rfl; (with_reducible repeat (first | refine blk_drewN ?_ _ | refine blk_drew ?_ | refine blk_alloc ?_ _)); refine blk_put (cs := #[.slice Ao123 t438.length co123, .slice Ao126 t441.length co126, .int .i64 x361002_1, .int .i64 x361003_1]) ?_ 2 _ rfl; (with_reducible repeat (first | refine blk_drewN ?_ _ | refine blk_drew ?_ | refine blk_alloc ?_ _)); refine blk_put (cs := #[.slice Ao123 t438.length co123, .slice none 0 0, .int .i64 x361002_1, .int .i64 x361003_1]) ?_ 1 _ rfl; (with_reducible repeat (first | refine blk_drewN ?_ _ | refine blk_drew ?_ | refine blk_alloc ?_ _)); refine blk_put (cs := #[.slice none 0 0, .slice none 0 0, .int .i64 x361002_1, .int .i64 x361003_1]) ?_ 0 _ rfl; (with_reducible repeat (first | refine blk_drewN ?_ _ | refine blk_drew ?_ | refine blk_alloc ?_ _)); exact BK360.out) Tryd.underlying48 rfl (by kernel_rfl)) rfl ?_
                        exact ⟨_, _, er_, by (with_reducible repeat (first | apply Kd.R_alloc | apply Kd.R_drewN | apply Kd.R_drew)); exact Kd.R_mono (Kd.R_far (p := ⟨gb360, 3, none⟩) (Kd.R_far (p := ⟨gb360, 2, none⟩) (Kd.R_far (p := ⟨gb360, 1, none⟩) (Kd.R_far (p := ⟨gb360, 0, none⟩) (Kd.R_types HO440.out BK360.out (by decide)) (fun _ hk => hk.2) (.slice Ao123 t438.length co123)) (fun _ hk => hk.2) (.slice Ao126 t441.length co126)) (fun _ hk => hk.2) (.int .i64 t444)) (fun _ hk => hk.2) (.int .i64 t445)) (fun _ hk => hk.1.1.1.1), by (with_reducible repeat (first | apply Kd.R_alloc | apply Kd.R_drewN | apply Kd.R_drew)); exact Kd.R_mono (Kd.R_far (p := ⟨gb360, 3, none⟩) (Kd.R_far (p := ⟨gb360, 2, none⟩) (Kd.R_far (p := ⟨gb360, 1, none⟩) (Kd.R_far (p := ⟨gb360, 0, none⟩) (Kd.R_types HO443.out BK360.out (by decide)) (fun _ hk => hk.2) (.slice Ao123 t438.length co123)) (fun _ hk => hk.2) (.slice Ao126 t441.length co126)) (fun _ hk => hk.2) (.int .i64 t444)) (fun _ hk => hk.2) (.int .i64 t445)) (fun _ hk => hk.1.1.1.1), hb_⟩
                       ·replace c116 := Bool.eq_false_iff.mpr c116
                        subst c116
                        rw [if_neg (show ¬ (false = true) by decide)] at H
                        by_cases c127 : x5_1 = 2
                        ·rw [if_pos c127] at H
                         have c127b0 : (x5_1 == 2) = true := beq_iff_eq.mpr c127
                         have c127b1 : (x5_1 != 2) = false := bne_eq_false_iff_eq.mpr c127
                         clear c127
                         by_cases c128 : x371001_1.length < 8796093022208
                         ·rw [if_pos c128] at H
                          have LMc128 := Aside0.mk c128
                          clear c128
                          obtain ⟨y446, hy446⟩ : ∃ y_ : List ByteArray, y_ = (x371001_1 ++ [(a0.extract (x7_1 : Int).toNat (x8_21 : Int).toNat)]) := ⟨_, rfl⟩
                          replace H : (spec_ReadWish.l0 kj106 a0 x5_1 (wrap64 (x6_1 + 1)) x8_21 x371000_1 y446) = some (r1, r2, r3, r4) := by first | (rw [hy446]; with_reducible exact H) | (have H2_ := (Option.bind_some _ _).symm.trans H; rw [hy446]; with_reducible exact H2_) | (have H2_ := (Option.bind_some _ _).symm.trans H; with_reducible exact H2_) | with_reducible exact H | (rw [hy446]; exact H) | exact H
                          have Ny446 := Aside0.mk hy446
                          clear hy446
                          have H' := Aside0.mk H
                          clear H
                          obtain ⟨Ao129, co129, eo129⟩ := Kd.R_slice HO_13.out
                          subst eo129
                          go_wp2_with (first | ((with_reducible refine gate_callee (f := 68) rfl ?_); refine goesL_ (some 102) rfl rfl Tryd.func68 (by kernel_rfl) rfl #[.slice Ao129 x13_106.length co129, .string (a0.extract (x7_1 : Int).toNat (x8_21 : Int).toNat)] rfl ls_ ?_; (with_reducible refine (spec_l22In.calls kj106 _ _ x13_106 (a0.extract (x7_1 : Int).toNat (x8_21 : Int).toNat) false _ ?side1 ?side2 A115.out).mono ?_); (case side1 => exact ca_ (Kd.R_reads' HO_13.out).2.2); (case side2 => exact (Kd.R_reads' HO_13.out).2.1); rintro e w' ⟨rfl, ⟨nd, rfl⟩⟩; refine ⟨_, rfl, ?_⟩; (try (rw [drewN_self wc]; generalize hq_ : World.drewN wc _ = wc; have n0_ := Aside0.mk (Kd.R_at hq_ HO_13.out); have n1_ := Aside0.mk (Kd.R_at hq_ HO_371000.out); have n2_ := Aside0.mk (Kd.R_at hq_ HO_371001.out); have n3_ := Aside0.mk (blk_at hq_ BK360.out); have n4_ := Aside0.mk (blk_at hq_ BK361.out); have n5_ := Aside0.mk (blk_at hq_ BK370.out); have n6_ := Aside0.mk (below_at hq_ HB.out); clear hq_ HO_13 HO_371000 HO_371001 BK360 BK361 BK370 HB; have HO_13 := n0_; have HO_371000 := n1_; have HO_371001 := n2_; have BK360 := n3_; have BK361 := n4_; have BK370 := n5_; have HB := n6_; clear n0_ n1_ n2_ n3_ n4_ n5_ n6_)); have hnb130 := NB370_360.out; have hnc130 := NB360_370.out; have hnb131 := NB370_361.out; have hnc131 := NB361_370.out; have hcz132_0 : wc.cell? ⟨gb370, 0, none⟩ = some (u371000) := (blk_cell BK370.out 0).trans rfl; have hcz132_1 : wc.cell? ⟨gb370, 1, none⟩ = some (u371001) := (blk_cell BK370.out 1).trans rfl; have hfz132_0 := blk_frozen BK370.out 0; have hfz132_1 := blk_frozen BK370.out 1) | ((with_reducible refine gate_builtin (b := .append) (xs := #[.tmp 109, .tmp 111]) rfl ?_); at_builtin; refine Kd.R_append Kd.string (w0 := w) w.heap.size rfl (.tmp 109) (.tmp 111) 22 9 (.string ⟨#[]⟩) 16 rfl Tryd.underlying22 info9 rfl (by decide) (by omega) u371001 x371001_1 (a0.extract (x7_1 : Int).toNat (x8_21 : Int).toNat) [.string (a0.extract (x7_1 : Int).toNat (x8_21 : Int).toNat)] (fun k_ => some k_ ≠ (u371000 : Value).ownBlock) (fun _ => False) rfl rfl ?aP (fun _ hk => hk.elim) ?aF ?aO ?aB ?aS ?aL ?_; (case aP => exact rfl); (case aB => exact hb_); (case aF => exact (fun k_ hk => Kd.fresh' (Kd.R_lt (ra_ HO_371000.out)) k_ hk)); (case aO => exact (ra_ HO_371001.out)); (case aS => exact (below_size hb_)); (case aL => have := LMc128.out; omega); intro v447 w133 ho hb hg hat; rw [← Ny446.out] at ho; have n0_ := Aside0.mk True.intro; have n1_ := Aside0.mk (Kd.R_after (ok := (fun _ => True)) (by (with_reducible repeat (first | apply Kd.R_alloc | apply Kd.R_drewN | apply Kd.R_drew)); exact Kd.R_mono HO_371000.out (fun _ hk => ⟨trivial, hk⟩)) hg hat); have n2_ := Aside0.mk (blk_grown (g := gb360) (o := .cells #[.slice none 0 0, .slice none 0 0, .int .i64 x361002_1, .int .i64 x361003_1] 48 (0, 0)) (bk_ BK360.out) hg (Kd.R_ne HO_371001.out BK360.out (by decide))); have n3_ := Aside0.mk (blk_grown (g := gb361) (o := .cells #[] 83 (0, 0)) (bk_ BK361.out) hg (Kd.R_ne HO_371001.out BK361.out (by decide))); have n4_ := Aside0.mk (blk_grown (g := gb370) (o := .cells #[u371000, u371001] 36 (0, 0)) (bk_ BK370.out) hg (Kd.R_ne HO_371001.out BK370.out (by decide))); have n5_ := Aside0.mk (hb); have n6_ := Aside0.mk (ho); clear HO_13; clear HO_371000; clear BK360; clear BK361; clear BK370; clear HB; clear HO_371001; have HO_13 := n0_; have HO_371000 := n1_; have BK360 := n2_; have BK361 := n3_; have BK370 := n4_; have HB := n5_; have HO448 := n6_; clear n0_ n1_ n2_ n3_ n4_ n5_ n6_; clear ho hb hg hat; obtain ⟨Ao134, co134, eo134⟩ := Kd.R_slice HO448.out; subst eo134; have hcz135_0 : w133.cell? ⟨gb370, 0, none⟩ = some (u371000) := (blk_cell BK370.out 0).trans rfl; have hcz135_1 : w133.cell? ⟨gb370, 1, none⟩ = some (u371001) := (blk_cell BK370.out 1).trans rfl; have hfz135_0 := blk_frozen BK370.out 0; have hfz135_1 := blk_frozen BK370.out 1))
                          go_roundg kj106
                          case measure => have := HK1.out; have := HJ21.out; have := HJ40.out; have := HJ94.out; have := HJ106.out; omega
                          case rel => exact ⟨(x5_1), (wrap64 (x6_1 + 1)), (x8_21), (x361002_1), (x361003_1), (x371000_1), (y446), (u371000), (.slice Ao134 y446.length co134), es_, es_, es_, H', ⟨by have := HK1.out; have := HJ21.out; have := HJ40.out; have := HJ94.out; have := HJ106.out; omega⟩, ⟨by (with_reducible repeat (first | apply Kd.R_alloc | apply Kd.R_drewN | apply Kd.R_drew)); exact Kd.R_mono (Kd.R_far (p := ⟨gb370, 1, none⟩) (Kd.R_types HO_371000.out BK370.out (by decide)) (fun _ hk => hk.2) (.slice Ao134 y446.length co134)) (fun _ hk => hk.1.2)⟩, ⟨by (with_reducible repeat (first | apply Kd.R_alloc | apply Kd.R_drewN | apply Kd.R_drew)); exact Kd.R_mono (Kd.R_far (p := ⟨gb370, 1, none⟩) (Kd.R_types HO448.out BK370.out (by decide)) (fun _ hk => hk.2) (.slice Ao134 y446.length co134)) (fun _ hk => hk.1)⟩, ⟨by (with_reducible repeat (first | refine blk_drewN ?_ _ | refine blk_drew ?_ | refine blk_alloc ?_ _)); refine blk_far ?_ NB360_370.out _; (with_reducible repeat (first | refine blk_drewN ?_ _ | refine blk_drew ?_ | refine blk_alloc ?_ _)); exact BK360.out⟩, ⟨by (with_reducible repeat (first | refine blk_drewN ?_ _ | refine blk_drew ?_ | refine blk_alloc ?_ _)); refine blk_far ?_ NB361_370.out _; (with_reducible repeat (first | refine blk_drewN ?_ _ | refine blk_drew ?_ | refine blk_alloc ?_ _)); exact BK361.out⟩, ⟨by (with_reducible repeat (first | refine blk_drewN ?_ _ | refine blk_drew ?_ | refine blk_alloc ?_ _)); refine blk_put (cs := #[u371000, u371001]) ?_ 1 _ rfl; (with_reducible repeat (first | refine blk_drewN ?_ _ | refine blk_drew ?_ | refine blk_alloc ?_ _)); exact BK370.out⟩, ⟨hb_⟩⟩
                         ·rw [if_neg c128] at H
                          exact absurd H (by simp)
                        ·rw [if_neg c127] at H
                         have c127b0 : (x5_1 == 2) = false := beq_eq_false_iff_ne.mpr c127
                         have c127b1 : (x5_1 != 2) = true := bne_iff_ne.mpr c127
                         by_cases c136 : x371000_1.length < 8796093022208
                         ·rw [if_pos c136] at H
                          have LMc136 := Aside0.mk c136
                          clear c136
                          obtain ⟨y449, hy449⟩ : ∃ y_ : List ByteArray, y_ = (x371000_1 ++ [(a0.extract (x7_1 : Int).toNat (x8_21 : Int).toNat)]) := ⟨_, rfl⟩
                          replace H : (spec_ReadWish.l0 kj106 a0 x5_1 (wrap64 (x6_1 + 1)) x8_21 y449 x371001_1) = some (r1, r2, r3, r4) := by first | (rw [hy449]; with_reducible exact H) | (have H2_ := (Option.bind_some _ _).symm.trans H; rw [hy449]; with_reducible exact H2_) | (have H2_ := (Option.bind_some _ _).symm.trans H; with_reducible exact H2_) | with_reducible exact H | (rw [hy449]; exact H) | exact H
                          have Ny449 := Aside0.mk hy449
                          clear hy449
                          have H' := Aside0.mk H
                          clear H
                          obtain ⟨Ao137, co137, eo137⟩ := Kd.R_slice HO_13.out
                          subst eo137
                          go_wp2_with (first | ((with_reducible refine gate_callee (f := 68) rfl ?_); refine goesL_ (some 102) rfl rfl Tryd.func68 (by kernel_rfl) rfl #[.slice Ao137 x13_106.length co137, .string (a0.extract (x7_1 : Int).toNat (x8_21 : Int).toNat)] rfl ls_ ?_; (with_reducible refine (spec_l22In.calls kj106 _ _ x13_106 (a0.extract (x7_1 : Int).toNat (x8_21 : Int).toNat) false _ ?side1 ?side2 A115.out).mono ?_); (case side1 => exact ca_ (Kd.R_reads' HO_13.out).2.2); (case side2 => exact (Kd.R_reads' HO_13.out).2.1); rintro e w' ⟨rfl, ⟨nd, rfl⟩⟩; refine ⟨_, rfl, ?_⟩; (try (rw [drewN_self wc]; generalize hq_ : World.drewN wc _ = wc; have n0_ := Aside0.mk (Kd.R_at hq_ HO_13.out); have n1_ := Aside0.mk (Kd.R_at hq_ HO_371000.out); have n2_ := Aside0.mk (Kd.R_at hq_ HO_371001.out); have n3_ := Aside0.mk (blk_at hq_ BK360.out); have n4_ := Aside0.mk (blk_at hq_ BK361.out); have n5_ := Aside0.mk (blk_at hq_ BK370.out); have n6_ := Aside0.mk (below_at hq_ HB.out); clear hq_ HO_13 HO_371000 HO_371001 BK360 BK361 BK370 HB; have HO_13 := n0_; have HO_371000 := n1_; have HO_371001 := n2_; have BK360 := n3_; have BK361 := n4_; have BK370 := n5_; have HB := n6_; clear n0_ n1_ n2_ n3_ n4_ n5_ n6_)); have hnb138 := NB370_360.out; have hnc138 := NB360_370.out; have hnb139 := NB370_361.out; have hnc139 := NB361_370.out; have hcz140_0 : wc.cell? ⟨gb370, 0, none⟩ = some (u371000) := (blk_cell BK370.out 0).trans rfl; have hcz140_1 : wc.cell? ⟨gb370, 1, none⟩ = some (u371001) := (blk_cell BK370.out 1).trans rfl; have hfz140_0 := blk_frozen BK370.out 0; have hfz140_1 := blk_frozen BK370.out 1) | ((with_reducible refine gate_builtin (b := .append) (xs := #[.tmp 115, .tmp 117]) rfl ?_); at_builtin; refine Kd.R_append Kd.string (w0 := w) w.heap.size rfl (.tmp 115) (.tmp 117) 22 9 (.string ⟨#[]⟩) 16 rfl Tryd.underlying22 info9 rfl (by decide) (by omega) u371000 x371000_1 (a0.extract (x7_1 : Int).toNat (x8_21 : Int).toNat) [.string (a0.extract (x7_1 : Int).toNat (x8_21 : Int).toNat)] (fun k_ => some k_ ≠ (u371001 : Value).ownBlock) (fun _ => False) rfl rfl ?aP (fun _ hk => hk.elim) ?aF ?aO ?aB ?aS ?aL ?_; (case aP => exact rfl); (case aB => exact hb_); (case aF => exact (fun k_ hk => Kd.fresh' (Kd.R_lt (ra_ HO_371001.out)) k_ hk)); (case aO => exact (ra_ HO_371000.out)); (case aS => exact (below_size hb_)); (case aL => have := LMc136.out; omega); intro v450 w141 ho hb hg hat; rw [← Ny449.out] at ho; have n0_ := Aside0.mk True.intro; have n1_ := Aside0.mk (Kd.R_after (ok := (fun _ => True)) (by (with_reducible repeat (first | apply Kd.R_alloc | apply Kd.R_drewN | apply Kd.R_drew)); exact Kd.R_mono HO_371001.out (fun _ hk => ⟨trivial, hk⟩)) hg hat); have n2_ := Aside0.mk (blk_grown (g := gb360) (o := .cells #[.slice none 0 0, .slice none 0 0, .int .i64 x361002_1, .int .i64 x361003_1] 48 (0, 0)) (bk_ BK360.out) hg (Kd.R_ne HO_371000.out BK360.out (by decide))); have n3_ := Aside0.mk (blk_grown (g := gb361) (o := .cells #[] 83 (0, 0)) (bk_ BK361.out) hg (Kd.R_ne HO_371000.out BK361.out (by decide))); have n4_ := Aside0.mk (blk_grown (g := gb370) (o := .cells #[u371000, u371001] 36 (0, 0)) (bk_ BK370.out) hg (Kd.R_ne HO_371000.out BK370.out (by decide))); have n5_ := Aside0.mk (hb); have n6_ := Aside0.mk (ho); clear HO_13; clear HO_371001; clear BK360; clear BK361; clear BK370; clear HB; clear HO_371000; have HO_13 := n0_; have HO_371001 := n1_; have BK360 := n2_; have BK361 := n3_; have BK370 := n4_; have HB := n5_; have HO451 := n6_; clear n0_ n1_ n2_ n3_ n4_ n5_ n6_; clear ho hb hg hat; obtain ⟨Ao142, co142, eo142⟩ := Kd.R_slice HO451.out; subst eo142; have hcz143_0 : w141.cell? ⟨gb370, 0, none⟩ = some (u371000) := (blk_cell BK370.out 0).trans rfl; have hcz143_1 : w141.cell? ⟨gb370, 1, none⟩ = some (u371001) := (blk_cell BK370.out 1).trans rfl; have hfz143_0 := blk_frozen BK370.out 0; have hfz143_1 := blk_frozen BK370.out 1))
                          go_roundg kj106
                          case measure => have := HK1.out; have := HJ21.out; have := HJ40.out; have := HJ94.out; have := HJ106.out; omega
                          case rel => exact ⟨(x5_1), (wrap64 (x6_1 + 1)), (x8_21), (x361002_1), (x361003_1), (y449), (x371001_1), (.slice Ao142 y449.length co142), (u371001), es_, es_, es_, H', ⟨by have := HK1.out; have := HJ21.out; have := HJ40.out; have := HJ94.out; have := HJ106.out; omega⟩, ⟨by (with_reducible repeat (first | apply Kd.R_alloc | apply Kd.R_drewN | apply Kd.R_drew)); exact Kd.R_mono (Kd.R_far (p := ⟨gb370, 0, none⟩) (Kd.R_types HO451.out BK370.out (by decide)) (fun _ hk => hk.2) (.slice Ao142 y449.length co142)) (fun _ hk => hk.1)⟩, ⟨by (with_reducible repeat (first | apply Kd.R_alloc | apply Kd.R_drewN | apply Kd.R_drew)); exact Kd.R_mono (Kd.R_far (p := ⟨gb370, 0, none⟩) (Kd.R_types HO_371001.out BK370.out (by decide)) (fun _ hk => hk.2) (.slice Ao142 y449.length co142)) (fun _ hk => hk.1.2)⟩, ⟨by (with_reducible repeat (first | refine blk_drewN ?_ _ | refine blk_drew ?_ | refine blk_alloc ?_ _)); refine blk_far ?_ NB360_370.out _; (with_reducible repeat (first | refine blk_drewN ?_ _ | refine blk_drew ?_ | refine blk_alloc ?_ _)); exact BK360.out⟩, ⟨by (with_reducible repeat (first | refine blk_drewN ?_ _ | refine blk_drew ?_ | refine blk_alloc ?_ _)); refine blk_far ?_ NB361_370.out _; (with_reducible repeat (first | refine blk_drewN ?_ _ | refine blk_drew ?_ | refine blk_alloc ?_ _)); exact BK361.out⟩, ⟨by (with_reducible repeat (first | refine blk_drewN ?_ _ | refine blk_drew ?_ | refine blk_alloc ?_ _)); refine blk_put (cs := #[u371000, u371001]) ?_ 0 _ rfl; (with_reducible repeat (first | refine blk_drewN ?_ _ | refine blk_drew ?_ | refine blk_alloc ?_ _)); exact BK370.out⟩, ⟨hb_⟩⟩
                         ·rw [if_neg c136] at H
                          exact absurd H (by simp)
            ·rw [if_neg c29] at H
             exact absurd H (by simp)
           ·rw [if_neg c28] at H
            exact absurd H (by simp)
          ·rw [if_neg c27] at H
           exact absurd H (by simp)
      ·rw [if_neg c19] at H
       exact absurd H (by simp)
     ·rw [if_neg c18] at H
      have c18b0 : decide (x7_1 < (a0.size : Int)) = false := decide_eq_false c18
      clear c18
      by_cases c144 : x6_1 = 0
      ·rw [if_pos c144] at H
       have c144b0 : (x6_1 == 0) = true := beq_iff_eq.mpr c144
       have c144b1 : (x6_1 != 0) = false := bne_eq_false_iff_eq.mpr c144
       clear c144
       replace H := Option.bind_eq_some_iff.mp H
       obtain ⟨⟨t371, t374, t377, t378⟩, A1450, H⟩ := H
       replace H : (some (t371, t374, t377, t378)) = some (r1, r2, r3, r4) := H
       have A145 := Aside0.mk A1450
       clear A1450
       simp only [Option.some.injEq, Prod.mk.injEq] at H
       obtain ⟨rfl, rfl, rfl, rfl⟩ := H
       have hnb146 := NB361_360.out
       have hnc146 := NB360_361.out
       have hnb147 := NB361_370.out
       have hnc147 := NB370_361.out
       go_wp2_with (first | ((with_reducible refine gate_callee (f := 66) rfl ?_); refine goesL_ (some 128) rfl rfl Tryd.func66 (by kernel_rfl) rfl #[.agg #[], .int .i64 2, .int .i64 (a0.size : Int)] rfl ls_ ?_; (with_reducible refine (spec_l22Bad_at.calls  2 (a0.size : Int) t371 t374 t377 t378 _ A145.out).mono ?_); rintro e w149 ⟨v372, v375, rfl, ho0, ho1, hb⟩; refine ⟨_, rfl, ?_⟩; have n0_ := Aside0.mk (Kd.R_mono (Kd.R_told (Kd.R_told (Kd.R_old (ra_ HO_371000.out) hb) (Kd.R_base ho0)) (Kd.R_base ho1)) (fun _ h_ => h_.1)); have n1_ := Aside0.mk (Kd.R_mono (Kd.R_told (Kd.R_told (Kd.R_old (ra_ HO_371001.out) hb) (Kd.R_base ho0)) (Kd.R_base ho1)) (fun _ h_ => h_.1)); have n2_ := Aside0.mk (Kd.R_lower (Kd.R_new' (Kd.R_new' ho0 (Kd.R_lt (ra_ HO_371000.out))) (Kd.R_lt (ra_ HO_371001.out))) (below_size hb_)); have n3_ := Aside0.mk (Kd.R_lower (Kd.R_new' (Kd.R_new' ho1 (Kd.R_lt (ra_ HO_371000.out))) (Kd.R_lt (ra_ HO_371001.out))) (below_size hb_)); have n4_ := bb_ BK360 hb; have n5_ := bb_ BK361 hb; have n6_ := bb_ BK370 hb; have n7_ := Aside0.mk (below_step hb_ hb); clear HO_371000; clear HO_371001; clear BK360; clear BK361; clear BK370; clear HB; have HO_371000 := n0_; have HO_371001 := n1_; have HO373 := n2_; have HO376 := n3_; have BK360 := n4_; have BK361 := n5_; have BK370 := n6_; have HB := n7_; clear n0_ n1_ n2_ n3_ n4_ n5_ n6_ n7_; (try clear hb); (try clear hb2); (try clear hk); (try clear hi); (try clear ho0); (try clear ho1); obtain ⟨Ao150, co150, eo150⟩ := Kd.R_slice HO373.out; subst eo150; have hnb151 := NB360_370.out; have hnc151 := NB370_360.out; have hcz152_0 : w149.cell? ⟨gb360, 0, none⟩ = some (.slice none 0 0) := (blk_cell BK360.out 0).trans rfl; have hcz152_1 : w149.cell? ⟨gb360, 1, none⟩ = some (.slice none 0 0) := (blk_cell BK360.out 1).trans rfl; have hcz152_2 : w149.cell? ⟨gb360, 2, none⟩ = some (.int .i64 x361002_1) := (blk_cell BK360.out 2).trans rfl; have hcz152_3 : w149.cell? ⟨gb360, 3, none⟩ = some (.int .i64 x361003_1) := (blk_cell BK360.out 3).trans rfl; have hfz152_0 := blk_frozen BK360.out 0; have hfz152_1 := blk_frozen BK360.out 1; have hfz152_2 := blk_frozen BK360.out 2; have hfz152_3 := blk_frozen BK360.out 3; obtain ⟨Ao153, co153, eo153⟩ := Kd.R_slice HO376.out; subst eo153))
       refine bodyPost_ret (results_cell_row rfl _ _ gb360 48 #[.slice Ao150 t371.length co150, .slice Ao153 t374.length co153, .int .i64 t377, .int .i64 t378] (0, 0) _ rfl (by (with_reducible repeat (first | refine blk_drewN ?_ _ | refine blk_drew ?_ | refine blk_alloc ?_ _)); refine blk_put (cs := #[.slice Ao150 t371.length co150, .slice Ao153 t374.length co153, .int .i64 t377, .int .i64 x361003_1]) ?_ 3 _ rfl; (with_reducible repeat (first | refine blk_drewN ?_ _ | refine blk_drew ?_ | refine blk_alloc ?_ _)); refine blk_put (cs := #[.slice Ao150 t371.length co150, .slice Ao153 t374.length co153, .int .i64 x361002_1, .int .i64 x361003_1]) ?_ 2 _ rfl; (with_reducible repeat (first | refine blk_drewN ?_ _ | refine blk_drew ?_ | refine blk_alloc ?_ _)); refine blk_put (cs := #[.slice Ao150 t371.length co150, .slice none 0 0, .int .i64 x361002_1, .int .i64 x361003_1]) ?_ 1 _ rfl; (with_reducible repeat (first | refine blk_drewN ?_ _ | refine blk_drew ?_ | refine blk_alloc ?_ _)); refine blk_put (cs := #[.slice none 0 0, .slice none 0 0, .int .i64 x361002_1, .int .i64 x361003_1]) ?_ 0 _ rfl; (with_reducible repeat (first | refine blk_drewN ?_ _ | refine blk_drew ?_ | refine blk_alloc ?_ _)); exact BK360.out) Tryd.underlying48 rfl (by kernel_rfl)) rfl ?_
       exact ⟨_, _, er_, by (with_reducible repeat (first | apply Kd.R_alloc | apply Kd.R_drewN | apply Kd.R_drew)); exact Kd.R_mono (Kd.R_far (p := ⟨gb360, 3, none⟩) (Kd.R_far (p := ⟨gb360, 2, none⟩) (Kd.R_far (p := ⟨gb360, 1, none⟩) (Kd.R_far (p := ⟨gb360, 0, none⟩) (Kd.R_types HO373.out BK360.out (by decide)) (fun _ hk => hk.2) (.slice Ao150 t371.length co150)) (fun _ hk => hk.2) (.slice Ao153 t374.length co153)) (fun _ hk => hk.2) (.int .i64 t377)) (fun _ hk => hk.2) (.int .i64 t378)) (fun _ hk => hk.1.1.1), by (with_reducible repeat (first | apply Kd.R_alloc | apply Kd.R_drewN | apply Kd.R_drew)); exact Kd.R_mono (Kd.R_far (p := ⟨gb360, 3, none⟩) (Kd.R_far (p := ⟨gb360, 2, none⟩) (Kd.R_far (p := ⟨gb360, 1, none⟩) (Kd.R_far (p := ⟨gb360, 0, none⟩) (Kd.R_types HO376.out BK360.out (by decide)) (fun _ hk => hk.2) (.slice Ao150 t371.length co150)) (fun _ hk => hk.2) (.slice Ao153 t374.length co153)) (fun _ hk => hk.2) (.int .i64 t377)) (fun _ hk => hk.2) (.int .i64 t378)) (fun _ hk => hk.1.1.1), hb_⟩
      ·rw [if_neg c144] at H
       have c144b0 : (x6_1 == 0) = false := beq_eq_false_iff_ne.mpr c144
       have c144b1 : (x6_1 != 0) = true := bne_iff_ne.mpr c144
       simp only [Option.some.injEq, Prod.mk.injEq] at H
       obtain ⟨rfl, rfl, rfl, rfl⟩ := H
       have hnb154 := NB370_360.out
       have hnc154 := NB360_370.out
       have hnb155 := NB370_361.out
       have hnc155 := NB361_370.out
       have hcz156_0 : wr.cell? ⟨gb370, 0, none⟩ = some (u371000) := (blk_cell BK370.out 0).trans rfl
       have hcz156_1 : wr.cell? ⟨gb370, 1, none⟩ = some (u371001) := (blk_cell BK370.out 1).trans rfl
       have hfz156_0 := blk_frozen BK370.out 0
       have hfz156_1 := blk_frozen BK370.out 1
       obtain ⟨Ao157, co157, eo157⟩ := Kd.R_slice HO_371001.out
       subst eo157
       obtain ⟨Ao158, co158, eo158⟩ := Kd.R_slice HO_371000.out
       subst eo158
       have hnb159 := NB360_361.out
       have hnc159 := NB361_360.out
       have hcz160_0 : wr.cell? ⟨gb360, 0, none⟩ = some (.slice none 0 0) := (blk_cell BK360.out 0).trans rfl
       have hcz160_1 : wr.cell? ⟨gb360, 1, none⟩ = some (.slice none 0 0) := (blk_cell BK360.out 1).trans rfl
       have hcz160_2 : wr.cell? ⟨gb360, 2, none⟩ = some (.int .i64 x361002_1) := (blk_cell BK360.out 2).trans rfl
       have hcz160_3 : wr.cell? ⟨gb360, 3, none⟩ = some (.int .i64 x361003_1) := (blk_cell BK360.out 3).trans rfl
       have hfz160_0 := blk_frozen BK360.out 0
       have hfz160_1 := blk_frozen BK360.out 1
       have hfz160_2 := blk_frozen BK360.out 2
       have hfz160_3 := blk_frozen BK360.out 3
       go_wp2
       refine bodyPost_ret (results_cell_row rfl _ _ gb360 48 #[.slice Ao158 x371000_1.length co158, .slice Ao157 x371001_1.length co157, .int .i64 0, .int .i64 0] (0, 0) _ rfl (by (with_reducible repeat (first | refine blk_drewN ?_ _ | refine blk_drew ?_ | refine blk_alloc ?_ _)); refine blk_put (cs := #[.slice Ao158 x371000_1.length co158, .slice Ao157 x371001_1.length co157, .int .i64 0, .int .i64 x361003_1]) ?_ 3 _ rfl; (with_reducible repeat (first | refine blk_drewN ?_ _ | refine blk_drew ?_ | refine blk_alloc ?_ _)); refine blk_put (cs := #[.slice Ao158 x371000_1.length co158, .slice Ao157 x371001_1.length co157, .int .i64 x361002_1, .int .i64 x361003_1]) ?_ 2 _ rfl; (with_reducible repeat (first | refine blk_drewN ?_ _ | refine blk_drew ?_ | refine blk_alloc ?_ _)); refine blk_put (cs := #[.slice Ao158 x371000_1.length co158, .slice none 0 0, .int .i64 x361002_1, .int .i64 x361003_1]) ?_ 1 _ rfl; (with_reducible repeat (first | refine blk_drewN ?_ _ | refine blk_drew ?_ | refine blk_alloc ?_ _)); refine blk_put (cs := #[.slice none 0 0, .slice none 0 0, .int .i64 x361002_1, .int .i64 x361003_1]) ?_ 0 _ rfl; (with_reducible repeat (first | refine blk_drewN ?_ _ | refine blk_drew ?_ | refine blk_alloc ?_ _)); exact BK360.out) Tryd.underlying48 rfl (by kernel_rfl)) rfl ?_
       exact ⟨_, _, er_, by (with_reducible repeat (first | apply Kd.R_alloc | apply Kd.R_drewN | apply Kd.R_drew)); exact Kd.R_mono (Kd.R_far (p := ⟨gb360, 3, none⟩) (Kd.R_far (p := ⟨gb360, 2, none⟩) (Kd.R_far (p := ⟨gb360, 1, none⟩) (Kd.R_far (p := ⟨gb360, 0, none⟩) (Kd.R_types HO_371000.out BK360.out (by decide)) (fun _ hk => hk.2) (.slice Ao158 x371000_1.length co158)) (fun _ hk => hk.2) (.slice Ao157 x371001_1.length co157)) (fun _ hk => hk.2) (.int .i64 0)) (fun _ hk => hk.2) (.int .i64 0)) (fun _ hk => hk.1), by (with_reducible repeat (first | apply Kd.R_alloc | apply Kd.R_drewN | apply Kd.R_drew)); exact Kd.R_mono (Kd.R_far (p := ⟨gb360, 3, none⟩) (Kd.R_far (p := ⟨gb360, 2, none⟩) (Kd.R_far (p := ⟨gb360, 1, none⟩) (Kd.R_far (p := ⟨gb360, 0, none⟩) (Kd.R_types HO_371001.out BK360.out (by decide)) (fun _ hk => hk.2) (.slice Ao158 x371000_1.length co158)) (fun _ hk => hk.2) (.slice Ao157 x371001_1.length co157)) (fun _ hk => hk.2) (.int .i64 0)) (fun _ hk => hk.2) (.int .i64 0)) (fun _ hk => hk.1), hb_⟩

end Go.Proofs.YtdihodboopeakaaDoor.Pr
-- Written by this session's own print (wip/tools/mkmp.py) out of the translation. Lean checks it.
namespace Go.Proofs.YtdihodboopeakaaDoor.Pr
open Go.RowKit Go.Proofs.YtdihodboopeakaaDoorW.PrintWords Go.Proofs.YtdihodboopeakaaDoorW.PrintLast Go.Proofs.YtdihodboopeakaaDoorW.PrintMore
attribute [local go_sem] max2_int min2_int max_two min_two max_three min_three max_four min_four   -- for this text's walks alone
set_option linter.unusedVariables false
set_option linter.unusedSimpArgs false

set_option maxHeartbeats 8000000 in
set_option maxRecDepth 100000 in
theorem laws_eqStringS.calls (k : Nat) (A0 : Option Addr) (c0 : Nat) (l0 : List ByteArray) (A1 : Option Addr) (c1 : Nat) (l1 : List ByteArray) (r : Bool) (w : World) (hr0 : Kd.C Kd.string w A0 l0.length l0) (hc0 : l0.length ≤ c0) (hr1 : Kd.C Kd.string w A1 l1.length l1) (hc1 : l1.length ≤ c1) (h : laws_eqStringS.f k l0 l1 = some r) :
   Calls Tryd.prog 57 #[.slice A0 l0.length c0, .slice A1 l1.length c1] w fun e w' => e = .returned (.bool r) ∧ Drawn0 w w' := by
  have HR0 := Aside0.mk hr0
  have HC0 := Aside0.mk hc0
  clear hr0 hc0
  have HR1 := Aside0.mk hr1
  have HC1 := Aside0.mk hc1
  clear hr1 hc1
  have H : (if (l0.length : Int) = (l1.length : Int) then (laws_eqStringS.l0 k l0 l1 0) else (some false)) = some r := h
  clear h
  by_cases c3 : (l0.length : Int) = (l1.length : Int)
  ·rw [if_pos c3] at H
   have c3b0 : ((l0.length : Int) == (l1.length : Int)) = true := beq_iff_eq.mpr c3
   have c3b1 : ((l0.length : Int) != (l1.length : Int)) = false := bne_eq_false_iff_eq.mpr c3
   have c3b2 : (l0.length == l1.length) = true := by first | simpa using c3 | (simp at c3 ⊢; omega)
   clear c3
   have H' := Aside0.mk H
   clear H
   go_enter Tryd.func57, Tryd.ntmps57
   go_wp2
   repeat (go_quiet (fail); try go_wp2)
   go_loopg [5] k (fun kq v5 w' => ∃ (x5_1 : Int), v5 = .int .i64 x5_1 ∧ Aside0 (laws_eqStringS.l0 kq l0 l1 x5_1 = some r) ∧ Aside0 (kq ≤ k) ∧ Drawn0 w w')
   case atStart => exact ⟨(0), es_, H', ⟨Nat.le_refl _⟩, by repeat (first | exact Drawn0.refl _ | apply Drawn0.step)⟩
   case round =>
    clear H'
    try clear c1
    try clear p2
    try clear c3
    try clear c3b0
    try clear c3b1
    try clear c3b2
    obtain ⟨x5_1, rfl, HA, HK1, ⟨m1, rfl⟩⟩ := hrel
    cases gk with
    | zero => exact absurd HA.out (by simp [laws_eqStringS.l0])
    | succ k1 =>
     have H := HA.out
     clear HA
     simp only [laws_eqStringS.l0] at H
     by_cases c4 : x5_1 < (l0.length : Int)
     ·rw [if_pos c4] at H
      have c4b0 : decide (x5_1 < (l0.length : Int)) = true := decide_eq_true c4
      clear c4
      by_cases c5 : 0 ≤ x5_1
      ·rw [if_pos c5] at H
       have c5b0 : decide (0 ≤ x5_1) = true := decide_eq_true c5
       clear c5
       by_cases c6 : x5_1 < (l1.length : Int)
       ·rw [if_pos c6] at H
        have c6b0 : decide (x5_1 < (l1.length : Int)) = true := decide_eq_true c6
        clear c6
        by_cases c7 : (rdOf ByteArray.empty l0 x5_1).toList = (rdOf ByteArray.empty l1 x5_1).toList
        ·rw [if_pos c7] at H
         have c7b0 : ((rdOf ByteArray.empty l0 x5_1).toList == (rdOf ByteArray.empty l1 x5_1).toList) = true := beq_iff_eq.mpr c7
         have c7b1 : ((rdOf ByteArray.empty l0 x5_1).toList != (rdOf ByteArray.empty l1 x5_1).toList) = false := bne_eq_false_iff_eq.mpr c7
         clear c7
         have H' := Aside0.mk H
         clear H
         have p157 : 0 ≤ (x5_1 : Int) := of_decide_eq_true as_
         have q157 : x5_1 < (l0.length : Int) := of_decide_eq_true as_
         obtain ⟨ad157, e157, hx157_0⟩ := Kd.at_string HR0.out x5_1 p157 q157
         cases e157
         replace p157 := eq_true p157
         replace q157 := eq_true q157
         have p158 : 0 ≤ (x5_1 : Int) := of_decide_eq_true as_
         have q158 : x5_1 < (l1.length : Int) := of_decide_eq_true as_
         obtain ⟨ad158, e158, hx158_0⟩ := Kd.at_string HR1.out x5_1 p158 q158
         cases e158
         replace p158 := eq_true p158
         replace q158 := eq_true q158
         go_wp2
         repeat (go_quiet (fail); try go_wp2)
         go_roundg k1
         case measure => have := HK1.out; omega
         case rel => exact ⟨(wrap64 (x5_1 + 1)), es_, H', ⟨by have := HK1.out; omega⟩, by repeat (first | exact Drawn0.refl _ | apply Drawn0.step)⟩
        ·rw [if_neg c7] at H
         have c7b0 : ((rdOf ByteArray.empty l0 x5_1).toList == (rdOf ByteArray.empty l1 x5_1).toList) = false := beq_eq_false_iff_ne.mpr c7
         have c7b1 : ((rdOf ByteArray.empty l0 x5_1).toList != (rdOf ByteArray.empty l1 x5_1).toList) = true := bne_iff_ne.mpr c7
         obtain rfl := Option.some.inj H
         have p157 : 0 ≤ (x5_1 : Int) := of_decide_eq_true as_
         have q157 : x5_1 < (l0.length : Int) := of_decide_eq_true as_
         obtain ⟨ad157, e157, hx157_0⟩ := Kd.at_string HR0.out x5_1 p157 q157
         cases e157
         replace p157 := eq_true p157
         replace q157 := eq_true q157
         have p158 : 0 ≤ (x5_1 : Int) := of_decide_eq_true as_
         have q158 : x5_1 < (l1.length : Int) := of_decide_eq_true as_
         obtain ⟨ad158, e158, hx158_0⟩ := Kd.at_string HR1.out x5_1 p158 q158
         cases e158
         replace p158 := eq_true p158
         replace q158 := eq_true q158
         go_wp2
         repeat (go_quiet (fail); try go_wp2)
         go_ret
         exact ⟨es_, by repeat (first | exact Drawn0.refl _ | apply Drawn0.step)⟩
       ·rw [if_neg c6] at H
        exact absurd H (by simp)
      ·rw [if_neg c5] at H
       exact absurd H (by simp)
     ·rw [if_neg c4] at H
      have c4b0 : decide (x5_1 < (l0.length : Int)) = false := decide_eq_false c4
      clear c4
      obtain rfl := Option.some.inj H
      go_wp2
      repeat (go_quiet (fail); try go_wp2)
      go_ret
      exact ⟨es_, by repeat (first | exact Drawn0.refl _ | apply Drawn0.step)⟩
  ·rw [if_neg c3] at H
   have c3b0 : ((l0.length : Int) == (l1.length : Int)) = false := beq_eq_false_iff_ne.mpr c3
   have c3b1 : ((l0.length : Int) != (l1.length : Int)) = true := bne_iff_ne.mpr c3
   have c3b2 : (l0.length == l1.length) = false := by first | simpa using c3 | (simp at c3 ⊢; omega)
   obtain rfl := Option.some.inj H
   go_enter Tryd.func57, Tryd.ntmps57
   go_wp2
   repeat (go_quiet (fail); try go_wp2)
   go_ret
   exact ⟨es_, by repeat (first | exact Drawn0.refl _ | apply Drawn0.step)⟩

end Go.Proofs.YtdihodboopeakaaDoor.Pr
-- Written by this session's own print (wip/tools/mkmp.py) out of the translation. Lean checks it.
namespace Go.Proofs.YtdihodboopeakaaDoor.Pr
open Go.RowKit Go.Proofs.YtdihodboopeakaaDoorW.PrintWords Go.Proofs.YtdihodboopeakaaDoorW.PrintLast Go.Proofs.YtdihodboopeakaaDoorW.PrintMore
attribute [local go_sem] max2_int min2_int max_two min_two max_three min_three max_four min_four   -- for this text's walks alone
set_option linter.unusedVariables false
set_option linter.unusedSimpArgs false

end Go.Proofs.YtdihodboopeakaaDoor.Pr
