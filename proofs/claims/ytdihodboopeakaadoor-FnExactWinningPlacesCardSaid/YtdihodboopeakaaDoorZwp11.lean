-- Joined and pruned by wip/tools/prune.py out of this session's own texts (Pr22)
import Derived.Test.YtdihodboopeakaaDoorZwp10
-- Written by this session's own print (wip/tools/mkmp.py) out of the translation. Lean checks it.
namespace Go.Proofs.YtdihodboopeakaaDoor.Pr
open Go.RowKit Go.Proofs.YtdihodboopeakaaDoorW.PrintWords Go.Proofs.YtdihodboopeakaaDoorW.PrintLast Go.Proofs.YtdihodboopeakaaDoorW.PrintMore
attribute [local go_sem] max2_int min2_int max_two min_two max_three min_three max_four min_four   -- for this text's walks alone
set_option linter.unusedVariables false
set_option linter.unusedSimpArgs false

set_option maxHeartbeats 8000000 in
set_option maxRecDepth 100000 in
theorem spec_l22Ranks.calls (k : Nat) (A0_0 : Option Addr) (c0_0 : Nat) (l0_0 : List ByteArray) (A0_1 : Option Addr) (c0_1 : Nat) (l0_1 : List Bool) (A0_2 : Option Addr) (c0_2 : Nat) (l0_2 : List (List Int)) (A1_0 : Option Addr) (c1_0 : Nat) (l1_0 : List ByteArray) (A1_1 : Option Addr) (c1_1 : Nat) (l1_1 : List ByteArray) (r : List Int) (w : World) (hr0_0 : Kd.C Kd.string w A0_0 l0_0.length l0_0) (hc0_0 : l0_0.length ≤ c0_0) (hr0_1 : Kd.C Kd.bool w A0_1 l0_1.length l0_1) (hc0_1 : l0_1.length ≤ c0_1) (hr0_2 : Kd.C (Kd.slice 3 (Kd.int .i64)) w A0_2 l0_2.length l0_2) (hc0_2 : l0_2.length ≤ c0_2) (hr1_0 : Kd.C Kd.string w A1_0 l1_0.length l1_0) (hc1_0 : l1_0.length ≤ c1_0) (hr1_1 : Kd.C Kd.string w A1_1 l1_1.length l1_1) (hc1_1 : l1_1.length ≤ c1_1) (h : spec_l22Ranks.f k l0_0 l0_1 l0_2 l1_0 l1_1 = some r) :
   Calls Tryd.prog 51 #[.agg #[.slice A0_0 l0_0.length c0_0, .slice A0_1 l0_1.length c0_1, .slice A0_2 l0_2.length c0_2], .agg #[.slice A1_0 l1_0.length c1_0, .slice A1_1 l1_1.length c1_1]] w fun e w' => ∃ v0_ : Value, e = .returned (v0_) ∧ Kd.R (Kd.int .i64) 3 w' w.heap.size (fun _ => True) v0_ r ∧ Below w.heap.size w w' := by
  have hu34 := Tryd.underlying34
  have hu36 := Tryd.underlying36
  have HR0_0 := Aside0.mk hr0_0
  have HC0_0 := Aside0.mk hc0_0
  clear hr0_0 hc0_0
  have HR0_1 := Aside0.mk hr0_1
  have HC0_1 := Aside0.mk hc0_1
  clear hr0_1 hc0_1
  have HR0_2 := Aside0.mk hr0_2
  have HC0_2 := Aside0.mk hc0_2
  clear hr0_2 hc0_2
  have HR1_0 := Aside0.mk hr1_0
  have HC1_0 := Aside0.mk hc1_0
  clear hr1_0 hc1_0
  have HR1_1 := Aside0.mk hr1_1
  have HC1_1 := Aside0.mk hc1_1
  clear hr1_1 hc1_1
  have HB := Aside0.mk (Below.refl w.heap.size w)
  have H : (if 0 ≤ (l0_0.length : Int) then (if ((l0_0.length : Int) : Int).toNat ≤ 35184372088832 then ((some (List.replicate ((l0_0.length : Int) : Int).toNat 0 : List Int)).bind fun y358 => (if (l1_0.length : Int) = 0 then ((spec_l22Safe.f k l0_0 l0_1 l0_2 l1_0 l1_1 y358).bind fun t361 => (some t361)) else (spec_l22Ranks.l0 k (l0_0.length : Int) y358 l0_0 (l0_0.length : Int) 0 l0_0 l0_1 l0_2 l1_0 l1_1))) else (none)) else (none)) = some r := h
  clear h
  by_cases c3 : 0 ≤ (l0_0.length : Int)
  ·rw [if_pos c3] at H
   have c3b0 := eq_true c3
   have c3b1 : decide (0 ≤ (l0_0.length : Int)) = true := decide_eq_true c3
   clear c3
   by_cases c4 : ((l0_0.length : Int) : Int).toNat ≤ 35184372088832
   ·rw [if_pos c4] at H
    have c4b0 := eq_true c4
    have c4b1 : decide (((l0_0.length : Int) : Int).toNat ≤ 35184372088832) = true := decide_eq_true c4
    clear c4
    obtain ⟨y358, hy358⟩ : ∃ y_ : List Int, y_ = (List.replicate ((l0_0.length : Int) : Int).toNat 0) := ⟨_, rfl⟩
    replace H : (if (l1_0.length : Int) = 0 then ((spec_l22Safe.f k l0_0 l0_1 l0_2 l1_0 l1_1 y358).bind fun t361 => (some t361)) else (spec_l22Ranks.l0 k (l0_0.length : Int) y358 l0_0 (l0_0.length : Int) 0 l0_0 l0_1 l0_2 l1_0 l1_1)) = some r := by first | (rw [hy358]; with_reducible exact H) | (have H2_ := (Option.bind_some _ _).symm.trans H; rw [hy358]; with_reducible exact H2_) | (have H2_ := (Option.bind_some _ _).symm.trans H; with_reducible exact H2_) | with_reducible exact H | (rw [hy358]; exact H) | exact H
    have Ny358 := Aside0.mk hy358
    clear hy358
    by_cases c5 : (l1_0.length : Int) = 0
    ·rw [if_pos c5] at H
     have c5b0 : ((l1_0.length : Int) == 0) = true := beq_iff_eq.mpr c5
     have c5b1 : ((l1_0.length : Int) != 0) = false := bne_eq_false_iff_eq.mpr c5
     clear c5
     replace H := Option.bind_eq_some_iff.mp H
     obtain ⟨t361, A60, H⟩ := H
     replace H : (some t361) = some r := H
     have A6 := Aside0.mk A60
     clear A60
     obtain rfl := Option.some.inj H
     go_enter Tryd.func51, Tryd.ntmps51
     go_wp2_with (first | ((with_reducible refine gate_dst (N := 2) rfl ?_); (try (refine gate_guard (by rfl) ?_; dsimp only)); refine box_event ?hg (N := 2) ?hd (cs := #[.slice A0_0 l0_0.length c0_0, .slice A0_1 l0_1.length c0_1, .slice A0_2 l0_2.length c0_2]) (t := 34) ?hr ?_; (case hd => rfl); (case hg => rfl); (case hr => first | (go_simp; done) | (go_simp; rfl)); intro gb356 hg w7 hbox hb; have n0_ := Aside0.mk (below_step hb_ hb); have n1_ := Aside0.mk (hbox); have n2_ : Aside0 (w.heap.size ≤ gb356) := gz_; have n3_ : Aside0 (w.heap.size ≤ gb356) := gz_; clear HB; have HB := n0_; have BK356 := n1_; have GW356 := n2_; have GE356 := n3_; clear n0_ n1_ n2_ n3_; clear hb hbox hg) | ((with_reducible refine gate_dst (N := 3) rfl ?_); (try (refine gate_guard (by rfl) ?_; dsimp only)); refine box_event ?hg (N := 3) ?hd (cs := #[.slice A1_0 l1_0.length c1_0, .slice A1_1 l1_1.length c1_1]) (t := 36) ?hr ?_; (case hd => rfl); (case hg => rfl); (case hr => first | (go_simp; done) | (go_simp; rfl)); intro gb357 hg w8 hbox hb; have n0_ := bb_ BK356 hb; have n1_ := Aside0.mk (below_step hb_ hb); have n2_ := Aside0.mk (hbox); have n3_ : Aside0 (w.heap.size ≤ gb357) := gz_; have n4_ : Aside0 (w.heap.size ≤ gb357) := gz_; have n5_ := Aside0.mk ((by rw [hg]; exact Nat.ne_of_lt (blk_lt (g := gb356) (o := .cells #[.slice A0_0 l0_0.length c0_0, .slice A0_1 l0_1.length c0_1, .slice A0_2 l0_2.length c0_2] 34 (0, 0)) (bk_ BK356.out)) : gb356 ≠ gb357)); have n6_ := Aside0.mk ((by rw [hg]; exact Nat.ne_of_gt (blk_lt (g := gb356) (o := .cells #[.slice A0_0 l0_0.length c0_0, .slice A0_1 l0_1.length c0_1, .slice A0_2 l0_2.length c0_2] 34 (0, 0)) (bk_ BK356.out)) : gb357 ≠ gb356)); clear BK356; clear HB; have BK356 := n0_; have HB := n1_; have BK357 := n2_; have GW357 := n3_; have GE357 := n4_; have NB356_357 := n5_; have NB357_356 := n6_; clear n0_ n1_ n2_ n3_ n4_ n5_ n6_; clear hb hbox hg; have hnb9 := NB356_357.out; have hnc9 := NB357_356.out; have hcz10_0 : w8.cell? ⟨gb356, 0, none⟩ = some (.slice A0_0 l0_0.length c0_0) := (blk_cell BK356.out 0).trans rfl; have hcz10_1 : w8.cell? ⟨gb356, 1, none⟩ = some (.slice A0_1 l0_1.length c0_1) := (blk_cell BK356.out 1).trans rfl; have hcz10_2 : w8.cell? ⟨gb356, 2, none⟩ = some (.slice A0_2 l0_2.length c0_2) := (blk_cell BK356.out 2).trans rfl; have hfz10_0 := blk_frozen BK356.out 0; have hfz10_1 := blk_frozen BK356.out 1; have hfz10_2 := blk_frozen BK356.out 2) | ((with_reducible refine gate_dst (N := 23) rfl ?_); (try (refine gate_guard (by rfl) ?_; dsimp only)); refine Kd.R_make (Kd.int .i64) _ 3 rfl (N := 23) rfl 31 _ _ rfl (l0_0.length : Int) rfl rfl Tryd.underlying31 (.int .i64 0) 8 info3 rfl (by decide) (by omega) 0 (ok := fun _ => True) (okp := fun _ => True) rfl (fun _ hk => hk) trivial (of_decide_eq_true as_) (Nat.le_trans (Nat.mul_le_mul_right _ (of_decide_eq_true as_ : (l0_0.length : Int).toNat ≤ 35184372088832)) (by omega)) (Below.refl _ _) (Nat.le_refl _) ?_; intro v359 w11 ho12 hb hg_ hnew_; clear hg_ hnew_; (first | rw [← Ny358.out] at ho12 | (simp only [Int.reduceToNat] at ho12; rw [← Ny358.out] at ho12)); have n0_ := Aside0.mk (Kd.R_lower ho12 (below_size hb_)); have n1_ := bb_ BK356 hb; have n2_ := bb_ BK357 hb; have n3_ := Aside0.mk (below_step hb_ hb); clear BK356; clear BK357; clear HB; have HO360 := n0_; have BK356 := n1_; have BK357 := n2_; have HB := n3_; clear n0_ n1_ n2_ n3_; clear hb ho12; have hcz13_0 : w11.cell? ⟨gb357, 0, none⟩ = some (.slice A1_0 l1_0.length c1_0) := (blk_cell BK357.out 0).trans rfl; have hcz13_1 : w11.cell? ⟨gb357, 1, none⟩ = some (.slice A1_1 l1_1.length c1_1) := (blk_cell BK357.out 1).trans rfl; have hfz13_0 := blk_frozen BK357.out 0; have hfz13_1 := blk_frozen BK357.out 1; have hcz14_0 : w11.cell? ⟨gb356, 0, none⟩ = some (.slice A0_0 l0_0.length c0_0) := (blk_cell BK356.out 0).trans rfl; have hcz14_1 : w11.cell? ⟨gb356, 1, none⟩ = some (.slice A0_1 l0_1.length c0_1) := (blk_cell BK356.out 1).trans rfl; have hcz14_2 : w11.cell? ⟨gb356, 2, none⟩ = some (.slice A0_2 l0_2.length c0_2) := (blk_cell BK356.out 2).trans rfl; have hfz14_0 := blk_frozen BK356.out 0; have hfz14_1 := blk_frozen BK356.out 1; have hfz14_2 := blk_frozen BK356.out 2; obtain ⟨Ao15, co15, eo15⟩ := Kd.R_slice HO360.out; subst eo15) | (go_at_call 88; (with_reducible refine (spec_l22Safe.calls k _ _ l0_0 _ _ l0_1 _ _ l0_2 _ _ l1_0 _ _ l1_1 (fun k_ => some k_ = (.slice Ao15 y358.length co15 : Value).ownBlock) (.slice Ao15 y358.length co15) y358 t361 w _ ?side1 ?side2 ?side3 ?side4 ?side5 ?side6 ?side7 ?side8 ?side9 ?side10 ?side11 ?side12 A6.out).mono ?_); (case side1 => repeat (first | (with_reducible first | exact HB.out | apply below_alloc | apply pw_below_drewN | apply below_drew1 | refine below_set ?_ GE356.out | refine below_set ?_ GE357.out) | exact HB.out)); (case side2 => exact Kd.C_kept_came Kd.heap_string HR0_0.out hb_ (fun k_ hs_ => (fun e_ => Kd.R_base HO360.out k_ e_.symm) hs_)); (case side3 => exact HC0_0.out); (case side4 => exact Kd.C_kept_came Kd.heap_bool HR0_1.out hb_ (fun k_ hs_ => (fun e_ => Kd.R_base HO360.out k_ e_.symm) hs_)); (case side5 => exact HC0_1.out); (case side6 => exact Kd.C_kept_came (Kd.heap_slice 3 (Kd.heap_int .i64)) HR0_2.out hb_ (fun k_ hs_ => (fun e_ => Kd.R_base HO360.out k_ e_.symm) hs_)); (case side7 => exact HC0_2.out); (case side8 => exact Kd.C_kept_came Kd.heap_string HR1_0.out hb_ (fun k_ hs_ => (fun e_ => Kd.R_base HO360.out k_ e_.symm) hs_)); (case side9 => exact HC1_0.out); (case side10 => exact Kd.C_kept_came Kd.heap_string HR1_1.out hb_ (fun k_ hs_ => (fun e_ => Kd.R_base HO360.out k_ e_.symm) hs_)); (case side11 => exact HC1_1.out); (case side12 => exact Kd.R_tight rfl HO360.out); rintro e w16 ⟨rfl, hy0, hb, hkp⟩; have n0_ := Aside0.mk (blk_kept (bk_ BK356.out) hkp (fun hs_ => (fun e_ => (Kd.R_ne HO360.out BK356.out (by decide)) e_) hs_)); have n1_ := Aside0.mk (blk_kept (bk_ BK357.out) hkp (fun hs_ => (fun e_ => (Kd.R_ne HO360.out BK357.out (by decide)) e_) hs_)); have n2_ := Aside0.mk (Kd.R_reok rfl hy0 (fun k_ e_ => HO360.out.1 k_ e_)); have n3_ := Aside0.mk (hb); clear BK356; clear BK357; clear HO360; clear HB; have BK356 := n0_; have BK357 := n1_; have HO360 := n2_; have HB := n3_; clear n0_ n1_ n2_ n3_; (try clear hb); (try clear hkp); (try clear hy0)))
     repeat (go_quiet (first | ((with_reducible refine gate_dst (N := 2) rfl ?_); (try (refine gate_guard (by rfl) ?_; dsimp only)); refine box_event ?hg (N := 2) ?hd (cs := #[.slice A0_0 l0_0.length c0_0, .slice A0_1 l0_1.length c0_1, .slice A0_2 l0_2.length c0_2]) (t := 34) ?hr ?_; (case hd => rfl); (case hg => rfl); (case hr => first | (go_simp; done) | (go_simp; rfl)); intro gb356 hg w7 hbox hb; have n0_ := Aside0.mk (below_step hb_ hb); have n1_ := Aside0.mk (hbox); have n2_ : Aside0 (w.heap.size ≤ gb356) := gz_; have n3_ : Aside0 (w.heap.size ≤ gb356) := gz_; clear HB; have HB := n0_; have BK356 := n1_; have GW356 := n2_; have GE356 := n3_; clear n0_ n1_ n2_ n3_; clear hb hbox hg) | ((with_reducible refine gate_dst (N := 3) rfl ?_); (try (refine gate_guard (by rfl) ?_; dsimp only)); refine box_event ?hg (N := 3) ?hd (cs := #[.slice A1_0 l1_0.length c1_0, .slice A1_1 l1_1.length c1_1]) (t := 36) ?hr ?_; (case hd => rfl); (case hg => rfl); (case hr => first | (go_simp; done) | (go_simp; rfl)); intro gb357 hg w8 hbox hb; have n0_ := bb_ BK356 hb; have n1_ := Aside0.mk (below_step hb_ hb); have n2_ := Aside0.mk (hbox); have n3_ : Aside0 (w.heap.size ≤ gb357) := gz_; have n4_ : Aside0 (w.heap.size ≤ gb357) := gz_; have n5_ := Aside0.mk ((by rw [hg]; exact Nat.ne_of_lt (blk_lt (g := gb356) (o := .cells #[.slice A0_0 l0_0.length c0_0, .slice A0_1 l0_1.length c0_1, .slice A0_2 l0_2.length c0_2] 34 (0, 0)) (bk_ BK356.out)) : gb356 ≠ gb357)); have n6_ := Aside0.mk ((by rw [hg]; exact Nat.ne_of_gt (blk_lt (g := gb356) (o := .cells #[.slice A0_0 l0_0.length c0_0, .slice A0_1 l0_1.length c0_1, .slice A0_2 l0_2.length c0_2] 34 (0, 0)) (bk_ BK356.out)) : gb357 ≠ gb356)); clear BK356; clear HB; have BK356 := n0_; have HB := n1_; have BK357 := n2_; have GW357 := n3_; have GE357 := n4_; have NB356_357 := n5_; have NB357_356 := n6_; clear n0_ n1_ n2_ n3_ n4_ n5_ n6_; clear hb hbox hg; have hnb9 := NB356_357.out; have hnc9 := NB357_356.out; have hcz10_0 : w8.cell? ⟨gb356, 0, none⟩ = some (.slice A0_0 l0_0.length c0_0) := (blk_cell BK356.out 0).trans rfl; have hcz10_1 : w8.cell? ⟨gb356, 1, none⟩ = some (.slice A0_1 l0_1.length c0_1) := (blk_cell BK356.out 1).trans rfl; have hcz10_2 : w8.cell? ⟨gb356, 2, none⟩ = some (.slice A0_2 l0_2.length c0_2) := (blk_cell BK356.out 2).trans rfl; have hfz10_0 := blk_frozen BK356.out 0; have hfz10_1 := blk_frozen BK356.out 1; have hfz10_2 := blk_frozen BK356.out 2) | ((with_reducible refine gate_dst (N := 23) rfl ?_); (try (refine gate_guard (by rfl) ?_; dsimp only)); refine Kd.R_make (Kd.int .i64) _ 3 rfl (N := 23) rfl 31 _ _ rfl (l0_0.length : Int) rfl rfl Tryd.underlying31 (.int .i64 0) 8 info3 rfl (by decide) (by omega) 0 (ok := fun _ => True) (okp := fun _ => True) rfl (fun _ hk => hk) trivial (of_decide_eq_true as_) (Nat.le_trans (Nat.mul_le_mul_right _ (of_decide_eq_true as_ : (l0_0.length : Int).toNat ≤ 35184372088832)) (by omega)) (Below.refl _ _) (Nat.le_refl _) ?_; intro v359 w11 ho12 hb hg_ hnew_; clear hg_ hnew_; (first | rw [← Ny358.out] at ho12 | (simp only [Int.reduceToNat] at ho12; rw [← Ny358.out] at ho12)); have n0_ := Aside0.mk (Kd.R_lower ho12 (below_size hb_)); have n1_ := bb_ BK356 hb; have n2_ := bb_ BK357 hb; have n3_ := Aside0.mk (below_step hb_ hb); clear BK356; clear BK357; clear HB; have HO360 := n0_; have BK356 := n1_; have BK357 := n2_; have HB := n3_; clear n0_ n1_ n2_ n3_; clear hb ho12; have hcz13_0 : w11.cell? ⟨gb357, 0, none⟩ = some (.slice A1_0 l1_0.length c1_0) := (blk_cell BK357.out 0).trans rfl; have hcz13_1 : w11.cell? ⟨gb357, 1, none⟩ = some (.slice A1_1 l1_1.length c1_1) := (blk_cell BK357.out 1).trans rfl; have hfz13_0 := blk_frozen BK357.out 0; have hfz13_1 := blk_frozen BK357.out 1; have hcz14_0 : w11.cell? ⟨gb356, 0, none⟩ = some (.slice A0_0 l0_0.length c0_0) := (blk_cell BK356.out 0).trans rfl; have hcz14_1 : w11.cell? ⟨gb356, 1, none⟩ = some (.slice A0_1 l0_1.length c0_1) := (blk_cell BK356.out 1).trans rfl; have hcz14_2 : w11.cell? ⟨gb356, 2, none⟩ = some (.slice A0_2 l0_2.length c0_2) := (blk_cell BK356.out 2).trans rfl; have hfz14_0 := blk_frozen BK356.out 0; have hfz14_1 := blk_frozen BK356.out 1; have hfz14_2 := blk_frozen BK356.out 2; obtain ⟨Ao15, co15, eo15⟩ := Kd.R_slice HO360.out; subst eo15) | (go_at_call 88; (with_reducible refine (spec_l22Safe.calls k _ _ l0_0 _ _ l0_1 _ _ l0_2 _ _ l1_0 _ _ l1_1 (fun k_ => some k_ = (.slice Ao15 y358.length co15 : Value).ownBlock) (.slice Ao15 y358.length co15) y358 t361 w _ ?side1 ?side2 ?side3 ?side4 ?side5 ?side6 ?side7 ?side8 ?side9 ?side10 ?side11 ?side12 A6.out).mono ?_); (case side1 => repeat (first | (with_reducible first | exact HB.out | apply below_alloc | apply pw_below_drewN | apply below_drew1 | refine below_set ?_ GE356.out | refine below_set ?_ GE357.out) | exact HB.out)); (case side2 => exact Kd.C_kept_came Kd.heap_string HR0_0.out hb_ (fun k_ hs_ => (fun e_ => Kd.R_base HO360.out k_ e_.symm) hs_)); (case side3 => exact HC0_0.out); (case side4 => exact Kd.C_kept_came Kd.heap_bool HR0_1.out hb_ (fun k_ hs_ => (fun e_ => Kd.R_base HO360.out k_ e_.symm) hs_)); (case side5 => exact HC0_1.out); (case side6 => exact Kd.C_kept_came (Kd.heap_slice 3 (Kd.heap_int .i64)) HR0_2.out hb_ (fun k_ hs_ => (fun e_ => Kd.R_base HO360.out k_ e_.symm) hs_)); (case side7 => exact HC0_2.out); (case side8 => exact Kd.C_kept_came Kd.heap_string HR1_0.out hb_ (fun k_ hs_ => (fun e_ => Kd.R_base HO360.out k_ e_.symm) hs_)); (case side9 => exact HC1_0.out); (case side10 => exact Kd.C_kept_came Kd.heap_string HR1_1.out hb_ (fun k_ hs_ => (fun e_ => Kd.R_base HO360.out k_ e_.symm) hs_)); (case side11 => exact HC1_1.out); (case side12 => exact Kd.R_tight rfl HO360.out); rintro e w16 ⟨rfl, hy0, hb, hkp⟩; have n0_ := Aside0.mk (blk_kept (bk_ BK356.out) hkp (fun hs_ => (fun e_ => (Kd.R_ne HO360.out BK356.out (by decide)) e_) hs_)); have n1_ := Aside0.mk (blk_kept (bk_ BK357.out) hkp (fun hs_ => (fun e_ => (Kd.R_ne HO360.out BK357.out (by decide)) e_) hs_)); have n2_ := Aside0.mk (Kd.R_reok rfl hy0 (fun k_ e_ => HO360.out.1 k_ e_)); have n3_ := Aside0.mk (hb); clear BK356; clear BK357; clear HO360; clear HB; have BK356 := n0_; have BK357 := n1_; have HO360 := n2_; have HB := n3_; clear n0_ n1_ n2_ n3_; (try clear hb); (try clear hkp); (try clear hy0))); try go_wp2_with (first | ((with_reducible refine gate_dst (N := 2) rfl ?_); (try (refine gate_guard (by rfl) ?_; dsimp only)); refine box_event ?hg (N := 2) ?hd (cs := #[.slice A0_0 l0_0.length c0_0, .slice A0_1 l0_1.length c0_1, .slice A0_2 l0_2.length c0_2]) (t := 34) ?hr ?_; (case hd => rfl); (case hg => rfl); (case hr => first | (go_simp; done) | (go_simp; rfl)); intro gb356 hg w7 hbox hb; have n0_ := Aside0.mk (below_step hb_ hb); have n1_ := Aside0.mk (hbox); have n2_ : Aside0 (w.heap.size ≤ gb356) := gz_; have n3_ : Aside0 (w.heap.size ≤ gb356) := gz_; clear HB; have HB := n0_; have BK356 := n1_; have GW356 := n2_; have GE356 := n3_; clear n0_ n1_ n2_ n3_; clear hb hbox hg) | ((with_reducible refine gate_dst (N := 3) rfl ?_); (try (refine gate_guard (by rfl) ?_; dsimp only)); refine box_event ?hg (N := 3) ?hd (cs := #[.slice A1_0 l1_0.length c1_0, .slice A1_1 l1_1.length c1_1]) (t := 36) ?hr ?_; (case hd => rfl); (case hg => rfl); (case hr => first | (go_simp; done) | (go_simp; rfl)); intro gb357 hg w8 hbox hb; have n0_ := bb_ BK356 hb; have n1_ := Aside0.mk (below_step hb_ hb); have n2_ := Aside0.mk (hbox); have n3_ : Aside0 (w.heap.size ≤ gb357) := gz_; have n4_ : Aside0 (w.heap.size ≤ gb357) := gz_; have n5_ := Aside0.mk ((by rw [hg]; exact Nat.ne_of_lt (blk_lt (g := gb356) (o := .cells #[.slice A0_0 l0_0.length c0_0, .slice A0_1 l0_1.length c0_1, .slice A0_2 l0_2.length c0_2] 34 (0, 0)) (bk_ BK356.out)) : gb356 ≠ gb357)); have n6_ := Aside0.mk ((by rw [hg]; exact Nat.ne_of_gt (blk_lt (g := gb356) (o := .cells #[.slice A0_0 l0_0.length c0_0, .slice A0_1 l0_1.length c0_1, .slice A0_2 l0_2.length c0_2] 34 (0, 0)) (bk_ BK356.out)) : gb357 ≠ gb356)); clear BK356; clear HB; have BK356 := n0_; have HB := n1_; have BK357 := n2_; have GW357 := n3_; have GE357 := n4_; have NB356_357 := n5_; have NB357_356 := n6_; clear n0_ n1_ n2_ n3_ n4_ n5_ n6_; clear hb hbox hg; have hnb9 := NB356_357.out; have hnc9 := NB357_356.out; have hcz10_0 : w8.cell? ⟨gb356, 0, none⟩ = some (.slice A0_0 l0_0.length c0_0) := (blk_cell BK356.out 0).trans rfl; have hcz10_1 : w8.cell? ⟨gb356, 1, none⟩ = some (.slice A0_1 l0_1.length c0_1) := (blk_cell BK356.out 1).trans rfl; have hcz10_2 : w8.cell? ⟨gb356, 2, none⟩ = some (.slice A0_2 l0_2.length c0_2) := (blk_cell BK356.out 2).trans rfl; have hfz10_0 := blk_frozen BK356.out 0; have hfz10_1 := blk_frozen BK356.out 1; have hfz10_2 := blk_frozen BK356.out 2) | ((with_reducible refine gate_dst (N := 23) rfl ?_); (try (refine gate_guard (by rfl) ?_; dsimp only)); refine Kd.R_make (Kd.int .i64) _ 3 rfl (N := 23) rfl 31 _ _ rfl (l0_0.length : Int) rfl rfl Tryd.underlying31 (.int .i64 0) 8 info3 rfl (by decide) (by omega) 0 (ok := fun _ => True) (okp := fun _ => True) rfl (fun _ hk => hk) trivial (of_decide_eq_true as_) (Nat.le_trans (Nat.mul_le_mul_right _ (of_decide_eq_true as_ : (l0_0.length : Int).toNat ≤ 35184372088832)) (by omega)) (Below.refl _ _) (Nat.le_refl _) ?_; intro v359 w11 ho12 hb hg_ hnew_; clear hg_ hnew_; (first | rw [← Ny358.out] at ho12 | (simp only [Int.reduceToNat] at ho12; rw [← Ny358.out] at ho12)); have n0_ := Aside0.mk (Kd.R_lower ho12 (below_size hb_)); have n1_ := bb_ BK356 hb; have n2_ := bb_ BK357 hb; have n3_ := Aside0.mk (below_step hb_ hb); clear BK356; clear BK357; clear HB; have HO360 := n0_; have BK356 := n1_; have BK357 := n2_; have HB := n3_; clear n0_ n1_ n2_ n3_; clear hb ho12; have hcz13_0 : w11.cell? ⟨gb357, 0, none⟩ = some (.slice A1_0 l1_0.length c1_0) := (blk_cell BK357.out 0).trans rfl; have hcz13_1 : w11.cell? ⟨gb357, 1, none⟩ = some (.slice A1_1 l1_1.length c1_1) := (blk_cell BK357.out 1).trans rfl; have hfz13_0 := blk_frozen BK357.out 0; have hfz13_1 := blk_frozen BK357.out 1; have hcz14_0 : w11.cell? ⟨gb356, 0, none⟩ = some (.slice A0_0 l0_0.length c0_0) := (blk_cell BK356.out 0).trans rfl; have hcz14_1 : w11.cell? ⟨gb356, 1, none⟩ = some (.slice A0_1 l0_1.length c0_1) := (blk_cell BK356.out 1).trans rfl; have hcz14_2 : w11.cell? ⟨gb356, 2, none⟩ = some (.slice A0_2 l0_2.length c0_2) := (blk_cell BK356.out 2).trans rfl; have hfz14_0 := blk_frozen BK356.out 0; have hfz14_1 := blk_frozen BK356.out 1; have hfz14_2 := blk_frozen BK356.out 2; obtain ⟨Ao15, co15, eo15⟩ := Kd.R_slice HO360.out; subst eo15) | (go_at_call 88; (with_reducible refine (spec_l22Safe.calls k _ _ l0_0 _ _ l0_1 _ _ l0_2 _ _ l1_0 _ _ l1_1 (fun k_ => some k_ = (.slice Ao15 y358.length co15 : Value).ownBlock) (.slice Ao15 y358.length co15) y358 t361 w _ ?side1 ?side2 ?side3 ?side4 ?side5 ?side6 ?side7 ?side8 ?side9 ?side10 ?side11 ?side12 A6.out).mono ?_); (case side1 => repeat (first | (with_reducible first | exact HB.out | apply below_alloc | apply pw_below_drewN | apply below_drew1 | refine below_set ?_ GE356.out | refine below_set ?_ GE357.out) | exact HB.out)); (case side2 => exact Kd.C_kept_came Kd.heap_string HR0_0.out hb_ (fun k_ hs_ => (fun e_ => Kd.R_base HO360.out k_ e_.symm) hs_)); (case side3 => exact HC0_0.out); (case side4 => exact Kd.C_kept_came Kd.heap_bool HR0_1.out hb_ (fun k_ hs_ => (fun e_ => Kd.R_base HO360.out k_ e_.symm) hs_)); (case side5 => exact HC0_1.out); (case side6 => exact Kd.C_kept_came (Kd.heap_slice 3 (Kd.heap_int .i64)) HR0_2.out hb_ (fun k_ hs_ => (fun e_ => Kd.R_base HO360.out k_ e_.symm) hs_)); (case side7 => exact HC0_2.out); (case side8 => exact Kd.C_kept_came Kd.heap_string HR1_0.out hb_ (fun k_ hs_ => (fun e_ => Kd.R_base HO360.out k_ e_.symm) hs_)); (case side9 => exact HC1_0.out); (case side10 => exact Kd.C_kept_came Kd.heap_string HR1_1.out hb_ (fun k_ hs_ => (fun e_ => Kd.R_base HO360.out k_ e_.symm) hs_)); (case side11 => exact HC1_1.out); (case side12 => exact Kd.R_tight rfl HO360.out); rintro e w16 ⟨rfl, hy0, hb, hkp⟩; have n0_ := Aside0.mk (blk_kept (bk_ BK356.out) hkp (fun hs_ => (fun e_ => (Kd.R_ne HO360.out BK356.out (by decide)) e_) hs_)); have n1_ := Aside0.mk (blk_kept (bk_ BK357.out) hkp (fun hs_ => (fun e_ => (Kd.R_ne HO360.out BK357.out (by decide)) e_) hs_)); have n2_ := Aside0.mk (Kd.R_reok rfl hy0 (fun k_ e_ => HO360.out.1 k_ e_)); have n3_ := Aside0.mk (hb); clear BK356; clear BK357; clear HO360; clear HB; have BK356 := n0_; have BK357 := n1_; have HO360 := n2_; have HB := n3_; clear n0_ n1_ n2_ n3_; (try clear hb); (try clear hkp); (try clear hy0))))
     go_ret
     exact ⟨_, er_, by (with_reducible repeat (first | apply Kd.R_alloc | apply Kd.R_drewN | apply Kd.R_drew)); exact HO360.out, hb_⟩
    ·rw [if_neg c5] at H
     have c5b0 : ((l1_0.length : Int) == 0) = false := beq_eq_false_iff_ne.mpr c5
     have c5b1 : ((l1_0.length : Int) != 0) = true := bne_iff_ne.mpr c5
     have c5b2 : ¬ (l1_0 = []) := fun h_ => c5 (by rw [h_]; rfl)
     have H' := Aside0.mk H
     clear H
     go_enter Tryd.func51, Tryd.ntmps51
     go_wp2_with (first | ((with_reducible refine gate_dst (N := 2) rfl ?_); (try (refine gate_guard (by rfl) ?_; dsimp only)); refine box_event ?hg (N := 2) ?hd (cs := #[.slice A0_0 l0_0.length c0_0, .slice A0_1 l0_1.length c0_1, .slice A0_2 l0_2.length c0_2]) (t := 34) ?hr ?_; (case hd => rfl); (case hg => rfl); (case hr => first | (go_simp; done) | (go_simp; rfl)); intro gb356 hg w17 hbox hb; have n0_ := Aside0.mk (below_step hb_ hb); have n1_ := Aside0.mk (hbox); have n2_ : Aside0 (w.heap.size ≤ gb356) := gz_; have n3_ : Aside0 (w.heap.size ≤ gb356) := gz_; clear HB; have HB := n0_; have BK356 := n1_; have GW356 := n2_; have GE356 := n3_; clear n0_ n1_ n2_ n3_; clear hb hbox hg) | ((with_reducible refine gate_dst (N := 3) rfl ?_); (try (refine gate_guard (by rfl) ?_; dsimp only)); refine box_event ?hg (N := 3) ?hd (cs := #[.slice A1_0 l1_0.length c1_0, .slice A1_1 l1_1.length c1_1]) (t := 36) ?hr ?_; (case hd => rfl); (case hg => rfl); (case hr => first | (go_simp; done) | (go_simp; rfl)); intro gb357 hg w18 hbox hb; have n0_ := bb_ BK356 hb; have n1_ := Aside0.mk (below_step hb_ hb); have n2_ := Aside0.mk (hbox); have n3_ : Aside0 (w.heap.size ≤ gb357) := gz_; have n4_ : Aside0 (w.heap.size ≤ gb357) := gz_; have n5_ := Aside0.mk ((by rw [hg]; exact Nat.ne_of_lt (blk_lt (g := gb356) (o := .cells #[.slice A0_0 l0_0.length c0_0, .slice A0_1 l0_1.length c0_1, .slice A0_2 l0_2.length c0_2] 34 (0, 0)) (bk_ BK356.out)) : gb356 ≠ gb357)); have n6_ := Aside0.mk ((by rw [hg]; exact Nat.ne_of_gt (blk_lt (g := gb356) (o := .cells #[.slice A0_0 l0_0.length c0_0, .slice A0_1 l0_1.length c0_1, .slice A0_2 l0_2.length c0_2] 34 (0, 0)) (bk_ BK356.out)) : gb357 ≠ gb356)); clear BK356; clear HB; have BK356 := n0_; have HB := n1_; have BK357 := n2_; have GW357 := n3_; have GE357 := n4_; have NB356_357 := n5_; have NB357_356 := n6_; clear n0_ n1_ n2_ n3_ n4_ n5_ n6_; clear hb hbox hg; have hnb19 := NB356_357.out; have hnc19 := NB357_356.out; have hcz20_0 : w18.cell? ⟨gb356, 0, none⟩ = some (.slice A0_0 l0_0.length c0_0) := (blk_cell BK356.out 0).trans rfl; have hcz20_1 : w18.cell? ⟨gb356, 1, none⟩ = some (.slice A0_1 l0_1.length c0_1) := (blk_cell BK356.out 1).trans rfl; have hcz20_2 : w18.cell? ⟨gb356, 2, none⟩ = some (.slice A0_2 l0_2.length c0_2) := (blk_cell BK356.out 2).trans rfl; have hfz20_0 := blk_frozen BK356.out 0; have hfz20_1 := blk_frozen BK356.out 1; have hfz20_2 := blk_frozen BK356.out 2) | ((with_reducible refine gate_dst (N := 23) rfl ?_); (try (refine gate_guard (by rfl) ?_; dsimp only)); refine Kd.R_make (Kd.int .i64) _ 3 rfl (N := 23) rfl 31 _ _ rfl (l0_0.length : Int) rfl rfl Tryd.underlying31 (.int .i64 0) 8 info3 rfl (by decide) (by omega) 0 (ok := fun _ => True) (okp := fun _ => True) rfl (fun _ hk => hk) trivial (of_decide_eq_true as_) (Nat.le_trans (Nat.mul_le_mul_right _ (of_decide_eq_true as_ : (l0_0.length : Int).toNat ≤ 35184372088832)) (by omega)) (Below.refl _ _) (Nat.le_refl _) ?_; intro v359 w21 ho22 hb hg_ hnew_; clear hg_ hnew_; (first | rw [← Ny358.out] at ho22 | (simp only [Int.reduceToNat] at ho22; rw [← Ny358.out] at ho22)); have n0_ := Aside0.mk (Kd.R_lower ho22 (below_size hb_)); have n1_ := bb_ BK356 hb; have n2_ := bb_ BK357 hb; have n3_ := Aside0.mk (below_step hb_ hb); clear BK356; clear BK357; clear HB; have HO360 := n0_; have BK356 := n1_; have BK357 := n2_; have HB := n3_; clear n0_ n1_ n2_ n3_; clear hb ho22; have hcz23_0 : w21.cell? ⟨gb357, 0, none⟩ = some (.slice A1_0 l1_0.length c1_0) := (blk_cell BK357.out 0).trans rfl; have hcz23_1 : w21.cell? ⟨gb357, 1, none⟩ = some (.slice A1_1 l1_1.length c1_1) := (blk_cell BK357.out 1).trans rfl; have hfz23_0 := blk_frozen BK357.out 0; have hfz23_1 := blk_frozen BK357.out 1; have hcz24_0 : w21.cell? ⟨gb356, 0, none⟩ = some (.slice A0_0 l0_0.length c0_0) := (blk_cell BK356.out 0).trans rfl; have hcz24_1 : w21.cell? ⟨gb356, 1, none⟩ = some (.slice A0_1 l0_1.length c0_1) := (blk_cell BK356.out 1).trans rfl; have hcz24_2 : w21.cell? ⟨gb356, 2, none⟩ = some (.slice A0_2 l0_2.length c0_2) := (blk_cell BK356.out 2).trans rfl; have hfz24_0 := blk_frozen BK356.out 0; have hfz24_1 := blk_frozen BK356.out 1; have hfz24_2 := blk_frozen BK356.out 2))
     repeat (go_quiet (first | ((with_reducible refine gate_dst (N := 2) rfl ?_); (try (refine gate_guard (by rfl) ?_; dsimp only)); refine box_event ?hg (N := 2) ?hd (cs := #[.slice A0_0 l0_0.length c0_0, .slice A0_1 l0_1.length c0_1, .slice A0_2 l0_2.length c0_2]) (t := 34) ?hr ?_; (case hd => rfl); (case hg => rfl); (case hr => first | (go_simp; done) | (go_simp; rfl)); intro gb356 hg w17 hbox hb; have n0_ := Aside0.mk (below_step hb_ hb); have n1_ := Aside0.mk (hbox); have n2_ : Aside0 (w.heap.size ≤ gb356) := gz_; have n3_ : Aside0 (w.heap.size ≤ gb356) := gz_; clear HB; have HB := n0_; have BK356 := n1_; have GW356 := n2_; have GE356 := n3_; clear n0_ n1_ n2_ n3_; clear hb hbox hg) | ((with_reducible refine gate_dst (N := 3) rfl ?_); (try (refine gate_guard (by rfl) ?_; dsimp only)); refine box_event ?hg (N := 3) ?hd (cs := #[.slice A1_0 l1_0.length c1_0, .slice A1_1 l1_1.length c1_1]) (t := 36) ?hr ?_; (case hd => rfl); (case hg => rfl); (case hr => first | (go_simp; done) | (go_simp; rfl)); intro gb357 hg w18 hbox hb; have n0_ := bb_ BK356 hb; have n1_ := Aside0.mk (below_step hb_ hb); have n2_ := Aside0.mk (hbox); have n3_ : Aside0 (w.heap.size ≤ gb357) := gz_; have n4_ : Aside0 (w.heap.size ≤ gb357) := gz_; have n5_ := Aside0.mk ((by rw [hg]; exact Nat.ne_of_lt (blk_lt (g := gb356) (o := .cells #[.slice A0_0 l0_0.length c0_0, .slice A0_1 l0_1.length c0_1, .slice A0_2 l0_2.length c0_2] 34 (0, 0)) (bk_ BK356.out)) : gb356 ≠ gb357)); have n6_ := Aside0.mk ((by rw [hg]; exact Nat.ne_of_gt (blk_lt (g := gb356) (o := .cells #[.slice A0_0 l0_0.length c0_0, .slice A0_1 l0_1.length c0_1, .slice A0_2 l0_2.length c0_2] 34 (0, 0)) (bk_ BK356.out)) : gb357 ≠ gb356)); clear BK356; clear HB; have BK356 := n0_; have HB := n1_; have BK357 := n2_; have GW357 := n3_; have GE357 := n4_; have NB356_357 := n5_; have NB357_356 := n6_; clear n0_ n1_ n2_ n3_ n4_ n5_ n6_; clear hb hbox hg; have hnb19 := NB356_357.out; have hnc19 := NB357_356.out; have hcz20_0 : w18.cell? ⟨gb356, 0, none⟩ = some (.slice A0_0 l0_0.length c0_0) := (blk_cell BK356.out 0).trans rfl; have hcz20_1 : w18.cell? ⟨gb356, 1, none⟩ = some (.slice A0_1 l0_1.length c0_1) := (blk_cell BK356.out 1).trans rfl; have hcz20_2 : w18.cell? ⟨gb356, 2, none⟩ = some (.slice A0_2 l0_2.length c0_2) := (blk_cell BK356.out 2).trans rfl; have hfz20_0 := blk_frozen BK356.out 0; have hfz20_1 := blk_frozen BK356.out 1; have hfz20_2 := blk_frozen BK356.out 2) | ((with_reducible refine gate_dst (N := 23) rfl ?_); (try (refine gate_guard (by rfl) ?_; dsimp only)); refine Kd.R_make (Kd.int .i64) _ 3 rfl (N := 23) rfl 31 _ _ rfl (l0_0.length : Int) rfl rfl Tryd.underlying31 (.int .i64 0) 8 info3 rfl (by decide) (by omega) 0 (ok := fun _ => True) (okp := fun _ => True) rfl (fun _ hk => hk) trivial (of_decide_eq_true as_) (Nat.le_trans (Nat.mul_le_mul_right _ (of_decide_eq_true as_ : (l0_0.length : Int).toNat ≤ 35184372088832)) (by omega)) (Below.refl _ _) (Nat.le_refl _) ?_; intro v359 w21 ho22 hb hg_ hnew_; clear hg_ hnew_; (first | rw [← Ny358.out] at ho22 | (simp only [Int.reduceToNat] at ho22; rw [← Ny358.out] at ho22)); have n0_ := Aside0.mk (Kd.R_lower ho22 (below_size hb_)); have n1_ := bb_ BK356 hb; have n2_ := bb_ BK357 hb; have n3_ := Aside0.mk (below_step hb_ hb); clear BK356; clear BK357; clear HB; have HO360 := n0_; have BK356 := n1_; have BK357 := n2_; have HB := n3_; clear n0_ n1_ n2_ n3_; clear hb ho22; have hcz23_0 : w21.cell? ⟨gb357, 0, none⟩ = some (.slice A1_0 l1_0.length c1_0) := (blk_cell BK357.out 0).trans rfl; have hcz23_1 : w21.cell? ⟨gb357, 1, none⟩ = some (.slice A1_1 l1_1.length c1_1) := (blk_cell BK357.out 1).trans rfl; have hfz23_0 := blk_frozen BK357.out 0; have hfz23_1 := blk_frozen BK357.out 1; have hcz24_0 : w21.cell? ⟨gb356, 0, none⟩ = some (.slice A0_0 l0_0.length c0_0) := (blk_cell BK356.out 0).trans rfl; have hcz24_1 : w21.cell? ⟨gb356, 1, none⟩ = some (.slice A0_1 l0_1.length c0_1) := (blk_cell BK356.out 1).trans rfl; have hcz24_2 : w21.cell? ⟨gb356, 2, none⟩ = some (.slice A0_2 l0_2.length c0_2) := (blk_cell BK356.out 2).trans rfl; have hfz24_0 := blk_frozen BK356.out 0; have hfz24_1 := blk_frozen BK356.out 1; have hfz24_2 := blk_frozen BK356.out 2)); try go_wp2_with (first | ((with_reducible refine gate_dst (N := 2) rfl ?_); (try (refine gate_guard (by rfl) ?_; dsimp only)); refine box_event ?hg (N := 2) ?hd (cs := #[.slice A0_0 l0_0.length c0_0, .slice A0_1 l0_1.length c0_1, .slice A0_2 l0_2.length c0_2]) (t := 34) ?hr ?_; (case hd => rfl); (case hg => rfl); (case hr => first | (go_simp; done) | (go_simp; rfl)); intro gb356 hg w17 hbox hb; have n0_ := Aside0.mk (below_step hb_ hb); have n1_ := Aside0.mk (hbox); have n2_ : Aside0 (w.heap.size ≤ gb356) := gz_; have n3_ : Aside0 (w.heap.size ≤ gb356) := gz_; clear HB; have HB := n0_; have BK356 := n1_; have GW356 := n2_; have GE356 := n3_; clear n0_ n1_ n2_ n3_; clear hb hbox hg) | ((with_reducible refine gate_dst (N := 3) rfl ?_); (try (refine gate_guard (by rfl) ?_; dsimp only)); refine box_event ?hg (N := 3) ?hd (cs := #[.slice A1_0 l1_0.length c1_0, .slice A1_1 l1_1.length c1_1]) (t := 36) ?hr ?_; (case hd => rfl); (case hg => rfl); (case hr => first | (go_simp; done) | (go_simp; rfl)); intro gb357 hg w18 hbox hb; have n0_ := bb_ BK356 hb; have n1_ := Aside0.mk (below_step hb_ hb); have n2_ := Aside0.mk (hbox); have n3_ : Aside0 (w.heap.size ≤ gb357) := gz_; have n4_ : Aside0 (w.heap.size ≤ gb357) := gz_; have n5_ := Aside0.mk ((by rw [hg]; exact Nat.ne_of_lt (blk_lt (g := gb356) (o := .cells #[.slice A0_0 l0_0.length c0_0, .slice A0_1 l0_1.length c0_1, .slice A0_2 l0_2.length c0_2] 34 (0, 0)) (bk_ BK356.out)) : gb356 ≠ gb357)); have n6_ := Aside0.mk ((by rw [hg]; exact Nat.ne_of_gt (blk_lt (g := gb356) (o := .cells #[.slice A0_0 l0_0.length c0_0, .slice A0_1 l0_1.length c0_1, .slice A0_2 l0_2.length c0_2] 34 (0, 0)) (bk_ BK356.out)) : gb357 ≠ gb356)); clear BK356; clear HB; have BK356 := n0_; have HB := n1_; have BK357 := n2_; have GW357 := n3_; have GE357 := n4_; have NB356_357 := n5_; have NB357_356 := n6_; clear n0_ n1_ n2_ n3_ n4_ n5_ n6_; clear hb hbox hg; have hnb19 := NB356_357.out; have hnc19 := NB357_356.out; have hcz20_0 : w18.cell? ⟨gb356, 0, none⟩ = some (.slice A0_0 l0_0.length c0_0) := (blk_cell BK356.out 0).trans rfl; have hcz20_1 : w18.cell? ⟨gb356, 1, none⟩ = some (.slice A0_1 l0_1.length c0_1) := (blk_cell BK356.out 1).trans rfl; have hcz20_2 : w18.cell? ⟨gb356, 2, none⟩ = some (.slice A0_2 l0_2.length c0_2) := (blk_cell BK356.out 2).trans rfl; have hfz20_0 := blk_frozen BK356.out 0; have hfz20_1 := blk_frozen BK356.out 1; have hfz20_2 := blk_frozen BK356.out 2) | ((with_reducible refine gate_dst (N := 23) rfl ?_); (try (refine gate_guard (by rfl) ?_; dsimp only)); refine Kd.R_make (Kd.int .i64) _ 3 rfl (N := 23) rfl 31 _ _ rfl (l0_0.length : Int) rfl rfl Tryd.underlying31 (.int .i64 0) 8 info3 rfl (by decide) (by omega) 0 (ok := fun _ => True) (okp := fun _ => True) rfl (fun _ hk => hk) trivial (of_decide_eq_true as_) (Nat.le_trans (Nat.mul_le_mul_right _ (of_decide_eq_true as_ : (l0_0.length : Int).toNat ≤ 35184372088832)) (by omega)) (Below.refl _ _) (Nat.le_refl _) ?_; intro v359 w21 ho22 hb hg_ hnew_; clear hg_ hnew_; (first | rw [← Ny358.out] at ho22 | (simp only [Int.reduceToNat] at ho22; rw [← Ny358.out] at ho22)); have n0_ := Aside0.mk (Kd.R_lower ho22 (below_size hb_)); have n1_ := bb_ BK356 hb; have n2_ := bb_ BK357 hb; have n3_ := Aside0.mk (below_step hb_ hb); clear BK356; clear BK357; clear HB; have HO360 := n0_; have BK356 := n1_; have BK357 := n2_; have HB := n3_; clear n0_ n1_ n2_ n3_; clear hb ho22; have hcz23_0 : w21.cell? ⟨gb357, 0, none⟩ = some (.slice A1_0 l1_0.length c1_0) := (blk_cell BK357.out 0).trans rfl; have hcz23_1 : w21.cell? ⟨gb357, 1, none⟩ = some (.slice A1_1 l1_1.length c1_1) := (blk_cell BK357.out 1).trans rfl; have hfz23_0 := blk_frozen BK357.out 0; have hfz23_1 := blk_frozen BK357.out 1; have hcz24_0 : w21.cell? ⟨gb356, 0, none⟩ = some (.slice A0_0 l0_0.length c0_0) := (blk_cell BK356.out 0).trans rfl; have hcz24_1 : w21.cell? ⟨gb356, 1, none⟩ = some (.slice A0_1 l0_1.length c0_1) := (blk_cell BK356.out 1).trans rfl; have hcz24_2 : w21.cell? ⟨gb356, 2, none⟩ = some (.slice A0_2 l0_2.length c0_2) := (blk_cell BK356.out 2).trans rfl; have hfz24_0 := blk_frozen BK356.out 0; have hfz24_1 := blk_frozen BK356.out 1; have hfz24_2 := blk_frozen BK356.out 2)))
     go_loopg [36] k (fun kq v36 w' => ∃ (x6_1 : List Int) (x36_1 : Int), v36 = .int .i64 x36_1 ∧ Aside0 (spec_l22Ranks.l0 kq (l0_0.length : Int) x6_1 l0_0 (l0_0.length : Int) x36_1 l0_0 l0_1 l0_2 l1_0 l1_1 = some r) ∧ Aside0 (kq ≤ k) ∧ Aside0 (Kd.R (Kd.int .i64) 3 w' w.heap.size (fun _ => True) v359 x6_1) ∧ Aside0 (w'.heap[gb356]? = some (.cells #[(.slice A0_0 l0_0.length c0_0), (.slice A0_1 l0_1.length c0_1), (.slice A0_2 l0_2.length c0_2)] 34 (0, 0))) ∧ Aside0 (w'.heap[gb357]? = some (.cells #[(.slice A1_0 l1_0.length c1_0), (.slice A1_1 l1_1.length c1_1)] 36 (0, 0))) ∧ Aside0 (Below w.heap.size w w'))
     case atStart => exact ⟨(y358), (0), es_, H', ⟨Nat.le_refl _⟩, ⟨ra_ HO360.out⟩, ⟨bk_ BK356.out⟩, ⟨bk_ BK357.out⟩, ⟨hb_⟩⟩
     case round =>
      clear H'
      obtain ⟨x6_1, x36_1, rfl, HA, HK1, HO_6, BK356, BK357, HB⟩ := hrel
      cases gk with
      | zero => exact absurd HA.out (by simp [spec_l22Ranks.l0])
      | succ k1 =>
       have H := HA.out
       clear HA
       simp only [spec_l22Ranks.l0] at H
       by_cases c25 : x36_1 < (l0_0.length : Int)
       ·rw [if_pos c25] at H
        have c25b0 : decide (x36_1 < (l0_0.length : Int)) = true := decide_eq_true c25
        clear c25
        by_cases c26 : 0 ≤ x36_1
        ·rw [if_pos c26] at H
         have c26b0 : decide (0 ≤ x36_1) = true := decide_eq_true c26
         clear c26
         by_cases c27 : x36_1 < (l0_0.length : Int)
         ·rw [if_pos c27] at H
          have c27b0 : decide (x36_1 < (l0_0.length : Int)) = true := decide_eq_true c27
          clear c27
          by_cases c28 : x36_1 < (x6_1.length : Int)
          ·rw [if_pos c28] at H
           have c28b0 : decide (x36_1 < (x6_1.length : Int)) = true := decide_eq_true c28
           clear c28
           obtain ⟨y363, hy363⟩ : ∃ y_ : List Int, y_ = (x6_1.set (x36_1 : Int).toNat (-1)) := ⟨_, rfl⟩
           replace H : ((spec_l22In.f k1 l1_0 (rdOf ByteArray.empty l0_0 x36_1)).bind fun t364 => (if t364 = true then ((spec_l22In.f k1 l1_1 (rdOf ByteArray.empty l0_0 x36_1)).bind fun t365 => (if t365 = true then (spec_l22Ranks.l0 k1 (l0_0.length : Int) y363 l0_0 (l0_0.length : Int) (wrap64 (x36_1 + 1)) l0_0 l0_1 l0_2 l1_0 l1_1) else (spec_l22Ranks.l0 k1 (l0_0.length : Int) (y363.set (x36_1 : Int).toNat 0) l0_0 (l0_0.length : Int) (wrap64 (x36_1 + 1)) l0_0 l0_1 l0_2 l1_0 l1_1))) else (spec_l22Ranks.l0 k1 (l0_0.length : Int) y363 l0_0 (l0_0.length : Int) (wrap64 (x36_1 + 1)) l0_0 l0_1 l0_2 l1_0 l1_1))) = some r := by first | (rw [hy363]; with_reducible exact H) | (have H2_ := (Option.bind_some _ _).symm.trans H; rw [hy363]; with_reducible exact H2_) | (have H2_ := (Option.bind_some _ _).symm.trans H; with_reducible exact H2_) | with_reducible exact H | (rw [hy363]; exact H) | exact H
           have Ny363 := Aside0.mk hy363
           clear hy363
           replace H := Option.bind_eq_some_iff.mp H
           obtain ⟨t364, A300, H⟩ := H
           replace H : (if t364 = true then ((spec_l22In.f k1 l1_1 (rdOf ByteArray.empty l0_0 x36_1)).bind fun t365 => (if t365 = true then (spec_l22Ranks.l0 k1 (l0_0.length : Int) y363 l0_0 (l0_0.length : Int) (wrap64 (x36_1 + 1)) l0_0 l0_1 l0_2 l1_0 l1_1) else (spec_l22Ranks.l0 k1 (l0_0.length : Int) (y363.set (x36_1 : Int).toNat 0) l0_0 (l0_0.length : Int) (wrap64 (x36_1 + 1)) l0_0 l0_1 l0_2 l1_0 l1_1))) else (spec_l22Ranks.l0 k1 (l0_0.length : Int) y363 l0_0 (l0_0.length : Int) (wrap64 (x36_1 + 1)) l0_0 l0_1 l0_2 l1_0 l1_1)) = some r := H
           have A30 := Aside0.mk A300
           clear A300
           by_cases c31 : t364 = true
           ·subst c31
            rw [if_pos rfl] at H
            replace H := Option.bind_eq_some_iff.mp H
            obtain ⟨t365, A320, H⟩ := H
            replace H : (if t365 = true then (spec_l22Ranks.l0 k1 (l0_0.length : Int) y363 l0_0 (l0_0.length : Int) (wrap64 (x36_1 + 1)) l0_0 l0_1 l0_2 l1_0 l1_1) else (spec_l22Ranks.l0 k1 (l0_0.length : Int) (y363.set (x36_1 : Int).toNat 0) l0_0 (l0_0.length : Int) (wrap64 (x36_1 + 1)) l0_0 l0_1 l0_2 l1_0 l1_1)) = some r := H
            have A32 := Aside0.mk A320
            clear A320
            by_cases c33 : t365 = true
            ·subst c33
             rw [if_pos rfl] at H
             have H' := Aside0.mk H
             clear H
             have p362 : 0 ≤ (x36_1 : Int) := of_decide_eq_true as_
             have q362 : x36_1 < (l0_0.length : Int) := of_decide_eq_true as_
             obtain ⟨ad362, e362, hx362_0⟩ := Kd.at_string HR0_0.out x36_1 p362 q362
             cases e362
             (try replace hx362_0 := hc_ HB hx362_0)
             replace p362 := eq_true p362
             replace q362 := eq_true q362
             have p29 : 0 ≤ (x36_1 : Int) := of_decide_eq_true as_
             have q29 : (x36_1 : Int) < ((x6_1.length : Int) : Int) := of_decide_eq_true as_
             obtain ⟨go29, co29, eo29, gb29, gl29, cl29, HG29⟩ := Kd.R_form HO_6.out (by omega)
             (first | cases eo29 | (injection eo29 with ea_ en_ ec_; (first | subst ea_ | (injection ea_ with ea_; subst ea_)); subst ec_; clear en_))
             have GB29 := Aside0.mk gb29
             have GG29 := Aside0.mk HG29
             clear gb29 gl29 HG29
             obtain ⟨hx29_0, hf29_0⟩ := Kd.R_celln 0 HO_6.out (x36_1 : Int) p29 q29
             replace p29 := eq_true p29
             replace q29 := eq_true q29
             have HP34 := Kd.R_putg HO_6.out (x36_1 : Int) (-1)
             go_wp2_with (first | ((with_reducible refine gate_store (t := 3) (p := 43) rfl ?_); (try (rw [drewN_self wr]; generalize hq_ : World.drewN wr _ = wr; have n0_ := Aside0.mk (Kd.R_at hq_ HO_6.out); have n1_ := Aside0.mk (blk_at hq_ BK356.out); have n2_ := Aside0.mk (blk_at hq_ BK357.out); have n3_ := Aside0.mk (below_at hq_ HB.out); clear hq_ HO_6 BK356 BK357 HB; have HO_6 := n0_; have BK356 := n1_; have BK357 := n2_; have HB := n3_; clear n0_ n1_ n2_ n3_; (try (have HP34 := Kd.R_putg HO_6.out (x36_1 : Int) (-1))))); refine store_event (t := 3) (p := 43) (v := ?vo_w35) (w1 := (wr.setCell ⟨go29, (x36_1 : Int).toNat, none⟩ (.int .i64 (-1)))) ?hg ?ho ?hn ?hr ?_; (case ho => rfl); (case hg => rfl); (case hn => rfl); (case hr => first | (go_simp; done) | (go_simp; rfl)); intro w35 hw; have hg : wr.grownBy w35 (some go29) := (by rw [hw]; exact HP34.2); have hp_ : Kd.R (Kd.int .i64) 3 w35 w.heap.size (fun _ => True) (.slice (some ⟨go29, 0, none⟩) x6_1.length co29) y363 := (by rw [hw, Ny363.out]; exact HP34.1); clear HP34; have n0_ := Aside0.mk (hp_); have n1_ := Aside0.mk (blk_grown (g := gb356) (o := .cells #[.slice (some ad362) l0_0.length c0_0, .slice A0_1 l0_1.length c0_1, .slice A0_2 l0_2.length c0_2] 34 (0, 0)) (bk_ BK356.out) hg (Kd.R_ne HO_6.out BK356.out (by decide))); have n2_ := Aside0.mk (blk_grown (g := gb357) (o := .cells #[.slice A1_0 l1_0.length c1_0, .slice A1_1 l1_1.length c1_1] 36 (0, 0)) (bk_ BK357.out) hg (Kd.R_ne HO_6.out BK357.out (by decide))); have n3_ := Aside0.mk ((by rw [hw]; exact below_set (HB.out) GB29.out : Below w.heap.size w w35)); clear HO_6; clear BK356; clear BK357; clear HB; have HO_6 := n0_; have BK356 := n1_; have BK357 := n2_; have HB := n3_; clear n0_ n1_ n2_ n3_; clear hg hw hp_; have hnb36 := NB357_356.out; have hnc36 := NB356_357.out; have hcz37_0 : w35.cell? ⟨gb357, 0, none⟩ = some (.slice A1_0 l1_0.length c1_0) := (blk_cell BK357.out 0).trans rfl; have hcz37_1 : w35.cell? ⟨gb357, 1, none⟩ = some (.slice A1_1 l1_1.length c1_1) := (blk_cell BK357.out 1).trans rfl; have hfz37_0 := blk_frozen BK357.out 0; have hfz37_1 := blk_frozen BK357.out 1) | (go_at_call 68; (with_reducible refine (spec_l22In.calls k1 _ _ l1_0 (rdOf ByteArray.empty l0_0 x36_1) true _ ?side1 ?side2 A30.out).mono ?_); (case side1 => exact cb_ HR1_0.out); (case side2 => exact HC1_0.out); rintro e w' ⟨rfl, ⟨nd, rfl⟩⟩; (try first | exact ⟨rfl, _, World.drewN_drewN _ _ _⟩ | exact ⟨rfl, _, Eq.trans (World.drewN_drewN _ _ _) (congrArg (World.drewN _) (Nat.add_assoc _ _ _))⟩)) | (go_at_call 68; (with_reducible refine (spec_l22In.calls k1 _ _ l1_1 (rdOf ByteArray.empty l0_0 x36_1) true _ ?side1 ?side2 A32.out).mono ?_); (case side1 => repeat (first | exact (Kd.C_below HR1_1.out hb_) | (with_reducible refine Kd.C_alloc ?_ _) | (with_reducible refine Kd.C_drewN ?_ _) | (with_reducible refine Kd.C_drew ?_))); (case side2 => exact HC1_1.out); rintro e w' ⟨rfl, ⟨nd, rfl⟩⟩; (try first | exact ⟨rfl, _, World.drewN_drewN _ _ _⟩ | exact ⟨rfl, _, Eq.trans (World.drewN_drewN _ _ _) (congrArg (World.drewN _) (Nat.add_assoc _ _ _))⟩)))
             repeat (go_quiet (first | ((with_reducible refine gate_store (t := 3) (p := 43) rfl ?_); (try (rw [drewN_self wr]; generalize hq_ : World.drewN wr _ = wr; have n0_ := Aside0.mk (Kd.R_at hq_ HO_6.out); have n1_ := Aside0.mk (blk_at hq_ BK356.out); have n2_ := Aside0.mk (blk_at hq_ BK357.out); have n3_ := Aside0.mk (below_at hq_ HB.out); clear hq_ HO_6 BK356 BK357 HB; have HO_6 := n0_; have BK356 := n1_; have BK357 := n2_; have HB := n3_; clear n0_ n1_ n2_ n3_; (try (have HP34 := Kd.R_putg HO_6.out (x36_1 : Int) (-1))))); refine store_event (t := 3) (p := 43) (v := ?vo_w35) (w1 := (wr.setCell ⟨go29, (x36_1 : Int).toNat, none⟩ (.int .i64 (-1)))) ?hg ?ho ?hn ?hr ?_; (case ho => rfl); (case hg => rfl); (case hn => rfl); (case hr => first | (go_simp; done) | (go_simp; rfl)); intro w35 hw; have hg : wr.grownBy w35 (some go29) := (by rw [hw]; exact HP34.2); have hp_ : Kd.R (Kd.int .i64) 3 w35 w.heap.size (fun _ => True) (.slice (some ⟨go29, 0, none⟩) x6_1.length co29) y363 := (by rw [hw, Ny363.out]; exact HP34.1); clear HP34; have n0_ := Aside0.mk (hp_); have n1_ := Aside0.mk (blk_grown (g := gb356) (o := .cells #[.slice (some ad362) l0_0.length c0_0, .slice A0_1 l0_1.length c0_1, .slice A0_2 l0_2.length c0_2] 34 (0, 0)) (bk_ BK356.out) hg (Kd.R_ne HO_6.out BK356.out (by decide))); have n2_ := Aside0.mk (blk_grown (g := gb357) (o := .cells #[.slice A1_0 l1_0.length c1_0, .slice A1_1 l1_1.length c1_1] 36 (0, 0)) (bk_ BK357.out) hg (Kd.R_ne HO_6.out BK357.out (by decide))); have n3_ := Aside0.mk ((by rw [hw]; exact below_set (HB.out) GB29.out : Below w.heap.size w w35)); clear HO_6; clear BK356; clear BK357; clear HB; have HO_6 := n0_; have BK356 := n1_; have BK357 := n2_; have HB := n3_; clear n0_ n1_ n2_ n3_; clear hg hw hp_; have hnb36 := NB357_356.out; have hnc36 := NB356_357.out; have hcz37_0 : w35.cell? ⟨gb357, 0, none⟩ = some (.slice A1_0 l1_0.length c1_0) := (blk_cell BK357.out 0).trans rfl; have hcz37_1 : w35.cell? ⟨gb357, 1, none⟩ = some (.slice A1_1 l1_1.length c1_1) := (blk_cell BK357.out 1).trans rfl; have hfz37_0 := blk_frozen BK357.out 0; have hfz37_1 := blk_frozen BK357.out 1) | (go_at_call 68; (with_reducible refine (spec_l22In.calls k1 _ _ l1_0 (rdOf ByteArray.empty l0_0 x36_1) true _ ?side1 ?side2 A30.out).mono ?_); (case side1 => exact cb_ HR1_0.out); (case side2 => exact HC1_0.out); rintro e w' ⟨rfl, ⟨nd, rfl⟩⟩; (try first | exact ⟨rfl, _, World.drewN_drewN _ _ _⟩ | exact ⟨rfl, _, Eq.trans (World.drewN_drewN _ _ _) (congrArg (World.drewN _) (Nat.add_assoc _ _ _))⟩)) | (go_at_call 68; (with_reducible refine (spec_l22In.calls k1 _ _ l1_1 (rdOf ByteArray.empty l0_0 x36_1) true _ ?side1 ?side2 A32.out).mono ?_); (case side1 => repeat (first | exact (Kd.C_below HR1_1.out hb_) | (with_reducible refine Kd.C_alloc ?_ _) | (with_reducible refine Kd.C_drewN ?_ _) | (with_reducible refine Kd.C_drew ?_))); (case side2 => exact HC1_1.out); rintro e w' ⟨rfl, ⟨nd, rfl⟩⟩; (try first | exact ⟨rfl, _, World.drewN_drewN _ _ _⟩ | exact ⟨rfl, _, Eq.trans (World.drewN_drewN _ _ _) (congrArg (World.drewN _) (Nat.add_assoc _ _ _))⟩))); try go_wp2_with (first | ((with_reducible refine gate_store (t := 3) (p := 43) rfl ?_); (try (rw [drewN_self wr]; generalize hq_ : World.drewN wr _ = wr; have n0_ := Aside0.mk (Kd.R_at hq_ HO_6.out); have n1_ := Aside0.mk (blk_at hq_ BK356.out); have n2_ := Aside0.mk (blk_at hq_ BK357.out); have n3_ := Aside0.mk (below_at hq_ HB.out); clear hq_ HO_6 BK356 BK357 HB; have HO_6 := n0_; have BK356 := n1_; have BK357 := n2_; have HB := n3_; clear n0_ n1_ n2_ n3_; (try (have HP34 := Kd.R_putg HO_6.out (x36_1 : Int) (-1))))); refine store_event (t := 3) (p := 43) (v := ?vo_w35) (w1 := (wr.setCell ⟨go29, (x36_1 : Int).toNat, none⟩ (.int .i64 (-1)))) ?hg ?ho ?hn ?hr ?_; (case ho => rfl); (case hg => rfl); (case hn => rfl); (case hr => first | (go_simp; done) | (go_simp; rfl)); intro w35 hw; have hg : wr.grownBy w35 (some go29) := (by rw [hw]; exact HP34.2); have hp_ : Kd.R (Kd.int .i64) 3 w35 w.heap.size (fun _ => True) (.slice (some ⟨go29, 0, none⟩) x6_1.length co29) y363 := (by rw [hw, Ny363.out]; exact HP34.1); clear HP34; have n0_ := Aside0.mk (hp_); have n1_ := Aside0.mk (blk_grown (g := gb356) (o := .cells #[.slice (some ad362) l0_0.length c0_0, .slice A0_1 l0_1.length c0_1, .slice A0_2 l0_2.length c0_2] 34 (0, 0)) (bk_ BK356.out) hg (Kd.R_ne HO_6.out BK356.out (by decide))); have n2_ := Aside0.mk (blk_grown (g := gb357) (o := .cells #[.slice A1_0 l1_0.length c1_0, .slice A1_1 l1_1.length c1_1] 36 (0, 0)) (bk_ BK357.out) hg (Kd.R_ne HO_6.out BK357.out (by decide))); have n3_ := Aside0.mk ((by rw [hw]; exact below_set (HB.out) GB29.out : Below w.heap.size w w35)); clear HO_6; clear BK356; clear BK357; clear HB; have HO_6 := n0_; have BK356 := n1_; have BK357 := n2_; have HB := n3_; clear n0_ n1_ n2_ n3_; clear hg hw hp_; have hnb36 := NB357_356.out; have hnc36 := NB356_357.out; have hcz37_0 : w35.cell? ⟨gb357, 0, none⟩ = some (.slice A1_0 l1_0.length c1_0) := (blk_cell BK357.out 0).trans rfl; have hcz37_1 : w35.cell? ⟨gb357, 1, none⟩ = some (.slice A1_1 l1_1.length c1_1) := (blk_cell BK357.out 1).trans rfl; have hfz37_0 := blk_frozen BK357.out 0; have hfz37_1 := blk_frozen BK357.out 1) | (go_at_call 68; (with_reducible refine (spec_l22In.calls k1 _ _ l1_0 (rdOf ByteArray.empty l0_0 x36_1) true _ ?side1 ?side2 A30.out).mono ?_); (case side1 => exact cb_ HR1_0.out); (case side2 => exact HC1_0.out); rintro e w' ⟨rfl, ⟨nd, rfl⟩⟩; (try first | exact ⟨rfl, _, World.drewN_drewN _ _ _⟩ | exact ⟨rfl, _, Eq.trans (World.drewN_drewN _ _ _) (congrArg (World.drewN _) (Nat.add_assoc _ _ _))⟩)) | (go_at_call 68; (with_reducible refine (spec_l22In.calls k1 _ _ l1_1 (rdOf ByteArray.empty l0_0 x36_1) true _ ?side1 ?side2 A32.out).mono ?_); (case side1 => repeat (first | exact (Kd.C_below HR1_1.out hb_) | (with_reducible refine Kd.C_alloc ?_ _) | (with_reducible refine Kd.C_drewN ?_ _) | (with_reducible refine Kd.C_drew ?_))); (case side2 => exact HC1_1.out); rintro e w' ⟨rfl, ⟨nd, rfl⟩⟩; (try first | exact ⟨rfl, _, World.drewN_drewN _ _ _⟩ | exact ⟨rfl, _, Eq.trans (World.drewN_drewN _ _ _) (congrArg (World.drewN _) (Nat.add_assoc _ _ _))⟩))))
             go_roundg k1
             case measure => have := HK1.out; omega
             case rel => exact ⟨(y363), (wrap64 (x36_1 + 1)), es_, H', ⟨by have := HK1.out; omega⟩, ⟨ra_ HO_6.out⟩, ⟨bk_ BK356.out⟩, ⟨bk_ BK357.out⟩, ⟨hb_⟩⟩
            ·replace c33 := Bool.eq_false_iff.mpr c33
             subst c33
             rw [if_neg (show ¬ (false = true) by decide)] at H
             obtain ⟨y366, hy366⟩ : ∃ y_ : List Int, y_ = (y363.set (x36_1 : Int).toNat 0) := ⟨_, rfl⟩
             replace H : (spec_l22Ranks.l0 k1 (l0_0.length : Int) y366 l0_0 (l0_0.length : Int) (wrap64 (x36_1 + 1)) l0_0 l0_1 l0_2 l1_0 l1_1) = some r := by first | (rw [hy366]; with_reducible exact H) | (have H2_ := (Option.bind_some _ _).symm.trans H; rw [hy366]; with_reducible exact H2_) | (have H2_ := (Option.bind_some _ _).symm.trans H; with_reducible exact H2_) | with_reducible exact H | (rw [hy366]; exact H) | exact H
             have Ny366 := Aside0.mk hy366
             clear hy366
             have H' := Aside0.mk H
             clear H
             have p362 : 0 ≤ (x36_1 : Int) := of_decide_eq_true as_
             have q362 : x36_1 < (l0_0.length : Int) := of_decide_eq_true as_
             obtain ⟨ad362, e362, hx362_0⟩ := Kd.at_string HR0_0.out x36_1 p362 q362
             cases e362
             (try replace hx362_0 := hc_ HB hx362_0)
             replace p362 := eq_true p362
             replace q362 := eq_true q362
             have p29 : 0 ≤ (x36_1 : Int) := of_decide_eq_true as_
             have q29 : (x36_1 : Int) < ((x6_1.length : Int) : Int) := of_decide_eq_true as_
             obtain ⟨go29, co29, eo29, gb29, gl29, cl29, HG29⟩ := Kd.R_form HO_6.out (by omega)
             (first | cases eo29 | (injection eo29 with ea_ en_ ec_; (first | subst ea_ | (injection ea_ with ea_; subst ea_)); subst ec_; clear en_))
             have GB29 := Aside0.mk gb29
             have GG29 := Aside0.mk HG29
             clear gb29 gl29 HG29
             obtain ⟨hx29_0, hf29_0⟩ := Kd.R_celln 0 HO_6.out (x36_1 : Int) p29 q29
             replace p29 := eq_true p29
             replace q29 := eq_true q29
             have HP39 := Kd.R_putg HO_6.out (x36_1 : Int) (-1)
             have p38 : 0 ≤ (x36_1 : Int) := of_decide_eq_true as_; have q38 : (x36_1 : Int) < ((x6_1.length : Int) : Int) := of_decide_eq_true as_; obtain ⟨hx38_0, hf38_0⟩ := Kd.R_celln 0 HO_6.out (x36_1 : Int) p38 q38; replace p38 := eq_true p38; replace q38 := eq_true q38; obtain ⟨hy43_, hz43_⟩ := Kd.R_celln 0 HO_6.out (x36_1 : Int) (of_decide_eq_true as_) (of_decide_eq_true as_); have HP43 := Kd.R_putg HO_6.out (x36_1 : Int) 0
             go_wp2_with (first | ((with_reducible refine gate_store (t := 3) (p := 43) rfl ?_); (try (rw [drewN_self wr]; generalize hq_ : World.drewN wr _ = wr; have n0_ := Aside0.mk (Kd.R_at hq_ HO_6.out); have n1_ := Aside0.mk (blk_at hq_ BK356.out); have n2_ := Aside0.mk (blk_at hq_ BK357.out); have n3_ := Aside0.mk (below_at hq_ HB.out); clear hq_ HO_6 BK356 BK357 HB; have HO_6 := n0_; have BK356 := n1_; have BK357 := n2_; have HB := n3_; clear n0_ n1_ n2_ n3_; (try (have HP39 := Kd.R_putg HO_6.out (x36_1 : Int) (-1))))); refine store_event (t := 3) (p := 43) (v := ?vo_w40) (w1 := (wr.setCell ⟨go29, (x36_1 : Int).toNat, none⟩ (.int .i64 (-1)))) ?hg ?ho ?hn ?hr ?_; (case ho => rfl); (case hg => rfl); (case hn => rfl); (case hr => first | (go_simp; done) | (go_simp; rfl)); intro w40 hw; have hg : wr.grownBy w40 (some go29) := (by rw [hw]; exact HP39.2); have hp_ : Kd.R (Kd.int .i64) 3 w40 w.heap.size (fun _ => True) (.slice (some ⟨go29, 0, none⟩) x6_1.length co29) y363 := (by rw [hw, Ny363.out]; exact HP39.1); clear HP39; have n0_ := Aside0.mk (hp_); have n1_ := Aside0.mk (blk_grown (g := gb356) (o := .cells #[.slice (some ad362) l0_0.length c0_0, .slice A0_1 l0_1.length c0_1, .slice A0_2 l0_2.length c0_2] 34 (0, 0)) (bk_ BK356.out) hg (Kd.R_ne HO_6.out BK356.out (by decide))); have n2_ := Aside0.mk (blk_grown (g := gb357) (o := .cells #[.slice A1_0 l1_0.length c1_0, .slice A1_1 l1_1.length c1_1] 36 (0, 0)) (bk_ BK357.out) hg (Kd.R_ne HO_6.out BK357.out (by decide))); have n3_ := Aside0.mk ((by rw [hw]; exact below_set (HB.out) GB29.out : Below w.heap.size w w40)); clear HO_6; clear BK356; clear BK357; clear HB; have HO_6 := n0_; have BK356 := n1_; have BK357 := n2_; have HB := n3_; clear n0_ n1_ n2_ n3_; clear hg hw hp_; have hnb41 := NB357_356.out; have hnc41 := NB356_357.out; have hcz42_0 : w40.cell? ⟨gb357, 0, none⟩ = some (.slice A1_0 l1_0.length c1_0) := (blk_cell BK357.out 0).trans rfl; have hcz42_1 : w40.cell? ⟨gb357, 1, none⟩ = some (.slice A1_1 l1_1.length c1_1) := (blk_cell BK357.out 1).trans rfl; have hfz42_0 := blk_frozen BK357.out 0; have hfz42_1 := blk_frozen BK357.out 1) | (go_at_call 68; (with_reducible refine (spec_l22In.calls k1 _ _ l1_0 (rdOf ByteArray.empty l0_0 x36_1) true _ ?side1 ?side2 A30.out).mono ?_); (case side1 => exact cb_ HR1_0.out); (case side2 => exact HC1_0.out); rintro e w' ⟨rfl, ⟨nd, rfl⟩⟩; (try first | exact ⟨rfl, _, World.drewN_drewN _ _ _⟩ | exact ⟨rfl, _, Eq.trans (World.drewN_drewN _ _ _) (congrArg (World.drewN _) (Nat.add_assoc _ _ _))⟩)) | (go_at_call 68; (with_reducible refine (spec_l22In.calls k1 _ _ l1_1 (rdOf ByteArray.empty l0_0 x36_1) false _ ?side1 ?side2 A32.out).mono ?_); (case side1 => repeat (first | exact (Kd.C_below HR1_1.out hb_) | (with_reducible refine Kd.C_alloc ?_ _) | (with_reducible refine Kd.C_drewN ?_ _) | (with_reducible refine Kd.C_drew ?_))); (case side2 => exact HC1_1.out); rintro e w' ⟨rfl, ⟨nd, rfl⟩⟩; (try first | exact ⟨rfl, _, World.drewN_drewN _ _ _⟩ | exact ⟨rfl, _, Eq.trans (World.drewN_drewN _ _ _) (congrArg (World.drewN _) (Nat.add_assoc _ _ _))⟩)) | ((with_reducible refine gate_store (t := 3) (p := 57) rfl ?_); (try (rw [drewN_self w40]; generalize hq_ : World.drewN w40 _ = w40; have n0_ := Aside0.mk (Kd.R_at hq_ HO_6.out); have n1_ := Aside0.mk (blk_at hq_ BK356.out); have n2_ := Aside0.mk (blk_at hq_ BK357.out); have n3_ := Aside0.mk (below_at hq_ HB.out); clear hq_ HO_6 BK356 BK357 HB; have HO_6 := n0_; have BK356 := n1_; have BK357 := n2_; have HB := n3_; clear n0_ n1_ n2_ n3_; (try (obtain ⟨hy43_, hz43_⟩ := Kd.R_celln 0 HO_6.out (x36_1 : Int) (of_decide_eq_true as_) (of_decide_eq_true as_))); (try (have HP43 := Kd.R_putg HO_6.out (x36_1 : Int) 0)))); refine store_event (t := 3) (p := 57) (v := ?vo_w44) (w1 := (w40.setCell ⟨go29, (x36_1 : Int).toNat, none⟩ (.int .i64 0))) ?hg ?ho ?hn ?hr ?_; (case ho => rfl); (case hg => rfl); (case hn => rfl); (case hr => first | (go_simp; done) | (go_simp; rfl)); intro w44 hw; have hg : w40.grownBy w44 (some go29) := (by rw [hw]; exact HP43.2); have hp_ : Kd.R (Kd.int .i64) 3 w44 w.heap.size (fun _ => True) (.slice (some ⟨go29, 0, none⟩) x6_1.length co29) y366 := (by rw [hw, Ny366.out]; exact HP43.1); clear HP43; have n0_ := Aside0.mk (hp_); have n1_ := Aside0.mk (blk_grown (g := gb356) (o := .cells #[.slice (some ad362) l0_0.length c0_0, .slice A0_1 l0_1.length c0_1, .slice A0_2 l0_2.length c0_2] 34 (0, 0)) (bk_ BK356.out) hg (Kd.R_ne HO_6.out BK356.out (by decide))); have n2_ := Aside0.mk (blk_grown (g := gb357) (o := .cells #[.slice A1_0 l1_0.length c1_0, .slice A1_1 l1_1.length c1_1] 36 (0, 0)) (bk_ BK357.out) hg (Kd.R_ne HO_6.out BK357.out (by decide))); have n3_ := Aside0.mk ((by rw [hw]; exact below_set (HB.out) GB29.out : Below w.heap.size w w44)); clear HO_6; clear BK356; clear BK357; clear HB; have HO_6 := n0_; have BK356 := n1_; have BK357 := n2_; have HB := n3_; clear n0_ n1_ n2_ n3_; clear hg hw hp_))
             repeat (go_quiet (first | ((with_reducible refine gate_store (t := 3) (p := 43) rfl ?_); (try (rw [drewN_self wr]; generalize hq_ : World.drewN wr _ = wr; have n0_ := Aside0.mk (Kd.R_at hq_ HO_6.out); have n1_ := Aside0.mk (blk_at hq_ BK356.out); have n2_ := Aside0.mk (blk_at hq_ BK357.out); have n3_ := Aside0.mk (below_at hq_ HB.out); clear hq_ HO_6 BK356 BK357 HB; have HO_6 := n0_; have BK356 := n1_; have BK357 := n2_; have HB := n3_; clear n0_ n1_ n2_ n3_; (try (have HP39 := Kd.R_putg HO_6.out (x36_1 : Int) (-1))))); refine store_event (t := 3) (p := 43) (v := ?vo_w40) (w1 := (wr.setCell ⟨go29, (x36_1 : Int).toNat, none⟩ (.int .i64 (-1)))) ?hg ?ho ?hn ?hr ?_; (case ho => rfl); (case hg => rfl); (case hn => rfl); (case hr => first | (go_simp; done) | (go_simp; rfl)); intro w40 hw; have hg : wr.grownBy w40 (some go29) := (by rw [hw]; exact HP39.2); have hp_ : Kd.R (Kd.int .i64) 3 w40 w.heap.size (fun _ => True) (.slice (some ⟨go29, 0, none⟩) x6_1.length co29) y363 := (by rw [hw, Ny363.out]; exact HP39.1); clear HP39; have n0_ := Aside0.mk (hp_); have n1_ := Aside0.mk (blk_grown (g := gb356) (o := .cells #[.slice (some ad362) l0_0.length c0_0, .slice A0_1 l0_1.length c0_1, .slice A0_2 l0_2.length c0_2] 34 (0, 0)) (bk_ BK356.out) hg (Kd.R_ne HO_6.out BK356.out (by decide))); have n2_ := Aside0.mk (blk_grown (g := gb357) (o := .cells #[.slice A1_0 l1_0.length c1_0, .slice A1_1 l1_1.length c1_1] 36 (0, 0)) (bk_ BK357.out) hg (Kd.R_ne HO_6.out BK357.out (by decide))); have n3_ := Aside0.mk ((by rw [hw]; exact below_set (HB.out) GB29.out : Below w.heap.size w w40)); clear HO_6; clear BK356; clear BK357; clear HB; have HO_6 := n0_; have BK356 := n1_; have BK357 := n2_; have HB := n3_; clear n0_ n1_ n2_ n3_; clear hg hw hp_; have hnb41 := NB357_356.out; have hnc41 := NB356_357.out; have hcz42_0 : w40.cell? ⟨gb357, 0, none⟩ = some (.slice A1_0 l1_0.length c1_0) := (blk_cell BK357.out 0).trans rfl; have hcz42_1 : w40.cell? ⟨gb357, 1, none⟩ = some (.slice A1_1 l1_1.length c1_1) := (blk_cell BK357.out 1).trans rfl; have hfz42_0 := blk_frozen BK357.out 0; have hfz42_1 := blk_frozen BK357.out 1) | (go_at_call 68; (with_reducible refine (spec_l22In.calls k1 _ _ l1_0 (rdOf ByteArray.empty l0_0 x36_1) true _ ?side1 ?side2 A30.out).mono ?_); (case side1 => exact cb_ HR1_0.out); (case side2 => exact HC1_0.out); rintro e w' ⟨rfl, ⟨nd, rfl⟩⟩; (try first | exact ⟨rfl, _, World.drewN_drewN _ _ _⟩ | exact ⟨rfl, _, Eq.trans (World.drewN_drewN _ _ _) (congrArg (World.drewN _) (Nat.add_assoc _ _ _))⟩)) | (go_at_call 68; (with_reducible refine (spec_l22In.calls k1 _ _ l1_1 (rdOf ByteArray.empty l0_0 x36_1) false _ ?side1 ?side2 A32.out).mono ?_); (case side1 => repeat (first | exact (Kd.C_below HR1_1.out hb_) | (with_reducible refine Kd.C_alloc ?_ _) | (with_reducible refine Kd.C_drewN ?_ _) | (with_reducible refine Kd.C_drew ?_))); (case side2 => exact HC1_1.out); rintro e w' ⟨rfl, ⟨nd, rfl⟩⟩; (try first | exact ⟨rfl, _, World.drewN_drewN _ _ _⟩ | exact ⟨rfl, _, Eq.trans (World.drewN_drewN _ _ _) (congrArg (World.drewN _) (Nat.add_assoc _ _ _))⟩)) | ((with_reducible refine gate_store (t := 3) (p := 57) rfl ?_); (try (rw [drewN_self w40]; generalize hq_ : World.drewN w40 _ = w40; have n0_ := Aside0.mk (Kd.R_at hq_ HO_6.out); have n1_ := Aside0.mk (blk_at hq_ BK356.out); have n2_ := Aside0.mk (blk_at hq_ BK357.out); have n3_ := Aside0.mk (below_at hq_ HB.out); clear hq_ HO_6 BK356 BK357 HB; have HO_6 := n0_; have BK356 := n1_; have BK357 := n2_; have HB := n3_; clear n0_ n1_ n2_ n3_; (try (obtain ⟨hy43_, hz43_⟩ := Kd.R_celln 0 HO_6.out (x36_1 : Int) (of_decide_eq_true as_) (of_decide_eq_true as_))); (try (have HP43 := Kd.R_putg HO_6.out (x36_1 : Int) 0)))); refine store_event (t := 3) (p := 57) (v := ?vo_w44) (w1 := (w40.setCell ⟨go29, (x36_1 : Int).toNat, none⟩ (.int .i64 0))) ?hg ?ho ?hn ?hr ?_; (case ho => rfl); (case hg => rfl); (case hn => rfl); (case hr => first | (go_simp; done) | (go_simp; rfl)); intro w44 hw; have hg : w40.grownBy w44 (some go29) := (by rw [hw]; exact HP43.2); have hp_ : Kd.R (Kd.int .i64) 3 w44 w.heap.size (fun _ => True) (.slice (some ⟨go29, 0, none⟩) x6_1.length co29) y366 := (by rw [hw, Ny366.out]; exact HP43.1); clear HP43; have n0_ := Aside0.mk (hp_); have n1_ := Aside0.mk (blk_grown (g := gb356) (o := .cells #[.slice (some ad362) l0_0.length c0_0, .slice A0_1 l0_1.length c0_1, .slice A0_2 l0_2.length c0_2] 34 (0, 0)) (bk_ BK356.out) hg (Kd.R_ne HO_6.out BK356.out (by decide))); have n2_ := Aside0.mk (blk_grown (g := gb357) (o := .cells #[.slice A1_0 l1_0.length c1_0, .slice A1_1 l1_1.length c1_1] 36 (0, 0)) (bk_ BK357.out) hg (Kd.R_ne HO_6.out BK357.out (by decide))); have n3_ := Aside0.mk ((by rw [hw]; exact below_set (HB.out) GB29.out : Below w.heap.size w w44)); clear HO_6; clear BK356; clear BK357; clear HB; have HO_6 := n0_; have BK356 := n1_; have BK357 := n2_; have HB := n3_; clear n0_ n1_ n2_ n3_; clear hg hw hp_)); try go_wp2_with (first | ((with_reducible refine gate_store (t := 3) (p := 43) rfl ?_); (try (rw [drewN_self wr]; generalize hq_ : World.drewN wr _ = wr; have n0_ := Aside0.mk (Kd.R_at hq_ HO_6.out); have n1_ := Aside0.mk (blk_at hq_ BK356.out); have n2_ := Aside0.mk (blk_at hq_ BK357.out); have n3_ := Aside0.mk (below_at hq_ HB.out); clear hq_ HO_6 BK356 BK357 HB; have HO_6 := n0_; have BK356 := n1_; have BK357 := n2_; have HB := n3_; clear n0_ n1_ n2_ n3_; (try (have HP39 := Kd.R_putg HO_6.out (x36_1 : Int) (-1))))); refine store_event (t := 3) (p := 43) (v := ?vo_w40) (w1 := (wr.setCell ⟨go29, (x36_1 : Int).toNat, none⟩ (.int .i64 (-1)))) ?hg ?ho ?hn ?hr ?_; (case ho => rfl); (case hg => rfl); (case hn => rfl); (case hr => first | (go_simp; done) | (go_simp; rfl)); intro w40 hw; have hg : wr.grownBy w40 (some go29) := (by rw [hw]; exact HP39.2); have hp_ : Kd.R (Kd.int .i64) 3 w40 w.heap.size (fun _ => True) (.slice (some ⟨go29, 0, none⟩) x6_1.length co29) y363 := (by rw [hw, Ny363.out]; exact HP39.1); clear HP39; have n0_ := Aside0.mk (hp_); have n1_ := Aside0.mk (blk_grown (g := gb356) (o := .cells #[.slice (some ad362) l0_0.length c0_0, .slice A0_1 l0_1.length c0_1, .slice A0_2 l0_2.length c0_2] 34 (0, 0)) (bk_ BK356.out) hg (Kd.R_ne HO_6.out BK356.out (by decide))); have n2_ := Aside0.mk (blk_grown (g := gb357) (o := .cells #[.slice A1_0 l1_0.length c1_0, .slice A1_1 l1_1.length c1_1] 36 (0, 0)) (bk_ BK357.out) hg (Kd.R_ne HO_6.out BK357.out (by decide))); have n3_ := Aside0.mk ((by rw [hw]; exact below_set (HB.out) GB29.out : Below w.heap.size w w40)); clear HO_6; clear BK356; clear BK357; clear HB; have HO_6 := n0_; have BK356 := n1_; have BK357 := n2_; have HB := n3_; clear n0_ n1_ n2_ n3_; clear hg hw hp_; have hnb41 := NB357_356.out; have hnc41 := NB356_357.out; have hcz42_0 : w40.cell? ⟨gb357, 0, none⟩ = some (.slice A1_0 l1_0.length c1_0) := (blk_cell BK357.out 0).trans rfl; have hcz42_1 : w40.cell? ⟨gb357, 1, none⟩ = some (.slice A1_1 l1_1.length c1_1) := (blk_cell BK357.out 1).trans rfl; have hfz42_0 := blk_frozen BK357.out 0; have hfz42_1 := blk_frozen BK357.out 1) | (go_at_call 68; (with_reducible refine (spec_l22In.calls k1 _ _ l1_0 (rdOf ByteArray.empty l0_0 x36_1) true _ ?side1 ?side2 A30.out).mono ?_); (case side1 => exact cb_ HR1_0.out); (case side2 => exact HC1_0.out); rintro e w' ⟨rfl, ⟨nd, rfl⟩⟩; (try first | exact ⟨rfl, _, World.drewN_drewN _ _ _⟩ | exact ⟨rfl, _, Eq.trans (World.drewN_drewN _ _ _) (congrArg (World.drewN _) (Nat.add_assoc _ _ _))⟩)) | (go_at_call 68; (with_reducible refine (spec_l22In.calls k1 _ _ l1_1 (rdOf ByteArray.empty l0_0 x36_1) false _ ?side1 ?side2 A32.out).mono ?_); (case side1 => repeat (first | exact (Kd.C_below HR1_1.out hb_) | (with_reducible refine Kd.C_alloc ?_ _) | (with_reducible refine Kd.C_drewN ?_ _) | (with_reducible refine Kd.C_drew ?_))); (case side2 => exact HC1_1.out); rintro e w' ⟨rfl, ⟨nd, rfl⟩⟩; (try first | exact ⟨rfl, _, World.drewN_drewN _ _ _⟩ | exact ⟨rfl, _, Eq.trans (World.drewN_drewN _ _ _) (congrArg (World.drewN _) (Nat.add_assoc _ _ _))⟩)) | ((with_reducible refine gate_store (t := 3) (p := 57) rfl ?_); (try (rw [drewN_self w40]; generalize hq_ : World.drewN w40 _ = w40; have n0_ := Aside0.mk (Kd.R_at hq_ HO_6.out); have n1_ := Aside0.mk (blk_at hq_ BK356.out); have n2_ := Aside0.mk (blk_at hq_ BK357.out); have n3_ := Aside0.mk (below_at hq_ HB.out); clear hq_ HO_6 BK356 BK357 HB; have HO_6 := n0_; have BK356 := n1_; have BK357 := n2_; have HB := n3_; clear n0_ n1_ n2_ n3_; (try (obtain ⟨hy43_, hz43_⟩ := Kd.R_celln 0 HO_6.out (x36_1 : Int) (of_decide_eq_true as_) (of_decide_eq_true as_))); (try (have HP43 := Kd.R_putg HO_6.out (x36_1 : Int) 0)))); refine store_event (t := 3) (p := 57) (v := ?vo_w44) (w1 := (w40.setCell ⟨go29, (x36_1 : Int).toNat, none⟩ (.int .i64 0))) ?hg ?ho ?hn ?hr ?_; (case ho => rfl); (case hg => rfl); (case hn => rfl); (case hr => first | (go_simp; done) | (go_simp; rfl)); intro w44 hw; have hg : w40.grownBy w44 (some go29) := (by rw [hw]; exact HP43.2); have hp_ : Kd.R (Kd.int .i64) 3 w44 w.heap.size (fun _ => True) (.slice (some ⟨go29, 0, none⟩) x6_1.length co29) y366 := (by rw [hw, Ny366.out]; exact HP43.1); clear HP43; have n0_ := Aside0.mk (hp_); have n1_ := Aside0.mk (blk_grown (g := gb356) (o := .cells #[.slice (some ad362) l0_0.length c0_0, .slice A0_1 l0_1.length c0_1, .slice A0_2 l0_2.length c0_2] 34 (0, 0)) (bk_ BK356.out) hg (Kd.R_ne HO_6.out BK356.out (by decide))); have n2_ := Aside0.mk (blk_grown (g := gb357) (o := .cells #[.slice A1_0 l1_0.length c1_0, .slice A1_1 l1_1.length c1_1] 36 (0, 0)) (bk_ BK357.out) hg (Kd.R_ne HO_6.out BK357.out (by decide))); have n3_ := Aside0.mk ((by rw [hw]; exact below_set (HB.out) GB29.out : Below w.heap.size w w44)); clear HO_6; clear BK356; clear BK357; clear HB; have HO_6 := n0_; have BK356 := n1_; have BK357 := n2_; have HB := n3_; clear n0_ n1_ n2_ n3_; clear hg hw hp_)))
             go_roundg k1
             case measure => have := HK1.out; omega
             case rel => exact ⟨(y366), (wrap64 (x36_1 + 1)), es_, H', ⟨by have := HK1.out; omega⟩, ⟨ra_ HO_6.out⟩, ⟨bk_ BK356.out⟩, ⟨bk_ BK357.out⟩, ⟨hb_⟩⟩
           ·replace c31 := Bool.eq_false_iff.mpr c31
            subst c31
            rw [if_neg (show ¬ (false = true) by decide)] at H
            have H' := Aside0.mk H
            clear H
            have p362 : 0 ≤ (x36_1 : Int) := of_decide_eq_true as_
            have q362 : x36_1 < (l0_0.length : Int) := of_decide_eq_true as_
            obtain ⟨ad362, e362, hx362_0⟩ := Kd.at_string HR0_0.out x36_1 p362 q362
            cases e362
            (try replace hx362_0 := hc_ HB hx362_0)
            replace p362 := eq_true p362
            replace q362 := eq_true q362
            have p29 : 0 ≤ (x36_1 : Int) := of_decide_eq_true as_
            have q29 : (x36_1 : Int) < ((x6_1.length : Int) : Int) := of_decide_eq_true as_
            obtain ⟨go29, co29, eo29, gb29, gl29, cl29, HG29⟩ := Kd.R_form HO_6.out (by omega)
            (first | cases eo29 | (injection eo29 with ea_ en_ ec_; (first | subst ea_ | (injection ea_ with ea_; subst ea_)); subst ec_; clear en_))
            have GB29 := Aside0.mk gb29
            have GG29 := Aside0.mk HG29
            clear gb29 gl29 HG29
            obtain ⟨hx29_0, hf29_0⟩ := Kd.R_celln 0 HO_6.out (x36_1 : Int) p29 q29
            replace p29 := eq_true p29
            replace q29 := eq_true q29
            have HP45 := Kd.R_putg HO_6.out (x36_1 : Int) (-1)
            go_wp2_with (first | ((with_reducible refine gate_store (t := 3) (p := 43) rfl ?_); (try (rw [drewN_self wr]; generalize hq_ : World.drewN wr _ = wr; have n0_ := Aside0.mk (Kd.R_at hq_ HO_6.out); have n1_ := Aside0.mk (blk_at hq_ BK356.out); have n2_ := Aside0.mk (blk_at hq_ BK357.out); have n3_ := Aside0.mk (below_at hq_ HB.out); clear hq_ HO_6 BK356 BK357 HB; have HO_6 := n0_; have BK356 := n1_; have BK357 := n2_; have HB := n3_; clear n0_ n1_ n2_ n3_; (try (have HP45 := Kd.R_putg HO_6.out (x36_1 : Int) (-1))))); refine store_event (t := 3) (p := 43) (v := ?vo_w46) (w1 := (wr.setCell ⟨go29, (x36_1 : Int).toNat, none⟩ (.int .i64 (-1)))) ?hg ?ho ?hn ?hr ?_; (case ho => rfl); (case hg => rfl); (case hn => rfl); (case hr => first | (go_simp; done) | (go_simp; rfl)); intro w46 hw; have hg : wr.grownBy w46 (some go29) := (by rw [hw]; exact HP45.2); have hp_ : Kd.R (Kd.int .i64) 3 w46 w.heap.size (fun _ => True) (.slice (some ⟨go29, 0, none⟩) x6_1.length co29) y363 := (by rw [hw, Ny363.out]; exact HP45.1); clear HP45; have n0_ := Aside0.mk (hp_); have n1_ := Aside0.mk (blk_grown (g := gb356) (o := .cells #[.slice (some ad362) l0_0.length c0_0, .slice A0_1 l0_1.length c0_1, .slice A0_2 l0_2.length c0_2] 34 (0, 0)) (bk_ BK356.out) hg (Kd.R_ne HO_6.out BK356.out (by decide))); have n2_ := Aside0.mk (blk_grown (g := gb357) (o := .cells #[.slice A1_0 l1_0.length c1_0, .slice A1_1 l1_1.length c1_1] 36 (0, 0)) (bk_ BK357.out) hg (Kd.R_ne HO_6.out BK357.out (by decide))); have n3_ := Aside0.mk ((by rw [hw]; exact below_set (HB.out) GB29.out : Below w.heap.size w w46)); clear HO_6; clear BK356; clear BK357; clear HB; have HO_6 := n0_; have BK356 := n1_; have BK357 := n2_; have HB := n3_; clear n0_ n1_ n2_ n3_; clear hg hw hp_; have hnb47 := NB357_356.out; have hnc47 := NB356_357.out; have hcz48_0 : w46.cell? ⟨gb357, 0, none⟩ = some (.slice A1_0 l1_0.length c1_0) := (blk_cell BK357.out 0).trans rfl; have hcz48_1 : w46.cell? ⟨gb357, 1, none⟩ = some (.slice A1_1 l1_1.length c1_1) := (blk_cell BK357.out 1).trans rfl; have hfz48_0 := blk_frozen BK357.out 0; have hfz48_1 := blk_frozen BK357.out 1) | (go_at_call 68; (with_reducible refine (spec_l22In.calls k1 _ _ l1_0 (rdOf ByteArray.empty l0_0 x36_1) false _ ?side1 ?side2 A30.out).mono ?_); (case side1 => exact cb_ HR1_0.out); (case side2 => exact HC1_0.out); rintro e w' ⟨rfl, ⟨nd, rfl⟩⟩; (try first | exact ⟨rfl, _, World.drewN_drewN _ _ _⟩ | exact ⟨rfl, _, Eq.trans (World.drewN_drewN _ _ _) (congrArg (World.drewN _) (Nat.add_assoc _ _ _))⟩)))
            repeat (go_quiet (first | ((with_reducible refine gate_store (t := 3) (p := 43) rfl ?_); (try (rw [drewN_self wr]; generalize hq_ : World.drewN wr _ = wr; have n0_ := Aside0.mk (Kd.R_at hq_ HO_6.out); have n1_ := Aside0.mk (blk_at hq_ BK356.out); have n2_ := Aside0.mk (blk_at hq_ BK357.out); have n3_ := Aside0.mk (below_at hq_ HB.out); clear hq_ HO_6 BK356 BK357 HB; have HO_6 := n0_; have BK356 := n1_; have BK357 := n2_; have HB := n3_; clear n0_ n1_ n2_ n3_; (try (have HP45 := Kd.R_putg HO_6.out (x36_1 : Int) (-1))))); refine store_event (t := 3) (p := 43) (v := ?vo_w46) (w1 := (wr.setCell ⟨go29, (x36_1 : Int).toNat, none⟩ (.int .i64 (-1)))) ?hg ?ho ?hn ?hr ?_; (case ho => rfl); (case hg => rfl); (case hn => rfl); (case hr => first | (go_simp; done) | (go_simp; rfl)); intro w46 hw; have hg : wr.grownBy w46 (some go29) := (by rw [hw]; exact HP45.2); have hp_ : Kd.R (Kd.int .i64) 3 w46 w.heap.size (fun _ => True) (.slice (some ⟨go29, 0, none⟩) x6_1.length co29) y363 := (by rw [hw, Ny363.out]; exact HP45.1); clear HP45; have n0_ := Aside0.mk (hp_); have n1_ := Aside0.mk (blk_grown (g := gb356) (o := .cells #[.slice (some ad362) l0_0.length c0_0, .slice A0_1 l0_1.length c0_1, .slice A0_2 l0_2.length c0_2] 34 (0, 0)) (bk_ BK356.out) hg (Kd.R_ne HO_6.out BK356.out (by decide))); have n2_ := Aside0.mk (blk_grown (g := gb357) (o := .cells #[.slice A1_0 l1_0.length c1_0, .slice A1_1 l1_1.length c1_1] 36 (0, 0)) (bk_ BK357.out) hg (Kd.R_ne HO_6.out BK357.out (by decide))); have n3_ := Aside0.mk ((by rw [hw]; exact below_set (HB.out) GB29.out : Below w.heap.size w w46)); clear HO_6; clear BK356; clear BK357; clear HB; have HO_6 := n0_; have BK356 := n1_; have BK357 := n2_; have HB := n3_; clear n0_ n1_ n2_ n3_; clear hg hw hp_; have hnb47 := NB357_356.out; have hnc47 := NB356_357.out; have hcz48_0 : w46.cell? ⟨gb357, 0, none⟩ = some (.slice A1_0 l1_0.length c1_0) := (blk_cell BK357.out 0).trans rfl; have hcz48_1 : w46.cell? ⟨gb357, 1, none⟩ = some (.slice A1_1 l1_1.length c1_1) := (blk_cell BK357.out 1).trans rfl; have hfz48_0 := blk_frozen BK357.out 0; have hfz48_1 := blk_frozen BK357.out 1) | (go_at_call 68; (with_reducible refine (spec_l22In.calls k1 _ _ l1_0 (rdOf ByteArray.empty l0_0 x36_1) false _ ?side1 ?side2 A30.out).mono ?_); (case side1 => exact cb_ HR1_0.out); (case side2 => exact HC1_0.out); rintro e w' ⟨rfl, ⟨nd, rfl⟩⟩; (try first | exact ⟨rfl, _, World.drewN_drewN _ _ _⟩ | exact ⟨rfl, _, Eq.trans (World.drewN_drewN _ _ _) (congrArg (World.drewN _) (Nat.add_assoc _ _ _))⟩))); try go_wp2_with (first | ((with_reducible refine gate_store (t := 3) (p := 43) rfl ?_); (try (rw [drewN_self wr]; generalize hq_ : World.drewN wr _ = wr; have n0_ := Aside0.mk (Kd.R_at hq_ HO_6.out); have n1_ := Aside0.mk (blk_at hq_ BK356.out); have n2_ := Aside0.mk (blk_at hq_ BK357.out); have n3_ := Aside0.mk (below_at hq_ HB.out); clear hq_ HO_6 BK356 BK357 HB; have HO_6 := n0_; have BK356 := n1_; have BK357 := n2_; have HB := n3_; clear n0_ n1_ n2_ n3_; (try (have HP45 := Kd.R_putg HO_6.out (x36_1 : Int) (-1))))); refine store_event (t := 3) (p := 43) (v := ?vo_w46) (w1 := (wr.setCell ⟨go29, (x36_1 : Int).toNat, none⟩ (.int .i64 (-1)))) ?hg ?ho ?hn ?hr ?_; (case ho => rfl); (case hg => rfl); (case hn => rfl); (case hr => first | (go_simp; done) | (go_simp; rfl)); intro w46 hw; have hg : wr.grownBy w46 (some go29) := (by rw [hw]; exact HP45.2); have hp_ : Kd.R (Kd.int .i64) 3 w46 w.heap.size (fun _ => True) (.slice (some ⟨go29, 0, none⟩) x6_1.length co29) y363 := (by rw [hw, Ny363.out]; exact HP45.1); clear HP45; have n0_ := Aside0.mk (hp_); have n1_ := Aside0.mk (blk_grown (g := gb356) (o := .cells #[.slice (some ad362) l0_0.length c0_0, .slice A0_1 l0_1.length c0_1, .slice A0_2 l0_2.length c0_2] 34 (0, 0)) (bk_ BK356.out) hg (Kd.R_ne HO_6.out BK356.out (by decide))); have n2_ := Aside0.mk (blk_grown (g := gb357) (o := .cells #[.slice A1_0 l1_0.length c1_0, .slice A1_1 l1_1.length c1_1] 36 (0, 0)) (bk_ BK357.out) hg (Kd.R_ne HO_6.out BK357.out (by decide))); have n3_ := Aside0.mk ((by rw [hw]; exact below_set (HB.out) GB29.out : Below w.heap.size w w46)); clear HO_6; clear BK356; clear BK357; clear HB; have HO_6 := n0_; have BK356 := n1_; have BK357 := n2_; have HB := n3_; clear n0_ n1_ n2_ n3_; clear hg hw hp_; have hnb47 := NB357_356.out; have hnc47 := NB356_357.out; have hcz48_0 : w46.cell? ⟨gb357, 0, none⟩ = some (.slice A1_0 l1_0.length c1_0) := (blk_cell BK357.out 0).trans rfl; have hcz48_1 : w46.cell? ⟨gb357, 1, none⟩ = some (.slice A1_1 l1_1.length c1_1) := (blk_cell BK357.out 1).trans rfl; have hfz48_0 := blk_frozen BK357.out 0; have hfz48_1 := blk_frozen BK357.out 1) | (go_at_call 68; (with_reducible refine (spec_l22In.calls k1 _ _ l1_0 (rdOf ByteArray.empty l0_0 x36_1) false _ ?side1 ?side2 A30.out).mono ?_); (case side1 => exact cb_ HR1_0.out); (case side2 => exact HC1_0.out); rintro e w' ⟨rfl, ⟨nd, rfl⟩⟩; (try first | exact ⟨rfl, _, World.drewN_drewN _ _ _⟩ | exact ⟨rfl, _, Eq.trans (World.drewN_drewN _ _ _) (congrArg (World.drewN _) (Nat.add_assoc _ _ _))⟩))))
            go_roundg k1
            case measure => have := HK1.out; omega
            case rel => exact ⟨(y363), (wrap64 (x36_1 + 1)), es_, H', ⟨by have := HK1.out; omega⟩, ⟨ra_ HO_6.out⟩, ⟨bk_ BK356.out⟩, ⟨bk_ BK357.out⟩, ⟨hb_⟩⟩
          ·rw [if_neg c28] at H
           exact absurd H (by simp)
         ·rw [if_neg c27] at H
          exact absurd H (by simp)
        ·rw [if_neg c26] at H
         exact absurd H (by simp)
       ·rw [if_neg c25] at H
        have c25b0 : decide (x36_1 < (l0_0.length : Int)) = false := decide_eq_false c25
        clear c25
        have H' := Aside0.mk H
        clear H
        go_wp2
        repeat (go_quiet (fail); try go_wp2)
        go_loopg [9] k1 (fun kq v9 w' => ∃ (x6_2 : List Int) (x9_2 : Int), v9 = .int .i64 x9_2 ∧ Aside0 (spec_l22Ranks.l1 kq (l0_0.length : Int) x6_2 x9_2 l0_0 l0_1 l0_2 l1_0 l1_1 = some r) ∧ Aside0 (kq ≤ k1) ∧ Aside0 (Kd.R (Kd.int .i64) 3 w' w.heap.size (fun _ => True) v359 x6_2) ∧ Aside0 (w'.heap[gb356]? = some (.cells #[(.slice A0_0 l0_0.length c0_0), (.slice A0_1 l0_1.length c0_1), (.slice A0_2 l0_2.length c0_2)] 34 (0, 0))) ∧ Aside0 (w'.heap[gb357]? = some (.cells #[(.slice A1_0 l1_0.length c1_0), (.slice A1_1 l1_1.length c1_1)] 36 (0, 0))) ∧ Aside0 (Below w.heap.size w w'))
        case atStart => exact ⟨(x6_1), (1), es_, H', ⟨Nat.le_refl _⟩, ⟨ra_ HO_6.out⟩, ⟨bk_ BK356.out⟩, ⟨bk_ BK357.out⟩, ⟨hb_⟩⟩
        case round =>
         clear H'
         obtain ⟨x6_2, x9_2, rfl, HA, HK2, HO_6, BK356, BK357, HB⟩ := hrel
         cases gk with
         | zero => exact absurd HA.out (by simp [spec_l22Ranks.l1])
         | succ k2 =>
          have H := HA.out
          clear HA
          simp only [spec_l22Ranks.l1] at H
          by_cases c49 : x9_2 ≤ (l0_0.length : Int)
          ·rw [if_pos c49] at H
           have c49b0 : decide (x9_2 ≤ (l0_0.length : Int)) = true := decide_eq_true c49
           clear c49
           have H' := Aside0.mk H
           clear H
           obtain ⟨Ao50, co50, eo50⟩ := Kd.R_slice HO_6.out
           subst eo50
           go_wp2
           repeat (go_quiet (fail); try go_wp2)
           go_loopg [10, 66] k2 (fun kq v10 v66 w' => ∃ (x10_3 : List Int) (x66_3 : Int), v66 = .int .i64 x66_3 ∧ Aside0 (spec_l22Ranks.l2 kq (l0_0.length : Int) x6_2 x9_2 x10_3 (x6_2.length : Int) x66_3 l0_0 l0_1 l0_2 l1_0 l1_1 = some r) ∧ Aside0 (kq ≤ k2) ∧ Aside0 (Kd.R (Kd.int .i64) 3 w' w.heap.size (fun k_ => some k_ ≠ (v10 : Value).ownBlock) (.slice Ao50 x6_2.length co50) x6_2) ∧ Aside0 (Kd.R (Kd.int .i64) 3 w' w.heap.size (fun k_ => some k_ ≠ ((.slice Ao50 x6_2.length co50) : Value).ownBlock) v10 x10_3) ∧ Aside0 (w'.heap[gb356]? = some (.cells #[(.slice A0_0 l0_0.length c0_0), (.slice A0_1 l0_1.length c0_1), (.slice A0_2 l0_2.length c0_2)] 34 (0, 0))) ∧ Aside0 (w'.heap[gb357]? = some (.cells #[(.slice A1_0 l1_0.length c1_0), (.slice A1_1 l1_1.length c1_1)] 36 (0, 0))) ∧ Aside0 (Below w.heap.size w w'))
           case atStart => exact ⟨(([] : List Int)), (0), es_, H', ⟨Nat.le_refl _⟩, ⟨by (with_reducible repeat (first | apply Kd.R_alloc | apply Kd.R_drewN | apply Kd.R_drew)); exact Kd.R_mono HO_6.out (fun _ hk => (by simp [Value.ownBlock]))⟩, ⟨by first | exact Kd.R_nil _ _ _ _ _ | exact Kd.N_nil _ _ _ _ _ | exact Kd.V_nil _ _ _ _ _ | exact Kd.Q_nil _ _ _ _ _ | exact Kd.S_nil _ _ _ _ _⟩, ⟨bk_ BK356.out⟩, ⟨bk_ BK357.out⟩, ⟨hb_⟩⟩
           case round =>
            clear H'
            obtain ⟨x10_3, x66_3, rfl, HA, HK3, HO_6, HO_10, BK356, BK357, HB⟩ := hrel
            cases gk with
            | zero => exact absurd HA.out (by simp [spec_l22Ranks.l2])
            | succ k3 =>
             have H := HA.out
             clear HA
             simp only [spec_l22Ranks.l2] at H
             by_cases c51 : x66_3 < (x6_2.length : Int)
             ·rw [if_pos c51] at H
              have c51b0 : decide (x66_3 < (x6_2.length : Int)) = true := decide_eq_true c51
              clear c51
              have HC52 := Aside0.mk H
              clear H
              go_upto_region 20 with (fail)
              repeat (go_quiet (fail); go_upto_region 20 with (fail))
              go_cut [92] (fun v92 wc => ∃ (kq : Nat) (x92_51 : Bool), v92 = .bool x92_51 ∧ Aside0 (spec_l22Ranks.j3 kq (l0_0.length : Int) x6_2 x9_2 x10_3 x66_3 (x6_2.length : Int) x66_3 x92_51 l0_0 l0_1 l0_2 l1_0 l1_1 = some r) ∧ Aside0 (kq ≤ k3) ∧ Aside0 (Kd.R (Kd.int .i64) 3 wc w.heap.size (fun k_ => some k_ ≠ (u10 : Value).ownBlock) (.slice Ao50 x6_2.length co50) x6_2) ∧ Aside0 (Kd.R (Kd.int .i64) 3 wc w.heap.size (fun k_ => some k_ ≠ ((.slice Ao50 x6_2.length co50) : Value).ownBlock) u10 x10_3) ∧ Aside0 (wc.heap[gb356]? = some (.cells #[(.slice A0_0 l0_0.length c0_0), (.slice A0_1 l0_1.length c0_1), (.slice A0_2 l0_2.length c0_2)] 34 (0, 0))) ∧ Aside0 (wc.heap[gb357]? = some (.cells #[(.slice A1_0 l1_0.length c1_0), (.slice A1_1 l1_1.length c1_1)] 36 (0, 0))) ∧ Aside0 (Below w.heap.size w wc))
              case first =>
               have H := HC52.out
               clear HC52
               by_cases c53 : 0 ≤ x66_3
               ·rw [if_pos c53] at H
                have c53b0 : decide (0 ≤ x66_3) = true := decide_eq_true c53
                clear c53
                (first | rw [c53b0] | (simp only [i64_w, i32_w]; rw [c53b0]) | skip)
                by_cases c54 : x66_3 < (x6_2.length : Int)
                ·rw [if_pos c54] at H
                 have c54b0 : decide (x66_3 < (x6_2.length : Int)) = true := decide_eq_true c54
                 clear c54
                 by_cases c55 : (rd x6_2 x66_3) ≥ 0
                 ·rw [if_pos c55] at H
                  have c55b0 : decide (0 ≤ (rd x6_2 x66_3)) = true := decide_eq_true c55
                  clear c55
                  have H' := Aside0.mk H
                  clear H
                  have p367 : 0 ≤ (x66_3 : Int) := of_decide_eq_true as_
                  have q367 : x66_3 < (x6_2.length : Int) := of_decide_eq_true as_
                  obtain ⟨ad367, e367, hx367_0⟩ := Kd.at_int (Kd.R_reads' HO_6.out).2.2 x66_3 p367 q367
                  cases e367
                  replace p367 := eq_true p367
                  replace q367 := eq_true q367
                  go_wp2
                  repeat (go_quiet (fail); try go_wp2)
                  go_meet
                  case rel => exact ⟨_, (true), es_, H', ⟨by have := HK1.out; have := HK2.out; have := HK3.out; first | omega | exact Nat.le_refl _⟩, ⟨ra_ HO_6.out⟩, ⟨ra_ HO_10.out⟩, ⟨bk_ BK356.out⟩, ⟨bk_ BK357.out⟩, ⟨hb_⟩⟩
                 ·rw [if_neg c55] at H
                  have c55b0 : decide (0 ≤ (rd x6_2 x66_3)) = false := decide_eq_false c55
                  clear c55
                  by_cases c56 : x66_3 < (l0_0.length : Int)
                  ·rw [if_pos c56] at H
                   have c56b0 : decide (x66_3 < (l0_0.length : Int)) = true := decide_eq_true c56
                   clear c56
                   replace H := Option.bind_eq_some_iff.mp H
                   obtain ⟨t369, A570, H⟩ := H
                   replace H : (if t369 = true then (spec_l22Ranks.j3 k3 (l0_0.length : Int) x6_2 x9_2 x10_3 x66_3 (x6_2.length : Int) x66_3 true l0_0 l0_1 l0_2 l1_0 l1_1) else (if x66_3 < (l0_2.length : Int) then (spec_l22Ranks.j3 k3 (l0_0.length : Int) x6_2 x9_2 x10_3 x66_3 (x6_2.length : Int) x66_3 (((rd_L3 l0_2 x66_3).length : Int) == 0) l0_0 l0_1 l0_2 l1_0 l1_1) else (none))) = some r := H
                   have A57 := Aside0.mk A570
                   clear A570
                   by_cases c58 : t369 = true
                   ·subst c58
                    rw [if_pos rfl] at H
                    have H' := Aside0.mk H
                    clear H
                    have p367 : 0 ≤ (x66_3 : Int) := of_decide_eq_true as_
                    have q367 : x66_3 < (x6_2.length : Int) := of_decide_eq_true as_
                    obtain ⟨ad367, e367, hx367_0⟩ := Kd.at_int (Kd.R_reads' HO_6.out).2.2 x66_3 p367 q367
                    cases e367
                    replace p367 := eq_true p367
                    replace q367 := eq_true q367
                    have hnb59 := NB357_356.out
                    have hnc59 := NB356_357.out
                    have hcz60_0 : wr.cell? ⟨gb357, 0, none⟩ = some (.slice A1_0 l1_0.length c1_0) := (blk_cell BK357.out 0).trans rfl
                    have hcz60_1 : wr.cell? ⟨gb357, 1, none⟩ = some (.slice A1_1 l1_1.length c1_1) := (blk_cell BK357.out 1).trans rfl
                    have hfz60_0 := blk_frozen BK357.out 0
                    have hfz60_1 := blk_frozen BK357.out 1
                    have hcz61_0 : wr.cell? ⟨gb356, 0, none⟩ = some (.slice A0_0 l0_0.length c0_0) := (blk_cell BK356.out 0).trans rfl
                    have hcz61_1 : wr.cell? ⟨gb356, 1, none⟩ = some (.slice A0_1 l0_1.length c0_1) := (blk_cell BK356.out 1).trans rfl
                    have hcz61_2 : wr.cell? ⟨gb356, 2, none⟩ = some (.slice A0_2 l0_2.length c0_2) := (blk_cell BK356.out 2).trans rfl
                    have hfz61_0 := blk_frozen BK356.out 0
                    have hfz61_1 := blk_frozen BK356.out 1
                    have hfz61_2 := blk_frozen BK356.out 2
                    have p368 : 0 ≤ (x66_3 : Int) := of_decide_eq_true as_
                    have q368 : x66_3 < (l0_0.length : Int) := of_decide_eq_true as_
                    obtain ⟨ad368, e368, hx368_0⟩ := Kd.at_string HR0_0.out x66_3 p368 q368
                    cases e368
                    (try replace hx368_0 := hc_ HB hx368_0)
                    replace p368 := eq_true p368
                    replace q368 := eq_true q368
                    go_wp2_with (first | (go_at_call 68; (with_reducible refine (spec_l22In.calls k3 _ _ l1_1 (rdOf ByteArray.empty l0_0 x66_3) true _ ?side1 ?side2 A57.out).mono ?_); (case side1 => exact cb_ HR1_1.out); (case side2 => exact HC1_1.out); rintro e w' ⟨rfl, ⟨nd, rfl⟩⟩; (try first | exact ⟨rfl, _, World.drewN_drewN _ _ _⟩ | exact ⟨rfl, _, Eq.trans (World.drewN_drewN _ _ _) (congrArg (World.drewN _) (Nat.add_assoc _ _ _))⟩)))
                    repeat (go_quiet (first | (go_at_call 68; (with_reducible refine (spec_l22In.calls k3 _ _ l1_1 (rdOf ByteArray.empty l0_0 x66_3) true _ ?side1 ?side2 A57.out).mono ?_); (case side1 => exact cb_ HR1_1.out); (case side2 => exact HC1_1.out); rintro e w' ⟨rfl, ⟨nd, rfl⟩⟩; (try first | exact ⟨rfl, _, World.drewN_drewN _ _ _⟩ | exact ⟨rfl, _, Eq.trans (World.drewN_drewN _ _ _) (congrArg (World.drewN _) (Nat.add_assoc _ _ _))⟩))); try go_wp2_with (first | (go_at_call 68; (with_reducible refine (spec_l22In.calls k3 _ _ l1_1 (rdOf ByteArray.empty l0_0 x66_3) true _ ?side1 ?side2 A57.out).mono ?_); (case side1 => exact cb_ HR1_1.out); (case side2 => exact HC1_1.out); rintro e w' ⟨rfl, ⟨nd, rfl⟩⟩; (try first | exact ⟨rfl, _, World.drewN_drewN _ _ _⟩ | exact ⟨rfl, _, Eq.trans (World.drewN_drewN _ _ _) (congrArg (World.drewN _) (Nat.add_assoc _ _ _))⟩))))
                    go_meet
                    case rel => exact ⟨_, (true), es_, H', ⟨by have := HK1.out; have := HK2.out; have := HK3.out; first | omega | exact Nat.le_refl _⟩, ⟨ra_ HO_6.out⟩, ⟨ra_ HO_10.out⟩, ⟨bk_ BK356.out⟩, ⟨bk_ BK357.out⟩, ⟨hb_⟩⟩
                   ·replace c58 := Bool.eq_false_iff.mpr c58
                    subst c58
                    rw [if_neg (show ¬ (false = true) by decide)] at H
                    by_cases c62 : x66_3 < (l0_2.length : Int)
                    ·rw [if_pos c62] at H
                     have c62b0 : decide (x66_3 < (l0_2.length : Int)) = true := decide_eq_true c62
                     clear c62
                     have H' := Aside0.mk H
                     clear H
                     have p367 : 0 ≤ (x66_3 : Int) := of_decide_eq_true as_
                     have q367 : x66_3 < (x6_2.length : Int) := of_decide_eq_true as_
                     obtain ⟨ad367, e367, hx367_0⟩ := Kd.at_int (Kd.R_reads' HO_6.out).2.2 x66_3 p367 q367
                     cases e367
                     replace p367 := eq_true p367
                     replace q367 := eq_true q367
                     have hnb63 := NB357_356.out
                     have hnc63 := NB356_357.out
                     have hcz64_0 : wr.cell? ⟨gb357, 0, none⟩ = some (.slice A1_0 l1_0.length c1_0) := (blk_cell BK357.out 0).trans rfl
                     have hcz64_1 : wr.cell? ⟨gb357, 1, none⟩ = some (.slice A1_1 l1_1.length c1_1) := (blk_cell BK357.out 1).trans rfl
                     have hfz64_0 := blk_frozen BK357.out 0
                     have hfz64_1 := blk_frozen BK357.out 1
                     have hcz65_0 : wr.cell? ⟨gb356, 0, none⟩ = some (.slice A0_0 l0_0.length c0_0) := (blk_cell BK356.out 0).trans rfl
                     have hcz65_1 : wr.cell? ⟨gb356, 1, none⟩ = some (.slice A0_1 l0_1.length c0_1) := (blk_cell BK356.out 1).trans rfl
                     have hcz65_2 : wr.cell? ⟨gb356, 2, none⟩ = some (.slice A0_2 l0_2.length c0_2) := (blk_cell BK356.out 2).trans rfl
                     have hfz65_0 := blk_frozen BK356.out 0
                     have hfz65_1 := blk_frozen BK356.out 1
                     have hfz65_2 := blk_frozen BK356.out 2
                     have p368 : 0 ≤ (x66_3 : Int) := of_decide_eq_true as_
                     have q368 : x66_3 < (l0_0.length : Int) := of_decide_eq_true as_
                     obtain ⟨ad368, e368, hx368_0⟩ := Kd.at_string HR0_0.out x66_3 p368 q368
                     cases e368
                     (try replace hx368_0 := hc_ HB hx368_0)
                     replace p368 := eq_true p368
                     replace q368 := eq_true q368
                     have p370 : 0 ≤ (x66_3 : Int) := of_decide_eq_true as_; have q370 : x66_3 < (l0_2.length : Int) := of_decide_eq_true as_; obtain ⟨ad370, A370_0, c370_0, e370, hx370_0, hl370_0, hi370_0⟩ := at_L3 HR0_2.out x66_3 p370 q370; cases e370; replace hx370_0 := hc_ HB hx370_0; have HR370_0 := Aside0.mk hi370_0; have HC370_0 := Aside0.mk hl370_0; clear hi370_0 hl370_0; replace p370 := eq_true p370; replace q370 := eq_true q370
                     go_wp2_with (first | (go_at_call 68; (with_reducible refine (spec_l22In.calls k3 _ _ l1_1 (rdOf ByteArray.empty l0_0 x66_3) false _ ?side1 ?side2 A57.out).mono ?_); (case side1 => exact cb_ HR1_1.out); (case side2 => exact HC1_1.out); rintro e w' ⟨rfl, ⟨nd, rfl⟩⟩; (try first | exact ⟨rfl, _, World.drewN_drewN _ _ _⟩ | exact ⟨rfl, _, Eq.trans (World.drewN_drewN _ _ _) (congrArg (World.drewN _) (Nat.add_assoc _ _ _))⟩)))
                     repeat (go_quiet (first | (go_at_call 68; (with_reducible refine (spec_l22In.calls k3 _ _ l1_1 (rdOf ByteArray.empty l0_0 x66_3) false _ ?side1 ?side2 A57.out).mono ?_); (case side1 => exact cb_ HR1_1.out); (case side2 => exact HC1_1.out); rintro e w' ⟨rfl, ⟨nd, rfl⟩⟩; (try first | exact ⟨rfl, _, World.drewN_drewN _ _ _⟩ | exact ⟨rfl, _, Eq.trans (World.drewN_drewN _ _ _) (congrArg (World.drewN _) (Nat.add_assoc _ _ _))⟩))); try go_wp2_with (first | (go_at_call 68; (with_reducible refine (spec_l22In.calls k3 _ _ l1_1 (rdOf ByteArray.empty l0_0 x66_3) false _ ?side1 ?side2 A57.out).mono ?_); (case side1 => exact cb_ HR1_1.out); (case side2 => exact HC1_1.out); rintro e w' ⟨rfl, ⟨nd, rfl⟩⟩; (try first | exact ⟨rfl, _, World.drewN_drewN _ _ _⟩ | exact ⟨rfl, _, Eq.trans (World.drewN_drewN _ _ _) (congrArg (World.drewN _) (Nat.add_assoc _ _ _))⟩))))
                     go_meet
                     case rel => exact ⟨_, ((((rd_L3 l0_2 x66_3).length : Int) == 0)), es_, H', ⟨by have := HK1.out; have := HK2.out; have := HK3.out; first | omega | exact Nat.le_refl _⟩, ⟨ra_ HO_6.out⟩, ⟨ra_ HO_10.out⟩, ⟨bk_ BK356.out⟩, ⟨bk_ BK357.out⟩, ⟨hb_⟩⟩
                    ·rw [if_neg c62] at H
                     exact absurd H (by simp)
                  ·rw [if_neg c56] at H
                   exact absurd H (by simp)
                ·rw [if_neg c54] at H
                 exact absurd H (by simp)
               ·rw [if_neg c53] at H
                exact absurd H (by simp)
              case rest =>
               clear HC52
               obtain ⟨kq, x92_51, rfl, HA, HJ51, HO_6, HO_10, BK356, BK357, HB⟩ := hcut
               cases kq with
               | zero => exact absurd HA.out (by simp [spec_l22Ranks.j3])
               | succ kj51 =>
                have H := HA.out
                clear HA
                simp only [spec_l22Ranks.j3] at H
                by_cases c66 : x92_51 = true
                ·subst c66
                 rw [if_pos rfl] at H
                 have H' := Aside0.mk H
                 clear H
                 go_wp2
                 repeat (go_quiet (fail); try go_wp2)
                 go_roundg kj51
                 case measure => have := HK1.out; have := HK2.out; have := HK3.out; have := HJ51.out; omega
                 case rel => exact ⟨(x10_3), (wrap64 (x66_3 + 1)), es_, H', ⟨by have := HK1.out; have := HK2.out; have := HK3.out; have := HJ51.out; omega⟩, ⟨ra_ HO_6.out⟩, ⟨ra_ HO_10.out⟩, ⟨bk_ BK356.out⟩, ⟨bk_ BK357.out⟩, ⟨hb_⟩⟩
                ·replace c66 := Bool.eq_false_iff.mpr c66
                 subst c66
                 rw [if_neg (show ¬ (false = true) by decide)] at H
                 by_cases c67 : 0 ≤ x66_3
                 ·rw [if_pos c67] at H
                  have c67b0 : decide (0 ≤ x66_3) = true := decide_eq_true c67
                  clear c67
                  by_cases c68 : x66_3 < (l0_2.length : Int)
                  ·rw [if_pos c68] at H
                   have c68b0 : decide (x66_3 < (l0_2.length : Int)) = true := decide_eq_true c68
                   clear c68
                   have H' := Aside0.mk H
                   clear H
                   have hnb69 := NB356_357.out
                   have hnc69 := NB357_356.out
                   have hcz70_0 : wc.cell? ⟨gb356, 0, none⟩ = some (.slice A0_0 l0_0.length c0_0) := (blk_cell BK356.out 0).trans rfl
                   have hcz70_1 : wc.cell? ⟨gb356, 1, none⟩ = some (.slice A0_1 l0_1.length c0_1) := (blk_cell BK356.out 1).trans rfl
                   have hcz70_2 : wc.cell? ⟨gb356, 2, none⟩ = some (.slice A0_2 l0_2.length c0_2) := (blk_cell BK356.out 2).trans rfl
                   have hfz70_0 := blk_frozen BK356.out 0
                   have hfz70_1 := blk_frozen BK356.out 1
                   have hfz70_2 := blk_frozen BK356.out 2
                   have p371 : 0 ≤ (x66_3 : Int) := of_decide_eq_true as_
                   have q371 : x66_3 < (l0_2.length : Int) := of_decide_eq_true as_
                   obtain ⟨ad371, A371_0, c371_0, e371, hx371_0, hl371_0, hi371_0⟩ := at_L3 HR0_2.out x66_3 p371 q371
                   cases e371
                   (try replace hx371_0 := hc_ HB hx371_0)
                   have HR371_0 := Aside0.mk hi371_0
                   have HC371_0 := Aside0.mk hl371_0
                   clear hi371_0 hl371_0
                   replace p371 := eq_true p371
                   replace q371 := eq_true q371
                   go_wp2
                   repeat (go_quiet (fail); try go_wp2)
                   go_loopg [12, 13, 99] kj51 (fun kq v12 v13 v99 w' => ∃ (x12_5 : Bool) (x13_5 : Bool) (x99_5 : Int), v12 = .bool x12_5 ∧ v13 = .bool x13_5 ∧ v99 = .int .i64 x99_5 ∧ Aside0 (spec_l22Ranks.l3 kq (l0_0.length : Int) x6_2 x9_2 x10_3 x66_3 x12_5 x13_5 (x6_2.length : Int) x66_3 (rd_L3 l0_2 x66_3) ((rd_L3 l0_2 x66_3).length : Int) x99_5 l0_0 l0_1 l0_2 l1_0 l1_1 = some r) ∧ Aside0 (kq ≤ kj51) ∧ Aside0 (Kd.R (Kd.int .i64) 3 w' w.heap.size (fun k_ => some k_ ≠ (u10 : Value).ownBlock) (.slice Ao50 x6_2.length co50) x6_2) ∧ Aside0 (Kd.R (Kd.int .i64) 3 w' w.heap.size (fun k_ => some k_ ≠ ((.slice Ao50 x6_2.length co50) : Value).ownBlock) u10 x10_3) ∧ Aside0 (w'.heap[gb356]? = some (.cells #[(.slice A0_0 l0_0.length c0_0), (.slice A0_1 l0_1.length c0_1), (.slice (some ad371) l0_2.length c0_2)] 34 (0, 0))) ∧ Aside0 (w'.heap[gb357]? = some (.cells #[(.slice A1_0 l1_0.length c1_0), (.slice A1_1 l1_1.length c1_1)] 36 (0, 0))) ∧ Aside0 (Below w.heap.size w w'))
                   case atStart => exact ⟨(false), (true), (0), es_, es_, es_, H', ⟨Nat.le_refl _⟩, ⟨ra_ HO_6.out⟩, ⟨ra_ HO_10.out⟩, ⟨bk_ BK356.out⟩, ⟨bk_ BK357.out⟩, ⟨hb_⟩⟩
                   case round =>
                    clear H'
                    obtain ⟨x12_5, x13_5, x99_5, rfl, rfl, rfl, HA, HK5, HO_6, HO_10, BK356, BK357, HB⟩ := hrel
                    cases gk with
                    | zero => exact absurd HA.out (by simp [spec_l22Ranks.l3])
                    | succ k5 =>
                     have H := HA.out
                     clear HA
                     simp only [spec_l22Ranks.l3] at H
                     by_cases c71 : x99_5 < ((rd_L3 l0_2 x66_3).length : Int)
                     ·rw [if_pos c71] at H
                      have c71b0 : decide (x99_5 < ((rd_L3 l0_2 x66_3).length : Int)) = true := decide_eq_true c71
                      clear c71
                      by_cases c72 : 0 ≤ x99_5
                      ·rw [if_pos c72] at H
                       have c72b0 : decide (0 ≤ x99_5) = true := decide_eq_true c72
                       clear c72
                       by_cases c73 : x99_5 < ((rd_L3 l0_2 x66_3).length : Int)
                       ·rw [if_pos c73] at H
                        have c73b0 : decide (x99_5 < ((rd_L3 l0_2 x66_3).length : Int)) = true := decide_eq_true c73
                        clear c73
                        by_cases c74 : 0 ≤ (rd (rd_L3 l0_2 x66_3) x99_5)
                        ·rw [if_pos c74] at H
                         have c74b0 : decide (0 ≤ (rd (rd_L3 l0_2 x66_3) x99_5)) = true := decide_eq_true c74
                         clear c74
                         by_cases c75 : (rd (rd_L3 l0_2 x66_3) x99_5) < (x6_2.length : Int)
                         ·rw [if_pos c75] at H
                          have c75b0 : decide ((rd (rd_L3 l0_2 x66_3) x99_5) < (x6_2.length : Int)) = true := decide_eq_true c75
                          clear c75
                          by_cases c76 : x12_5 = true
                          ·subst c76
                           rw [if_pos rfl] at H
                           by_cases c77 : x13_5 = true
                           ·subst c77
                            rw [if_pos rfl] at H
                            have H' := Aside0.mk H
                            clear H
                            have p372 : 0 ≤ (x99_5 : Int) := of_decide_eq_true as_
                            have q372 : x99_5 < ((rd_L3 l0_2 x66_3).length : Int) := of_decide_eq_true as_
                            obtain ⟨ad372, e372, hx372_0⟩ := Kd.at_int HR371_0.out x99_5 p372 q372
                            cases e372
                            (try replace hx372_0 := hc_ HB hx372_0)
                            replace p372 := eq_true p372
                            replace q372 := eq_true q372
                            have p373 : 0 ≤ ((rd (rd_L3 l0_2 x66_3) x99_5) : Int) := of_decide_eq_true as_
                            have q373 : (rd (rd_L3 l0_2 x66_3) x99_5) < (x6_2.length : Int) := of_decide_eq_true as_
                            obtain ⟨ad373, e373, hx373_0⟩ := Kd.at_int (Kd.R_reads' HO_6.out).2.2 (rd (rd_L3 l0_2 x66_3) x99_5) p373 q373
                            cases e373
                            replace p373 := eq_true p373
                            replace q373 := eq_true q373
                            go_wp2
                            repeat (go_quiet (fail); try go_wp2)
                            go_roundg k5
                            case measure => have := HK1.out; have := HK2.out; have := HK3.out; have := HJ51.out; have := HK5.out; omega
                            case rel => exact ⟨(true), (decide ((rd x6_2 (rd (rd_L3 l0_2 x66_3) x99_5)) ≥ 0)), (wrap64 (x99_5 + 1)), es_, es_, es_, H', ⟨by have := HK1.out; have := HK2.out; have := HK3.out; have := HJ51.out; have := HK5.out; omega⟩, ⟨ra_ HO_6.out⟩, ⟨ra_ HO_10.out⟩, ⟨bk_ BK356.out⟩, ⟨bk_ BK357.out⟩, ⟨hb_⟩⟩
                           ·replace c77 := Bool.eq_false_iff.mpr c77
                            subst c77
                            rw [if_neg (show ¬ (false = true) by decide)] at H
                            have H' := Aside0.mk H
                            clear H
                            have p372 : 0 ≤ (x99_5 : Int) := of_decide_eq_true as_
                            have q372 : x99_5 < ((rd_L3 l0_2 x66_3).length : Int) := of_decide_eq_true as_
                            obtain ⟨ad372, e372, hx372_0⟩ := Kd.at_int HR371_0.out x99_5 p372 q372
                            cases e372
                            (try replace hx372_0 := hc_ HB hx372_0)
                            replace p372 := eq_true p372
                            replace q372 := eq_true q372
                            have p373 : 0 ≤ ((rd (rd_L3 l0_2 x66_3) x99_5) : Int) := of_decide_eq_true as_
                            have q373 : (rd (rd_L3 l0_2 x66_3) x99_5) < (x6_2.length : Int) := of_decide_eq_true as_
                            obtain ⟨ad373, e373, hx373_0⟩ := Kd.at_int (Kd.R_reads' HO_6.out).2.2 (rd (rd_L3 l0_2 x66_3) x99_5) p373 q373
                            cases e373
                            replace p373 := eq_true p373
                            replace q373 := eq_true q373
                            go_wp2
                            repeat (go_quiet (fail); try go_wp2)
                            go_roundg k5
                            case measure => have := HK1.out; have := HK2.out; have := HK3.out; have := HJ51.out; have := HK5.out; omega
                            case rel => exact ⟨(true), (false), (wrap64 (x99_5 + 1)), es_, es_, es_, H', ⟨by have := HK1.out; have := HK2.out; have := HK3.out; have := HJ51.out; have := HK5.out; omega⟩, ⟨ra_ HO_6.out⟩, ⟨ra_ HO_10.out⟩, ⟨bk_ BK356.out⟩, ⟨bk_ BK357.out⟩, ⟨hb_⟩⟩
                          ·replace c76 := Bool.eq_false_iff.mpr c76
                           subst c76
                           rw [if_neg (show ¬ (false = true) by decide)] at H
                           by_cases c78 : x13_5 = true
                           ·subst c78
                            rw [if_pos rfl] at H
                            have H' := Aside0.mk H
                            clear H
                            have p372 : 0 ≤ (x99_5 : Int) := of_decide_eq_true as_
                            have q372 : x99_5 < ((rd_L3 l0_2 x66_3).length : Int) := of_decide_eq_true as_
                            obtain ⟨ad372, e372, hx372_0⟩ := Kd.at_int HR371_0.out x99_5 p372 q372
                            cases e372
                            (try replace hx372_0 := hc_ HB hx372_0)
                            replace p372 := eq_true p372
                            replace q372 := eq_true q372
                            have p373 : 0 ≤ ((rd (rd_L3 l0_2 x66_3) x99_5) : Int) := of_decide_eq_true as_
                            have q373 : (rd (rd_L3 l0_2 x66_3) x99_5) < (x6_2.length : Int) := of_decide_eq_true as_
                            obtain ⟨ad373, e373, hx373_0⟩ := Kd.at_int (Kd.R_reads' HO_6.out).2.2 (rd (rd_L3 l0_2 x66_3) x99_5) p373 q373
                            cases e373
                            replace p373 := eq_true p373
                            replace q373 := eq_true q373
                            go_wp2
                            repeat (go_quiet (fail); try go_wp2)
                            go_roundg k5
                            case measure => have := HK1.out; have := HK2.out; have := HK3.out; have := HJ51.out; have := HK5.out; omega
                            case rel => exact ⟨(decide ((rd x6_2 (rd (rd_L3 l0_2 x66_3) x99_5)) ≥ 0)), (decide ((rd x6_2 (rd (rd_L3 l0_2 x66_3) x99_5)) ≥ 0)), (wrap64 (x99_5 + 1)), es_, es_, es_, H', ⟨by have := HK1.out; have := HK2.out; have := HK3.out; have := HJ51.out; have := HK5.out; omega⟩, ⟨ra_ HO_6.out⟩, ⟨ra_ HO_10.out⟩, ⟨bk_ BK356.out⟩, ⟨bk_ BK357.out⟩, ⟨hb_⟩⟩
                           ·replace c78 := Bool.eq_false_iff.mpr c78
                            subst c78
                            rw [if_neg (show ¬ (false = true) by decide)] at H
                            have H' := Aside0.mk H
                            clear H
                            have p372 : 0 ≤ (x99_5 : Int) := of_decide_eq_true as_
                            have q372 : x99_5 < ((rd_L3 l0_2 x66_3).length : Int) := of_decide_eq_true as_
                            obtain ⟨ad372, e372, hx372_0⟩ := Kd.at_int HR371_0.out x99_5 p372 q372
                            cases e372
                            (try replace hx372_0 := hc_ HB hx372_0)
                            replace p372 := eq_true p372
                            replace q372 := eq_true q372
                            have p373 : 0 ≤ ((rd (rd_L3 l0_2 x66_3) x99_5) : Int) := of_decide_eq_true as_
                            have q373 : (rd (rd_L3 l0_2 x66_3) x99_5) < (x6_2.length : Int) := of_decide_eq_true as_
                            obtain ⟨ad373, e373, hx373_0⟩ := Kd.at_int (Kd.R_reads' HO_6.out).2.2 (rd (rd_L3 l0_2 x66_3) x99_5) p373 q373
                            cases e373
                            replace p373 := eq_true p373
                            replace q373 := eq_true q373
                            go_wp2
                            repeat (go_quiet (fail); try go_wp2)
                            go_roundg k5
                            case measure => have := HK1.out; have := HK2.out; have := HK3.out; have := HJ51.out; have := HK5.out; omega
                            case rel => exact ⟨(decide ((rd x6_2 (rd (rd_L3 l0_2 x66_3) x99_5)) ≥ 0)), (false), (wrap64 (x99_5 + 1)), es_, es_, es_, H', ⟨by have := HK1.out; have := HK2.out; have := HK3.out; have := HJ51.out; have := HK5.out; omega⟩, ⟨ra_ HO_6.out⟩, ⟨ra_ HO_10.out⟩, ⟨bk_ BK356.out⟩, ⟨bk_ BK357.out⟩, ⟨hb_⟩⟩
                         ·rw [if_neg c75] at H
                          exact absurd H (by simp)
                        ·rw [if_neg c74] at H
                         exact absurd H (by simp)
                       ·rw [if_neg c73] at H
                        exact absurd H (by simp)
                      ·rw [if_neg c72] at H
                       exact absurd H (by simp)
                     ·rw [if_neg c71] at H
                      have c71b0 : decide (x99_5 < ((rd_L3 l0_2 x66_3).length : Int)) = false := decide_eq_false c71
                      clear c71
                      by_cases c79 : 0 ≤ x66_3
                      ·rw [if_pos c79] at H
                       have c79b0 : decide (0 ≤ x66_3) = true := decide_eq_true c79
                       clear c79
                       by_cases c80 : x66_3 < (l0_1.length : Int)
                       ·rw [if_pos c80] at H
                        have c80b0 : decide (x66_3 < (l0_1.length : Int)) = true := decide_eq_true c80
                        clear c80
                        obtain ⟨bq81, hbq81⟩ : ∃ b_ : Bool, b_ = (rdOf false l0_1 x66_3) := ⟨_, rfl⟩
                        replace H : (if bq81 = true then (if x12_5 = true then (if x10_3.length < 17592186044416 then (spec_l22Ranks.l2 k5 (l0_0.length : Int) x6_2 x9_2 (x10_3 ++ [x66_3]) (x6_2.length : Int) (wrap64 (x66_3 + 1)) l0_0 l0_1 l0_2 l1_0 l1_1) else (none)) else (spec_l22Ranks.l2 k5 (l0_0.length : Int) x6_2 x9_2 x10_3 (x6_2.length : Int) (wrap64 (x66_3 + 1)) l0_0 l0_1 l0_2 l1_0 l1_1)) else (if x13_5 = true then (if x10_3.length < 17592186044416 then (spec_l22Ranks.l2 k5 (l0_0.length : Int) x6_2 x9_2 (x10_3 ++ [x66_3]) (x6_2.length : Int) (wrap64 (x66_3 + 1)) l0_0 l0_1 l0_2 l1_0 l1_1) else (none)) else (spec_l22Ranks.l2 k5 (l0_0.length : Int) x6_2 x9_2 x10_3 (x6_2.length : Int) (wrap64 (x66_3 + 1)) l0_0 l0_1 l0_2 l1_0 l1_1))) = some r := by rw [← hbq81] at H; exact H
                        have Nbq81 := Aside0.mk hbq81
                        clear hbq81
                        by_cases c82 : bq81 = true
                        ·subst c82
                         rw [if_pos rfl] at H
                         by_cases c83 : x12_5 = true
                         ·subst c83
                          rw [if_pos rfl] at H
                          by_cases c84 : x10_3.length < 17592186044416
                          ·rw [if_pos c84] at H
                           have LMc84 := Aside0.mk c84
                           clear c84
                           obtain ⟨y375, hy375⟩ : ∃ y_ : List Int, y_ = (x10_3 ++ [x66_3]) := ⟨_, rfl⟩
                           replace H : (spec_l22Ranks.l2 k5 (l0_0.length : Int) x6_2 x9_2 y375 (x6_2.length : Int) (wrap64 (x66_3 + 1)) l0_0 l0_1 l0_2 l1_0 l1_1) = some r := by first | (rw [hy375]; with_reducible exact H) | (have H2_ := (Option.bind_some _ _).symm.trans H; rw [hy375]; with_reducible exact H2_) | (have H2_ := (Option.bind_some _ _).symm.trans H; with_reducible exact H2_) | with_reducible exact H | (rw [hy375]; exact H) | exact H
                           have Ny375 := Aside0.mk hy375
                           clear hy375
                           have H' := Aside0.mk H
                           clear H
                           have hnb85 := NB356_357.out
                           have hnc85 := NB357_356.out
                           have hcz86_0 : wr.cell? ⟨gb356, 0, none⟩ = some (.slice A0_0 l0_0.length c0_0) := (blk_cell BK356.out 0).trans rfl
                           have hcz86_1 : wr.cell? ⟨gb356, 1, none⟩ = some (.slice A0_1 l0_1.length c0_1) := (blk_cell BK356.out 1).trans rfl
                           have hcz86_2 : wr.cell? ⟨gb356, 2, none⟩ = some (.slice (some ad371) l0_2.length c0_2) := (blk_cell BK356.out 2).trans rfl
                           have hfz86_0 := blk_frozen BK356.out 0
                           have hfz86_1 := blk_frozen BK356.out 1
                           have hfz86_2 := blk_frozen BK356.out 2
                           have p374 : 0 ≤ (x66_3 : Int) := of_decide_eq_true as_
                           have q374 : x66_3 < (l0_1.length : Int) := of_decide_eq_true as_
                           obtain ⟨ad374, e374, hx374_0⟩ := Kd.at_bool HR0_1.out x66_3 p374 q374
                           (try rw [← Nbq81.out] at hx374_0)
                           cases e374
                           (try replace hx374_0 := hc_ HB hx374_0)
                           replace p374 := eq_true p374
                           replace q374 := eq_true q374
                           go_wp2_with (first | ((with_reducible refine gate_builtin (b := .append) (xs := #[.tmp 136, .tmp 138]) rfl ?_); (try (refine gate_guard (by rfl) ?_; dsimp only)); at_builtin; refine Kd.R_append (Kd.int .i64) (w0 := w) w.heap.size rfl (.tmp 136) (.tmp 138) 31 3 (.int .i64 0) 8 rfl Tryd.underlying31 info3 rfl (by decide) (by omega) u10 x10_3 x66_3 [.int .i64 x66_3] (fun k_ => some k_ ≠ (.slice Ao50 x6_2.length co50 : Value).ownBlock) (fun _ => False) rfl rfl ?aP (fun _ hk => hk.elim) ?aF ?aO ?aB ?aS ?aL ?_; (case aP => exact rfl); (case aB => exact hb_); (case aF => exact (fun k_ hk => Kd.fresh' (Kd.R_lt (ra_ HO_6.out)) k_ hk)); (case aO => exact (ra_ HO_10.out)); (case aS => exact (below_size hb_)); (case aL => have := LMc84.out; omega); intro v376 w87 ho hb hg hat; rw [← Ny375.out] at ho; have n0_ := Aside0.mk (Kd.R_after (ok := (fun _ => True)) (by (with_reducible repeat (first | apply Kd.R_alloc | apply Kd.R_drewN | apply Kd.R_drew)); exact Kd.R_mono HO_6.out (fun _ hk => ⟨trivial, hk⟩)) hg hat); have n1_ := Aside0.mk (blk_grown (g := gb356) (o := .cells #[.slice A0_0 l0_0.length c0_0, .slice (some ad374) l0_1.length c0_1, .slice (some ad371) l0_2.length c0_2] 34 (0, 0)) (bk_ BK356.out) hg (Kd.R_ne HO_10.out BK356.out (by decide))); have n2_ := Aside0.mk (blk_grown (g := gb357) (o := .cells #[.slice A1_0 l1_0.length c1_0, .slice A1_1 l1_1.length c1_1] 36 (0, 0)) (bk_ BK357.out) hg (Kd.R_ne HO_10.out BK357.out (by decide))); have n3_ := Aside0.mk (hb); have n4_ := Aside0.mk (ho); clear HO_6; clear BK356; clear BK357; clear HB; clear HO_10; have HO_6 := n0_; have BK356 := n1_; have BK357 := n2_; have HB := n3_; have HO377 := n4_; clear n0_ n1_ n2_ n3_ n4_; clear ho hb hg hat))
                           repeat (go_quiet (first | ((with_reducible refine gate_builtin (b := .append) (xs := #[.tmp 136, .tmp 138]) rfl ?_); (try (refine gate_guard (by rfl) ?_; dsimp only)); at_builtin; refine Kd.R_append (Kd.int .i64) (w0 := w) w.heap.size rfl (.tmp 136) (.tmp 138) 31 3 (.int .i64 0) 8 rfl Tryd.underlying31 info3 rfl (by decide) (by omega) u10 x10_3 x66_3 [.int .i64 x66_3] (fun k_ => some k_ ≠ (.slice Ao50 x6_2.length co50 : Value).ownBlock) (fun _ => False) rfl rfl ?aP (fun _ hk => hk.elim) ?aF ?aO ?aB ?aS ?aL ?_; (case aP => exact rfl); (case aB => exact hb_); (case aF => exact (fun k_ hk => Kd.fresh' (Kd.R_lt (ra_ HO_6.out)) k_ hk)); (case aO => exact (ra_ HO_10.out)); (case aS => exact (below_size hb_)); (case aL => have := LMc84.out; omega); intro v376 w87 ho hb hg hat; rw [← Ny375.out] at ho; have n0_ := Aside0.mk (Kd.R_after (ok := (fun _ => True)) (by (with_reducible repeat (first | apply Kd.R_alloc | apply Kd.R_drewN | apply Kd.R_drew)); exact Kd.R_mono HO_6.out (fun _ hk => ⟨trivial, hk⟩)) hg hat); have n1_ := Aside0.mk (blk_grown (g := gb356) (o := .cells #[.slice A0_0 l0_0.length c0_0, .slice (some ad374) l0_1.length c0_1, .slice (some ad371) l0_2.length c0_2] 34 (0, 0)) (bk_ BK356.out) hg (Kd.R_ne HO_10.out BK356.out (by decide))); have n2_ := Aside0.mk (blk_grown (g := gb357) (o := .cells #[.slice A1_0 l1_0.length c1_0, .slice A1_1 l1_1.length c1_1] 36 (0, 0)) (bk_ BK357.out) hg (Kd.R_ne HO_10.out BK357.out (by decide))); have n3_ := Aside0.mk (hb); have n4_ := Aside0.mk (ho); clear HO_6; clear BK356; clear BK357; clear HB; clear HO_10; have HO_6 := n0_; have BK356 := n1_; have BK357 := n2_; have HB := n3_; have HO377 := n4_; clear n0_ n1_ n2_ n3_ n4_; clear ho hb hg hat)); try go_wp2_with (first | ((with_reducible refine gate_builtin (b := .append) (xs := #[.tmp 136, .tmp 138]) rfl ?_); (try (refine gate_guard (by rfl) ?_; dsimp only)); at_builtin; refine Kd.R_append (Kd.int .i64) (w0 := w) w.heap.size rfl (.tmp 136) (.tmp 138) 31 3 (.int .i64 0) 8 rfl Tryd.underlying31 info3 rfl (by decide) (by omega) u10 x10_3 x66_3 [.int .i64 x66_3] (fun k_ => some k_ ≠ (.slice Ao50 x6_2.length co50 : Value).ownBlock) (fun _ => False) rfl rfl ?aP (fun _ hk => hk.elim) ?aF ?aO ?aB ?aS ?aL ?_; (case aP => exact rfl); (case aB => exact hb_); (case aF => exact (fun k_ hk => Kd.fresh' (Kd.R_lt (ra_ HO_6.out)) k_ hk)); (case aO => exact (ra_ HO_10.out)); (case aS => exact (below_size hb_)); (case aL => have := LMc84.out; omega); intro v376 w87 ho hb hg hat; rw [← Ny375.out] at ho; have n0_ := Aside0.mk (Kd.R_after (ok := (fun _ => True)) (by (with_reducible repeat (first | apply Kd.R_alloc | apply Kd.R_drewN | apply Kd.R_drew)); exact Kd.R_mono HO_6.out (fun _ hk => ⟨trivial, hk⟩)) hg hat); have n1_ := Aside0.mk (blk_grown (g := gb356) (o := .cells #[.slice A0_0 l0_0.length c0_0, .slice (some ad374) l0_1.length c0_1, .slice (some ad371) l0_2.length c0_2] 34 (0, 0)) (bk_ BK356.out) hg (Kd.R_ne HO_10.out BK356.out (by decide))); have n2_ := Aside0.mk (blk_grown (g := gb357) (o := .cells #[.slice A1_0 l1_0.length c1_0, .slice A1_1 l1_1.length c1_1] 36 (0, 0)) (bk_ BK357.out) hg (Kd.R_ne HO_10.out BK357.out (by decide))); have n3_ := Aside0.mk (hb); have n4_ := Aside0.mk (ho); clear HO_6; clear BK356; clear BK357; clear HB; clear HO_10; have HO_6 := n0_; have BK356 := n1_; have BK357 := n2_; have HB := n3_; have HO377 := n4_; clear n0_ n1_ n2_ n3_ n4_; clear ho hb hg hat)))
                           go_roundg k5
                           case measure => have := HK1.out; have := HK2.out; have := HK3.out; have := HJ51.out; have := HK5.out; omega
                           case rel => exact ⟨(y375), (wrap64 (x66_3 + 1)), es_, H', ⟨by have := HK1.out; have := HK2.out; have := HK3.out; have := HJ51.out; have := HK5.out; omega⟩, ⟨by (with_reducible repeat (first | apply Kd.R_alloc | apply Kd.R_drewN | apply Kd.R_drew)); exact Kd.R_mono HO_6.out (fun _ hk => hk.2)⟩, ⟨ra_ HO377.out⟩, ⟨bk_ BK356.out⟩, ⟨bk_ BK357.out⟩, ⟨hb_⟩⟩
                          ·rw [if_neg c84] at H
                           exact absurd H (by simp)
                         ·replace c83 := Bool.eq_false_iff.mpr c83
                          subst c83
                          rw [if_neg (show ¬ (false = true) by decide)] at H
                          have H' := Aside0.mk H
                          clear H
                          have hnb88 := NB356_357.out
                          have hnc88 := NB357_356.out
                          have hcz89_0 : wr.cell? ⟨gb356, 0, none⟩ = some (.slice A0_0 l0_0.length c0_0) := (blk_cell BK356.out 0).trans rfl
                          have hcz89_1 : wr.cell? ⟨gb356, 1, none⟩ = some (.slice A0_1 l0_1.length c0_1) := (blk_cell BK356.out 1).trans rfl
                          have hcz89_2 : wr.cell? ⟨gb356, 2, none⟩ = some (.slice (some ad371) l0_2.length c0_2) := (blk_cell BK356.out 2).trans rfl
                          have hfz89_0 := blk_frozen BK356.out 0
                          have hfz89_1 := blk_frozen BK356.out 1
                          have hfz89_2 := blk_frozen BK356.out 2
                          have p374 : 0 ≤ (x66_3 : Int) := of_decide_eq_true as_
                          have q374 : x66_3 < (l0_1.length : Int) := of_decide_eq_true as_
                          obtain ⟨ad374, e374, hx374_0⟩ := Kd.at_bool HR0_1.out x66_3 p374 q374
                          (try rw [← Nbq81.out] at hx374_0)
                          cases e374
                          (try replace hx374_0 := hc_ HB hx374_0)
                          replace p374 := eq_true p374
                          replace q374 := eq_true q374
                          have p378 : 0 ≤ (x66_3 : Int) := of_decide_eq_true as_
                          have q378 : x66_3 < (l0_1.length : Int) := of_decide_eq_true as_
                          obtain ⟨ad378, e378, hx378_0⟩ := Kd.at_bool HR0_1.out x66_3 p378 q378
                          (try rw [← Nbq81.out] at hx378_0)
                          obtain rfl : ad374 = ad378 := (by injection e378)
                          (try replace hx378_0 := hc_ HB hx378_0)
                          replace p378 := eq_true p378
                          replace q378 := eq_true q378
                          go_wp2
                          repeat (go_quiet (fail); try go_wp2)
                          go_roundg k5
                          case measure => have := HK1.out; have := HK2.out; have := HK3.out; have := HJ51.out; have := HK5.out; omega
                          case rel => exact ⟨(x10_3), (wrap64 (x66_3 + 1)), es_, H', ⟨by have := HK1.out; have := HK2.out; have := HK3.out; have := HJ51.out; have := HK5.out; omega⟩, ⟨ra_ HO_6.out⟩, ⟨ra_ HO_10.out⟩, ⟨bk_ BK356.out⟩, ⟨bk_ BK357.out⟩, ⟨hb_⟩⟩
                        ·replace c82 := Bool.eq_false_iff.mpr c82
                         subst c82
                         rw [if_neg (show ¬ (false = true) by decide)] at H
                         by_cases c90 : x13_5 = true
                         ·subst c90
                          rw [if_pos rfl] at H
                          by_cases c91 : x10_3.length < 17592186044416
                          ·rw [if_pos c91] at H
                           have LMc91 := Aside0.mk c91
                           clear c91
                           obtain ⟨y380, hy380⟩ : ∃ y_ : List Int, y_ = (x10_3 ++ [x66_3]) := ⟨_, rfl⟩
                           replace H : (spec_l22Ranks.l2 k5 (l0_0.length : Int) x6_2 x9_2 y380 (x6_2.length : Int) (wrap64 (x66_3 + 1)) l0_0 l0_1 l0_2 l1_0 l1_1) = some r := by first | (rw [hy380]; with_reducible exact H) | (have H2_ := (Option.bind_some _ _).symm.trans H; rw [hy380]; with_reducible exact H2_) | (have H2_ := (Option.bind_some _ _).symm.trans H; with_reducible exact H2_) | with_reducible exact H | (rw [hy380]; exact H) | exact H
                           have Ny380 := Aside0.mk hy380
                           clear hy380
                           have H' := Aside0.mk H
                           clear H
                           have hnb92 := NB356_357.out
                           have hnc92 := NB357_356.out
                           have hcz93_0 : wr.cell? ⟨gb356, 0, none⟩ = some (.slice A0_0 l0_0.length c0_0) := (blk_cell BK356.out 0).trans rfl
                           have hcz93_1 : wr.cell? ⟨gb356, 1, none⟩ = some (.slice A0_1 l0_1.length c0_1) := (blk_cell BK356.out 1).trans rfl
                           have hcz93_2 : wr.cell? ⟨gb356, 2, none⟩ = some (.slice (some ad371) l0_2.length c0_2) := (blk_cell BK356.out 2).trans rfl
                           have hfz93_0 := blk_frozen BK356.out 0
                           have hfz93_1 := blk_frozen BK356.out 1
                           have hfz93_2 := blk_frozen BK356.out 2
                           have p374 : 0 ≤ (x66_3 : Int) := of_decide_eq_true as_
                           have q374 : x66_3 < (l0_1.length : Int) := of_decide_eq_true as_
                           obtain ⟨ad374, e374, hx374_0⟩ := Kd.at_bool HR0_1.out x66_3 p374 q374
                           (try rw [← Nbq81.out] at hx374_0)
                           cases e374
                           (try replace hx374_0 := hc_ HB hx374_0)
                           replace p374 := eq_true p374
                           replace q374 := eq_true q374
                           have p379 : 0 ≤ (x66_3 : Int) := of_decide_eq_true as_
                           have q379 : x66_3 < (l0_1.length : Int) := of_decide_eq_true as_
                           obtain ⟨ad379, e379, hx379_0⟩ := Kd.at_bool HR0_1.out x66_3 p379 q379
                           (try rw [← Nbq81.out] at hx379_0)
                           obtain rfl : ad374 = ad379 := (by injection e379)
                           (try replace hx379_0 := hc_ HB hx379_0)
                           replace p379 := eq_true p379
                           replace q379 := eq_true q379
                           go_wp2_with (first | ((with_reducible refine gate_builtin (b := .append) (xs := #[.tmp 136, .tmp 138]) rfl ?_); (try (refine gate_guard (by rfl) ?_; dsimp only)); at_builtin; refine Kd.R_append (Kd.int .i64) (w0 := w) w.heap.size rfl (.tmp 136) (.tmp 138) 31 3 (.int .i64 0) 8 rfl Tryd.underlying31 info3 rfl (by decide) (by omega) u10 x10_3 x66_3 [.int .i64 x66_3] (fun k_ => some k_ ≠ (.slice Ao50 x6_2.length co50 : Value).ownBlock) (fun _ => False) rfl rfl ?aP (fun _ hk => hk.elim) ?aF ?aO ?aB ?aS ?aL ?_; (case aP => exact rfl); (case aB => exact hb_); (case aF => exact (fun k_ hk => Kd.fresh' (Kd.R_lt (ra_ HO_6.out)) k_ hk)); (case aO => exact (ra_ HO_10.out)); (case aS => exact (below_size hb_)); (case aL => have := LMc91.out; omega); intro v381 w94 ho hb hg hat; rw [← Ny380.out] at ho; have n0_ := Aside0.mk (Kd.R_after (ok := (fun _ => True)) (by (with_reducible repeat (first | apply Kd.R_alloc | apply Kd.R_drewN | apply Kd.R_drew)); exact Kd.R_mono HO_6.out (fun _ hk => ⟨trivial, hk⟩)) hg hat); have n1_ := Aside0.mk (blk_grown (g := gb356) (o := .cells #[.slice A0_0 l0_0.length c0_0, .slice (some ad374) l0_1.length c0_1, .slice (some ad371) l0_2.length c0_2] 34 (0, 0)) (bk_ BK356.out) hg (Kd.R_ne HO_10.out BK356.out (by decide))); have n2_ := Aside0.mk (blk_grown (g := gb357) (o := .cells #[.slice A1_0 l1_0.length c1_0, .slice A1_1 l1_1.length c1_1] 36 (0, 0)) (bk_ BK357.out) hg (Kd.R_ne HO_10.out BK357.out (by decide))); have n3_ := Aside0.mk (hb); have n4_ := Aside0.mk (ho); clear HO_6; clear BK356; clear BK357; clear HB; clear HO_10; have HO_6 := n0_; have BK356 := n1_; have BK357 := n2_; have HB := n3_; have HO382 := n4_; clear n0_ n1_ n2_ n3_ n4_; clear ho hb hg hat))
                           repeat (go_quiet (first | ((with_reducible refine gate_builtin (b := .append) (xs := #[.tmp 136, .tmp 138]) rfl ?_); (try (refine gate_guard (by rfl) ?_; dsimp only)); at_builtin; refine Kd.R_append (Kd.int .i64) (w0 := w) w.heap.size rfl (.tmp 136) (.tmp 138) 31 3 (.int .i64 0) 8 rfl Tryd.underlying31 info3 rfl (by decide) (by omega) u10 x10_3 x66_3 [.int .i64 x66_3] (fun k_ => some k_ ≠ (.slice Ao50 x6_2.length co50 : Value).ownBlock) (fun _ => False) rfl rfl ?aP (fun _ hk => hk.elim) ?aF ?aO ?aB ?aS ?aL ?_; (case aP => exact rfl); (case aB => exact hb_); (case aF => exact (fun k_ hk => Kd.fresh' (Kd.R_lt (ra_ HO_6.out)) k_ hk)); (case aO => exact (ra_ HO_10.out)); (case aS => exact (below_size hb_)); (case aL => have := LMc91.out; omega); intro v381 w94 ho hb hg hat; rw [← Ny380.out] at ho; have n0_ := Aside0.mk (Kd.R_after (ok := (fun _ => True)) (by (with_reducible repeat (first | apply Kd.R_alloc | apply Kd.R_drewN | apply Kd.R_drew)); exact Kd.R_mono HO_6.out (fun _ hk => ⟨trivial, hk⟩)) hg hat); have n1_ := Aside0.mk (blk_grown (g := gb356) (o := .cells #[.slice A0_0 l0_0.length c0_0, .slice (some ad374) l0_1.length c0_1, .slice (some ad371) l0_2.length c0_2] 34 (0, 0)) (bk_ BK356.out) hg (Kd.R_ne HO_10.out BK356.out (by decide))); have n2_ := Aside0.mk (blk_grown (g := gb357) (o := .cells #[.slice A1_0 l1_0.length c1_0, .slice A1_1 l1_1.length c1_1] 36 (0, 0)) (bk_ BK357.out) hg (Kd.R_ne HO_10.out BK357.out (by decide))); have n3_ := Aside0.mk (hb); have n4_ := Aside0.mk (ho); clear HO_6; clear BK356; clear BK357; clear HB; clear HO_10; have HO_6 := n0_; have BK356 := n1_; have BK357 := n2_; have HB := n3_; have HO382 := n4_; clear n0_ n1_ n2_ n3_ n4_; clear ho hb hg hat)); try go_wp2_with (first | ((with_reducible refine gate_builtin (b := .append) (xs := #[.tmp 136, .tmp 138]) rfl ?_); (try (refine gate_guard (by rfl) ?_; dsimp only)); at_builtin; refine Kd.R_append (Kd.int .i64) (w0 := w) w.heap.size rfl (.tmp 136) (.tmp 138) 31 3 (.int .i64 0) 8 rfl Tryd.underlying31 info3 rfl (by decide) (by omega) u10 x10_3 x66_3 [.int .i64 x66_3] (fun k_ => some k_ ≠ (.slice Ao50 x6_2.length co50 : Value).ownBlock) (fun _ => False) rfl rfl ?aP (fun _ hk => hk.elim) ?aF ?aO ?aB ?aS ?aL ?_; (case aP => exact rfl); (case aB => exact hb_); (case aF => exact (fun k_ hk => Kd.fresh' (Kd.R_lt (ra_ HO_6.out)) k_ hk)); (case aO => exact (ra_ HO_10.out)); (case aS => exact (below_size hb_)); (case aL => have := LMc91.out; omega); intro v381 w94 ho hb hg hat; rw [← Ny380.out] at ho; have n0_ := Aside0.mk (Kd.R_after (ok := (fun _ => True)) (by (with_reducible repeat (first | apply Kd.R_alloc | apply Kd.R_drewN | apply Kd.R_drew)); exact Kd.R_mono HO_6.out (fun _ hk => ⟨trivial, hk⟩)) hg hat); have n1_ := Aside0.mk (blk_grown (g := gb356) (o := .cells #[.slice A0_0 l0_0.length c0_0, .slice (some ad374) l0_1.length c0_1, .slice (some ad371) l0_2.length c0_2] 34 (0, 0)) (bk_ BK356.out) hg (Kd.R_ne HO_10.out BK356.out (by decide))); have n2_ := Aside0.mk (blk_grown (g := gb357) (o := .cells #[.slice A1_0 l1_0.length c1_0, .slice A1_1 l1_1.length c1_1] 36 (0, 0)) (bk_ BK357.out) hg (Kd.R_ne HO_10.out BK357.out (by decide))); have n3_ := Aside0.mk (hb); have n4_ := Aside0.mk (ho); clear HO_6; clear BK356; clear BK357; clear HB; clear HO_10; have HO_6 := n0_; have BK356 := n1_; have BK357 := n2_; have HB := n3_; have HO382 := n4_; clear n0_ n1_ n2_ n3_ n4_; clear ho hb hg hat)))
                           go_roundg k5
                           case measure => have := HK1.out; have := HK2.out; have := HK3.out; have := HJ51.out; have := HK5.out; omega
                           case rel => exact ⟨(y380), (wrap64 (x66_3 + 1)), es_, H', ⟨by have := HK1.out; have := HK2.out; have := HK3.out; have := HJ51.out; have := HK5.out; omega⟩, ⟨by (with_reducible repeat (first | apply Kd.R_alloc | apply Kd.R_drewN | apply Kd.R_drew)); exact Kd.R_mono HO_6.out (fun _ hk => hk.2)⟩, ⟨ra_ HO382.out⟩, ⟨bk_ BK356.out⟩, ⟨bk_ BK357.out⟩, ⟨hb_⟩⟩
                          ·rw [if_neg c91] at H
                           exact absurd H (by simp)
                         ·replace c90 := Bool.eq_false_iff.mpr c90
                          subst c90
                          rw [if_neg (show ¬ (false = true) by decide)] at H
                          have H' := Aside0.mk H
                          clear H
                          have hnb95 := NB356_357.out
                          have hnc95 := NB357_356.out
                          have hcz96_0 : wr.cell? ⟨gb356, 0, none⟩ = some (.slice A0_0 l0_0.length c0_0) := (blk_cell BK356.out 0).trans rfl
                          have hcz96_1 : wr.cell? ⟨gb356, 1, none⟩ = some (.slice A0_1 l0_1.length c0_1) := (blk_cell BK356.out 1).trans rfl
                          have hcz96_2 : wr.cell? ⟨gb356, 2, none⟩ = some (.slice (some ad371) l0_2.length c0_2) := (blk_cell BK356.out 2).trans rfl
                          have hfz96_0 := blk_frozen BK356.out 0
                          have hfz96_1 := blk_frozen BK356.out 1
                          have hfz96_2 := blk_frozen BK356.out 2
                          have p374 : 0 ≤ (x66_3 : Int) := of_decide_eq_true as_
                          have q374 : x66_3 < (l0_1.length : Int) := of_decide_eq_true as_
                          obtain ⟨ad374, e374, hx374_0⟩ := Kd.at_bool HR0_1.out x66_3 p374 q374
                          (try rw [← Nbq81.out] at hx374_0)
                          cases e374
                          (try replace hx374_0 := hc_ HB hx374_0)
                          replace p374 := eq_true p374
                          replace q374 := eq_true q374
                          have p379 : 0 ≤ (x66_3 : Int) := of_decide_eq_true as_
                          have q379 : x66_3 < (l0_1.length : Int) := of_decide_eq_true as_
                          obtain ⟨ad379, e379, hx379_0⟩ := Kd.at_bool HR0_1.out x66_3 p379 q379
                          (try rw [← Nbq81.out] at hx379_0)
                          obtain rfl : ad374 = ad379 := (by injection e379)
                          (try replace hx379_0 := hc_ HB hx379_0)
                          replace p379 := eq_true p379
                          replace q379 := eq_true q379
                          go_wp2
                          repeat (go_quiet (fail); try go_wp2)
                          go_roundg k5
                          case measure => have := HK1.out; have := HK2.out; have := HK3.out; have := HJ51.out; have := HK5.out; omega
                          case rel => exact ⟨(x10_3), (wrap64 (x66_3 + 1)), es_, H', ⟨by have := HK1.out; have := HK2.out; have := HK3.out; have := HJ51.out; have := HK5.out; omega⟩, ⟨ra_ HO_6.out⟩, ⟨ra_ HO_10.out⟩, ⟨bk_ BK356.out⟩, ⟨bk_ BK357.out⟩, ⟨hb_⟩⟩
                       ·rw [if_neg c80] at H
                        exact absurd H (by simp)
                      ·rw [if_neg c79] at H
                       exact absurd H (by simp)
                  ·rw [if_neg c68] at H
                   exact absurd H (by simp)
                 ·rw [if_neg c67] at H
                  exact absurd H (by simp)
             ·rw [if_neg c51] at H
              have c51b0 : decide (x66_3 < (x6_2.length : Int)) = false := decide_eq_false c51
              clear c51
              have H' := Aside0.mk H
              clear H
              obtain ⟨Ao97, co97, eo97⟩ := Kd.R_slice HO_10.out
              subst eo97
              go_wp2
              repeat (go_quiet (fail); try go_wp2)
              go_loopg [143] k3 (fun kq v143 w' => ∃ (x6_4 : List Int) (x143_4 : Int), v143 = .int .i64 x143_4 ∧ Aside0 (spec_l22Ranks.l4 kq (l0_0.length : Int) x6_4 x9_2 x10_3 (x10_3.length : Int) x143_4 l0_0 l0_1 l0_2 l1_0 l1_1 = some r) ∧ Aside0 (kq ≤ k3) ∧ Aside0 (Kd.R (Kd.int .i64) 3 w' w.heap.size (fun k_ => some k_ ≠ ((.slice Ao97 x10_3.length co97) : Value).ownBlock) (.slice Ao50 x6_2.length co50) x6_4) ∧ Aside0 (Kd.R (Kd.int .i64) 3 w' w.heap.size (fun k_ => some k_ ≠ ((.slice Ao50 x6_2.length co50) : Value).ownBlock) (.slice Ao97 x10_3.length co97) x10_3) ∧ Aside0 (w'.heap[gb356]? = some (.cells #[(.slice A0_0 l0_0.length c0_0), (.slice A0_1 l0_1.length c0_1), (.slice A0_2 l0_2.length c0_2)] 34 (0, 0))) ∧ Aside0 (w'.heap[gb357]? = some (.cells #[(.slice A1_0 l1_0.length c1_0), (.slice A1_1 l1_1.length c1_1)] 36 (0, 0))) ∧ Aside0 (Below w.heap.size w w'))
              case atStart => exact ⟨(x6_2), (0), es_, H', ⟨Nat.le_refl _⟩, ⟨ra_ HO_6.out⟩, ⟨ra_ HO_10.out⟩, ⟨bk_ BK356.out⟩, ⟨bk_ BK357.out⟩, ⟨hb_⟩⟩
              case round =>
               clear H'
               obtain ⟨x6_4, x143_4, rfl, HA, HK4, HO_6, HO_141, BK356, BK357, HB⟩ := hrel
               have hl6_4 := (Kd.R_reads' HO_6.out).1
               rw [hl6_4] at HO_6
               (try simp only [hl6_4])
               (try simp only [hl6_4] at BK356)
               (try simp only [hl6_4] at BK357)
               (try simp only [hl6_4] at HO_141)
               cases gk with
               | zero => exact absurd HA.out (by simp [spec_l22Ranks.l4])
               | succ k4 =>
                have H := HA.out
                clear HA
                simp only [spec_l22Ranks.l4] at H
                by_cases c98 : x143_4 < (x10_3.length : Int)
                ·rw [if_pos c98] at H
                 have c98b0 : decide (x143_4 < (x10_3.length : Int)) = true := decide_eq_true c98
                 (try simp only [hl6_4] at c98b0)
                 clear c98
                 by_cases c99 : 0 ≤ x143_4
                 ·rw [if_pos c99] at H
                  have c99b0 : decide (0 ≤ x143_4) = true := decide_eq_true c99
                  clear c99
                  by_cases c100 : x143_4 < (x10_3.length : Int)
                  ·rw [if_pos c100] at H
                   have c100b0 : decide (x143_4 < (x10_3.length : Int)) = true := decide_eq_true c100
                   (try simp only [hl6_4] at c100b0)
                   clear c100
                   by_cases c101 : 0 ≤ (rd x10_3 x143_4)
                   ·rw [if_pos c101] at H
                    have c101b0 : decide (0 ≤ (rd x10_3 x143_4)) = true := decide_eq_true c101
                    clear c101
                    by_cases c102 : (rd x10_3 x143_4) < (x6_4.length : Int)
                    ·rw [if_pos c102] at H
                     have c102b0 : decide ((rd x10_3 x143_4) < (x6_4.length : Int)) = true := decide_eq_true c102
                     (try simp only [hl6_4] at c102b0)
                     clear c102
                     obtain ⟨y384, hy384⟩ : ∃ y_ : List Int, y_ = (x6_4.set ((rd x10_3 x143_4) : Int).toNat x9_2) := ⟨_, rfl⟩
                     replace H : (spec_l22Ranks.l4 k4 (l0_0.length : Int) y384 x9_2 x10_3 (x10_3.length : Int) (wrap64 (x143_4 + 1)) l0_0 l0_1 l0_2 l1_0 l1_1) = some r := by first | (rw [hy384]; with_reducible exact H) | (have H2_ := (Option.bind_some _ _).symm.trans H; rw [hy384]; with_reducible exact H2_) | (have H2_ := (Option.bind_some _ _).symm.trans H; with_reducible exact H2_) | with_reducible exact H | (rw [hy384]; exact H) | exact H
                     have Ny384 := Aside0.mk hy384
                     clear hy384
                     have H' := Aside0.mk H
                     clear H
                     have p383 : 0 ≤ (x143_4 : Int) := of_decide_eq_true as_
                     have q383 : x143_4 < (x10_3.length : Int) := of_decide_eq_true as_
                     obtain ⟨ad383, e383, hx383_0⟩ := Kd.at_int (Kd.R_reads' HO_141.out).2.2 x143_4 p383 q383
                     cases e383
                     replace p383 := eq_true p383
                     replace q383 := eq_true q383
                     have p103 : 0 ≤ ((rd x10_3 x143_4) : Int) := of_decide_eq_true as_
                     have q103 : ((rd x10_3 x143_4) : Int) < ((x6_4.length : Int) : Int) := of_decide_eq_true as_
                     obtain ⟨go103, co103, eo103, gb103, gl103, cl103, HG103⟩ := Kd.R_form HO_6.out (by omega)
                     (first | cases eo103 | (injection eo103 with ea_ en_ ec_; (first | subst ea_ | (injection ea_ with ea_; subst ea_)); subst ec_; clear en_))
                     have GB103 := Aside0.mk gb103
                     have GG103 := Aside0.mk HG103
                     clear gb103 gl103 HG103
                     obtain ⟨hx103_0, hf103_0⟩ := Kd.R_celln 0 HO_6.out ((rd x10_3 x143_4) : Int) p103 q103
                     replace p103 := eq_true p103
                     replace q103 := eq_true q103
                     have HP104 := Kd.R_putg HO_6.out ((rd x10_3 x143_4) : Int) x9_2
                     go_wp2_with (first | ((with_reducible refine gate_store (t := 3) (p := 150) rfl ?_); (try (rw [drewN_self wr]; generalize hq_ : World.drewN wr _ = wr; have n0_ := Aside0.mk (Kd.R_at hq_ HO_6.out); have n1_ := Aside0.mk (Kd.R_at hq_ HO_141.out); have n2_ := Aside0.mk (blk_at hq_ BK356.out); have n3_ := Aside0.mk (blk_at hq_ BK357.out); have n4_ := Aside0.mk (below_at hq_ HB.out); clear hq_ HO_6 HO_141 BK356 BK357 HB; have HO_6 := n0_; have HO_141 := n1_; have BK356 := n2_; have BK357 := n3_; have HB := n4_; clear n0_ n1_ n2_ n3_ n4_; (try (have HP104 := Kd.R_putg HO_6.out ((rd x10_3 x143_4) : Int) x9_2)))); refine store_event (t := 3) (p := 150) (v := ?vo_w105) (w1 := (wr.setCell ⟨go103, ((rd x10_3 x143_4) : Int).toNat, none⟩ (.int .i64 x9_2))) ?hg ?ho ?hn ?hr ?_; (case ho => rfl); (case hg => rfl); (case hn => rfl); (case hr => first | (go_simp; done) | (go_simp; rfl)); intro w105 hw; have hg : wr.grownBy w105 (some go103) := (by rw [hw]; exact HP104.2); have hp_ : Kd.R (Kd.int .i64) 3 w105 w.heap.size (fun k_ => some k_ ≠ (.slice (some ad383) x10_3.length co97 : Value).ownBlock) (.slice (some ⟨go103, 0, none⟩) x6_4.length co50) y384 := (by rw [hw, Ny384.out]; exact HP104.1); clear HP104; have n0_ := Aside0.mk (hp_); have n1_ := Aside0.mk (Kd.R_after (v := (.slice (some ⟨go103, 0, none⟩) x6_4.length co50)) (v1 := (.slice (some ⟨go103, 0, none⟩) x6_4.length co50)) (ok := (fun _ => True)) (by (with_reducible repeat (first | apply Kd.R_alloc | apply Kd.R_drewN | apply Kd.R_drew)); exact Kd.R_mono HO_141.out (fun _ hk => ⟨trivial, hk⟩)) hg (.inl rfl)); have n2_ := Aside0.mk (blk_grown (g := gb356) (o := .cells #[.slice A0_0 l0_0.length c0_0, .slice A0_1 l0_1.length c0_1, .slice A0_2 l0_2.length c0_2] 34 (0, 0)) (bk_ BK356.out) hg (Kd.R_ne HO_6.out BK356.out (by decide))); have n3_ := Aside0.mk (blk_grown (g := gb357) (o := .cells #[.slice A1_0 l1_0.length c1_0, .slice A1_1 l1_1.length c1_1] 36 (0, 0)) (bk_ BK357.out) hg (Kd.R_ne HO_6.out BK357.out (by decide))); have n4_ := Aside0.mk ((by rw [hw]; exact below_set (HB.out) GB103.out : Below w.heap.size w w105)); clear HO_6; clear HO_141; clear BK356; clear BK357; clear HB; have HO_6 := n0_; have HO_141 := n1_; have BK356 := n2_; have BK357 := n3_; have HB := n4_; clear n0_ n1_ n2_ n3_ n4_; clear hg hw hp_))
                     repeat (go_quiet (first | ((with_reducible refine gate_store (t := 3) (p := 150) rfl ?_); (try (rw [drewN_self wr]; generalize hq_ : World.drewN wr _ = wr; have n0_ := Aside0.mk (Kd.R_at hq_ HO_6.out); have n1_ := Aside0.mk (Kd.R_at hq_ HO_141.out); have n2_ := Aside0.mk (blk_at hq_ BK356.out); have n3_ := Aside0.mk (blk_at hq_ BK357.out); have n4_ := Aside0.mk (below_at hq_ HB.out); clear hq_ HO_6 HO_141 BK356 BK357 HB; have HO_6 := n0_; have HO_141 := n1_; have BK356 := n2_; have BK357 := n3_; have HB := n4_; clear n0_ n1_ n2_ n3_ n4_; (try (have HP104 := Kd.R_putg HO_6.out ((rd x10_3 x143_4) : Int) x9_2)))); refine store_event (t := 3) (p := 150) (v := ?vo_w105) (w1 := (wr.setCell ⟨go103, ((rd x10_3 x143_4) : Int).toNat, none⟩ (.int .i64 x9_2))) ?hg ?ho ?hn ?hr ?_; (case ho => rfl); (case hg => rfl); (case hn => rfl); (case hr => first | (go_simp; done) | (go_simp; rfl)); intro w105 hw; have hg : wr.grownBy w105 (some go103) := (by rw [hw]; exact HP104.2); have hp_ : Kd.R (Kd.int .i64) 3 w105 w.heap.size (fun k_ => some k_ ≠ (.slice (some ad383) x10_3.length co97 : Value).ownBlock) (.slice (some ⟨go103, 0, none⟩) x6_4.length co50) y384 := (by rw [hw, Ny384.out]; exact HP104.1); clear HP104; have n0_ := Aside0.mk (hp_); have n1_ := Aside0.mk (Kd.R_after (v := (.slice (some ⟨go103, 0, none⟩) x6_4.length co50)) (v1 := (.slice (some ⟨go103, 0, none⟩) x6_4.length co50)) (ok := (fun _ => True)) (by (with_reducible repeat (first | apply Kd.R_alloc | apply Kd.R_drewN | apply Kd.R_drew)); exact Kd.R_mono HO_141.out (fun _ hk => ⟨trivial, hk⟩)) hg (.inl rfl)); have n2_ := Aside0.mk (blk_grown (g := gb356) (o := .cells #[.slice A0_0 l0_0.length c0_0, .slice A0_1 l0_1.length c0_1, .slice A0_2 l0_2.length c0_2] 34 (0, 0)) (bk_ BK356.out) hg (Kd.R_ne HO_6.out BK356.out (by decide))); have n3_ := Aside0.mk (blk_grown (g := gb357) (o := .cells #[.slice A1_0 l1_0.length c1_0, .slice A1_1 l1_1.length c1_1] 36 (0, 0)) (bk_ BK357.out) hg (Kd.R_ne HO_6.out BK357.out (by decide))); have n4_ := Aside0.mk ((by rw [hw]; exact below_set (HB.out) GB103.out : Below w.heap.size w w105)); clear HO_6; clear HO_141; clear BK356; clear BK357; clear HB; have HO_6 := n0_; have HO_141 := n1_; have BK356 := n2_; have BK357 := n3_; have HB := n4_; clear n0_ n1_ n2_ n3_ n4_; clear hg hw hp_)); try go_wp2_with (first | ((with_reducible refine gate_store (t := 3) (p := 150) rfl ?_); (try (rw [drewN_self wr]; generalize hq_ : World.drewN wr _ = wr; have n0_ := Aside0.mk (Kd.R_at hq_ HO_6.out); have n1_ := Aside0.mk (Kd.R_at hq_ HO_141.out); have n2_ := Aside0.mk (blk_at hq_ BK356.out); have n3_ := Aside0.mk (blk_at hq_ BK357.out); have n4_ := Aside0.mk (below_at hq_ HB.out); clear hq_ HO_6 HO_141 BK356 BK357 HB; have HO_6 := n0_; have HO_141 := n1_; have BK356 := n2_; have BK357 := n3_; have HB := n4_; clear n0_ n1_ n2_ n3_ n4_; (try (have HP104 := Kd.R_putg HO_6.out ((rd x10_3 x143_4) : Int) x9_2)))); refine store_event (t := 3) (p := 150) (v := ?vo_w105) (w1 := (wr.setCell ⟨go103, ((rd x10_3 x143_4) : Int).toNat, none⟩ (.int .i64 x9_2))) ?hg ?ho ?hn ?hr ?_; (case ho => rfl); (case hg => rfl); (case hn => rfl); (case hr => first | (go_simp; done) | (go_simp; rfl)); intro w105 hw; have hg : wr.grownBy w105 (some go103) := (by rw [hw]; exact HP104.2); have hp_ : Kd.R (Kd.int .i64) 3 w105 w.heap.size (fun k_ => some k_ ≠ (.slice (some ad383) x10_3.length co97 : Value).ownBlock) (.slice (some ⟨go103, 0, none⟩) x6_4.length co50) y384 := (by rw [hw, Ny384.out]; exact HP104.1); clear HP104; have n0_ := Aside0.mk (hp_); have n1_ := Aside0.mk (Kd.R_after (v := (.slice (some ⟨go103, 0, none⟩) x6_4.length co50)) (v1 := (.slice (some ⟨go103, 0, none⟩) x6_4.length co50)) (ok := (fun _ => True)) (by (with_reducible repeat (first | apply Kd.R_alloc | apply Kd.R_drewN | apply Kd.R_drew)); exact Kd.R_mono HO_141.out (fun _ hk => ⟨trivial, hk⟩)) hg (.inl rfl)); have n2_ := Aside0.mk (blk_grown (g := gb356) (o := .cells #[.slice A0_0 l0_0.length c0_0, .slice A0_1 l0_1.length c0_1, .slice A0_2 l0_2.length c0_2] 34 (0, 0)) (bk_ BK356.out) hg (Kd.R_ne HO_6.out BK356.out (by decide))); have n3_ := Aside0.mk (blk_grown (g := gb357) (o := .cells #[.slice A1_0 l1_0.length c1_0, .slice A1_1 l1_1.length c1_1] 36 (0, 0)) (bk_ BK357.out) hg (Kd.R_ne HO_6.out BK357.out (by decide))); have n4_ := Aside0.mk ((by rw [hw]; exact below_set (HB.out) GB103.out : Below w.heap.size w w105)); clear HO_6; clear HO_141; clear BK356; clear BK357; clear HB; have HO_6 := n0_; have HO_141 := n1_; have BK356 := n2_; have BK357 := n3_; have HB := n4_; clear n0_ n1_ n2_ n3_ n4_; clear hg hw hp_)))
                     (try simp only [← hl6_4])
                     go_roundg k4
                     case measure => have := HK1.out; have := HK2.out; have := HK3.out; have := HK4.out; omega
                     case rel => exact ⟨(y384), (wrap64 (x143_4 + 1)), es_, H', ⟨by have := HK1.out; have := HK2.out; have := HK3.out; have := HK4.out; omega⟩, ⟨by (try simp only [hl6_4]); (with_reducible repeat (first | apply Kd.R_alloc | apply Kd.R_drewN | apply Kd.R_drew)); exact HO_6.out⟩, ⟨by (try simp only [hl6_4]); (with_reducible repeat (first | apply Kd.R_alloc | apply Kd.R_drewN | apply Kd.R_drew)); exact Kd.R_mono HO_141.out (fun _ hk => hk.2)⟩, ⟨by (try simp only [hl6_4]); (with_reducible repeat (first | refine blk_drewN ?_ _ | refine blk_drew ?_ | refine blk_alloc ?_ _)); exact BK356.out⟩, ⟨by (try simp only [hl6_4]); (with_reducible repeat (first | refine blk_drewN ?_ _ | refine blk_drew ?_ | refine blk_alloc ?_ _)); exact BK357.out⟩, ⟨hb_⟩⟩
                    ·rw [if_neg c102] at H
                     exact absurd H (by simp)
                   ·rw [if_neg c101] at H
                    exact absurd H (by simp)
                  ·rw [if_neg c100] at H
                   exact absurd H (by simp)
                 ·rw [if_neg c99] at H
                  exact absurd H (by simp)
                ·rw [if_neg c98] at H
                 have c98b0 : decide (x143_4 < (x10_3.length : Int)) = false := decide_eq_false c98
                 (try simp only [hl6_4] at c98b0)
                 clear c98
                 have H' := Aside0.mk H
                 clear H
                 go_wp2
                 repeat (go_quiet (fail); try go_wp2)
                 (try simp only [← hl6_4])
                 go_roundg k4
                 case measure => have := HK1.out; have := HK2.out; have := HK3.out; have := HK4.out; omega
                 case rel => exact ⟨(x6_4), (wrap64 (x9_2 + 1)), es_, H', ⟨by have := HK1.out; have := HK2.out; have := HK3.out; have := HK4.out; omega⟩, ⟨by (try simp only [hl6_4]); (with_reducible repeat (first | apply Kd.R_alloc | apply Kd.R_drewN | apply Kd.R_drew)); exact Kd.R_mono HO_6.out (fun _ hk => trivial)⟩, ⟨by (try simp only [hl6_4]); (with_reducible repeat (first | refine blk_drewN ?_ _ | refine blk_drew ?_ | refine blk_alloc ?_ _)); exact BK356.out⟩, ⟨by (try simp only [hl6_4]); (with_reducible repeat (first | refine blk_drewN ?_ _ | refine blk_drew ?_ | refine blk_alloc ?_ _)); exact BK357.out⟩, ⟨hb_⟩⟩
          ·rw [if_neg c49] at H
           have c49b0 : decide (x9_2 ≤ (l0_0.length : Int)) = false := decide_eq_false c49
           clear c49
           obtain rfl := Option.some.inj H
           go_wp2
           repeat (go_quiet (fail); try go_wp2)
           go_ret
           exact ⟨_, er_, by (with_reducible repeat (first | apply Kd.R_alloc | apply Kd.R_drewN | apply Kd.R_drew)); exact HO_6.out, hb_⟩
   ·rw [if_neg c4] at H
    exact absurd H (by simp)
  ·rw [if_neg c3] at H
   exact absurd H (by simp)

end Go.Proofs.YtdihodboopeakaaDoor.Pr
