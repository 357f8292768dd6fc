-- Written by this session's own print (wip/tools/mkmp.py) out of the translation. Lean checks it.
import Derived.Test.YtjcmlggdaajicaaPr0
import Derived.Test.YtjcmlggdaajicaaPr2
import Derived.Test.YtjcmlggdaajicaaPr5
import Derived.Test.YtjcmlggdaajicaaPr6
import Derived.Test.YtjcmlggdaajicaaPr11
import Derived.Test.YtjcmlggdaajicaaPrd2
namespace Go.Proofs.Ytjcmlggdaajicaa.Pr
open Go.RowKit Go.Proofs.YtjcmlggdaajicaaW.PrintWords Go.Proofs.YtjcmlggdaajicaaW.PrintLast Go.Proofs.YtjcmlggdaajicaaW.PrintMore
attribute [local go_sem] max2_int min2_int max_two min_two max_three min_three max_four min_four   -- for this text's walks alone
set_option linter.unusedVariables false
set_option linter.unusedSimpArgs false

set_option maxHeartbeats 8000000 in
set_option maxRecDepth 100000 in
theorem laws_FnClears.calls (k : Nat) (A0 : Option Addr) (c0 : Nat) (l0 : List Int) (r : Bool) (w : World) (hr0 : Kd.C (Kd.int .u8) w A0 l0.length l0) (hc0 : l0.length ≤ c0) (h : laws_FnClears.f k l0 = some r) :
   Calls Try.prog 7 #[.slice A0 l0.length c0] w fun e w' => e = .returned (.bool r) ∧ Below w.heap.size w w' := by
  have hu27 := Try.underlying27
  have HR0 := Aside0.mk hr0
  have HC0 := Aside0.mk hc0
  clear hr0 hc0
  have HB := Aside0.mk (Below.refl w.heap.size w)
  have H : (if (l0.length : Int) > 1048576 then (some true) else ((spec_DrawMostClear.f k l0).bind fun bt279 => ((impl_MostClear.f k bt279.1 bt279.2.1 bt279.2.2).bind fun t285 => ((spec_MostClear.f k bt279.1 bt279.2.1 bt279.2.2).bind fun t288 => (if (t285.length : Int) = (t288.length : Int) then ((laws_zRising.f k t285).bind fun t291 => (laws_FnClears.j0 k bt279.2.2 t285 (!t291) bt279.1 bt279.2.1)) else (laws_FnClears.j0 k bt279.2.2 t285 true bt279.1 bt279.2.1)))))) = some r := h
  clear h
  by_cases c2 : (l0.length : Int) > 1048576
  ·rw [if_pos c2] at H
   have c2b0 : decide (1048576 < (l0.length : Int)) = true := decide_eq_true c2
   have c2b1 : decide (1048576 < l0.length) = true := decide_eq_true (by omega)
   clear c2
   obtain rfl := Option.some.inj H
   go_enter Try.func7, Try.ntmps7
   go_wp2
   go_ret
   exact ⟨er_, hb_⟩
  ·rw [if_neg c2] at H
   have c2b0 : decide (1048576 < (l0.length : Int)) = false := decide_eq_false c2
   have c2b1 : decide (1048576 < l0.length) = false := decide_eq_false (by omega)
   clear c2
   replace H := Option.bind_eq_some_iff.mp H
   obtain ⟨⟨t279, t280, t283⟩, A30, H⟩ := H
   replace H : ((impl_MostClear.f k t279 t280 t283).bind fun t285 => ((spec_MostClear.f k t279 t280 t283).bind fun t288 => (if (t285.length : Int) = (t288.length : Int) then ((laws_zRising.f k t285).bind fun t291 => (laws_FnClears.j0 k t283 t285 (!t291) t279 t280)) else (laws_FnClears.j0 k t283 t285 true t279 t280)))) = some r := H
   have A3 := Aside0.mk A30
   clear A30
   replace H := Option.bind_eq_some_iff.mp H
   obtain ⟨t285, A40, H⟩ := H
   replace H : ((spec_MostClear.f k t279 t280 t283).bind fun t288 => (if (t285.length : Int) = (t288.length : Int) then ((laws_zRising.f k t285).bind fun t291 => (laws_FnClears.j0 k t283 t285 (!t291) t279 t280)) else (laws_FnClears.j0 k t283 t285 true t279 t280))) = some r := H
   have A4 := Aside0.mk A40
   clear A40
   have HC5 := Aside0.mk H
   clear H
   go_enter Try.func7, Try.ntmps7
   go_upto_region 5 with (first | ((with_reducible refine gate_callee (f := 26) rfl ?_); refine goesL_ (some 12) rfl rfl Try.func26 (by kernel_rfl) rfl #[.slice A0 l0.length c0] rfl ls_ ?_; (with_reducible refine (spec_DrawMostClear.calls k _ _ l0 t279 t280 t283 _ ?side1 ?side2 A3.out).mono ?_); (case side1 => repeat (first | exact HR0.out | (with_reducible refine Kd.C_alloc ?_ _) | (with_reducible refine Kd.C_drewN ?_ _) | (with_reducible refine Kd.C_drew ?_))); (case side2 => exact HC0.out); rintro e w6 ⟨v281, rfl, ho0, hb⟩; refine ⟨_, rfl, ?_⟩; have n0_ := Aside0.mk (Kd.R_lower ho0 (below_size hb_)); have n1_ := Aside0.mk (below_step hb_ hb); clear HB; have HO282 := n0_; have HB := n1_; clear n0_ n1_; (try clear hb); (try clear hb2); (try clear hk); (try clear hi); (try clear ho0)) | ((with_reducible refine gate_dst (N := 3) rfl ?_); refine box_event ?hg (N := 3) ?hd (cs := #[.int .i64 0, .slice none 0 0]) (t := 27) ?hr ?_; (case hd => rfl); (case hg => rfl); (case hr => first | (go_simp; done) | (go_simp; rfl)); intro gb284 hg w7 hbox hb; have n0_ := Aside0.mk (Kd.R_below (ra_ HO282.out) hb); have n1_ := Aside0.mk (below_step hb_ hb); have n2_ := Aside0.mk (hbox); have n3_ : Aside0 (w.heap.size ≤ gb284) := gz_; have n4_ : Aside0 (w.heap.size ≤ gb284) := gz_; clear HO282; clear HB; have HO282 := n0_; have HB := n1_; have BK284 := n2_; have GW284 := n3_; have GE284 := n4_; clear n0_ n1_ n2_ n3_ n4_; clear hb hbox hg; have hcz8_0 : w7.cell? ⟨gb284, 0, none⟩ = some (.int .i64 0) := (blk_cell BK284.out 0).trans rfl; have hcz8_1 : w7.cell? ⟨gb284, 1, none⟩ = some (.slice none 0 0) := (blk_cell BK284.out 1).trans rfl; have hfz8_0 := blk_frozen BK284.out 0; have hfz8_1 := blk_frozen BK284.out 1; obtain ⟨Ao9, co9, eo9⟩ := Kd.R_slice HO282.out; subst eo9) | ((with_reducible refine gate_callee (f := 20) rfl ?_); refine goesL_ (some 17) rfl rfl Try.func20 (by kernel_rfl) rfl #[.agg #[.int .i64 t279, .slice Ao9 t280.length co9], .int .i64 t283] rfl ls_ ?_; (with_reducible refine (impl_MostClear.calls k t279 _ _ t280 t283 t285 _ ?side1 ?side2 A4.out).mono ?_); (case side1 => refine (Kd.R_reads' (e := 3) (base := w.heap.size) (ok := fun k_ => True) (n := t280.length) (c := co9) ?_).2.2; exact (by (with_reducible repeat (first | apply Kd.R_alloc | apply Kd.R_drewN | apply Kd.R_drew)); exact (Kd.R_mono (Kd.R_far (p := ⟨gb284, 1, none⟩) (Kd.R_far (p := ⟨gb284, 0, none⟩) (Kd.R_types HO282.out BK284.out (by decide)) (fun _ hk => hk.2) (.int .i64 t279)) (fun _ hk => hk.2) (.slice Ao9 t280.length co9)) (fun _ h_ => h_.1)))); (case side2 => exact (Kd.R_reads' HO282.out).2.1); rintro e w10 ⟨v286, rfl, ho0, hb⟩; refine ⟨_, rfl, ?_⟩; have n0_ := Aside0.mk (Kd.R_elder' (by (with_reducible repeat (first | apply Kd.R_alloc | apply Kd.R_drewN | apply Kd.R_drew)); exact (Kd.R_mono (Kd.R_far (p := ⟨gb284, 1, none⟩) (Kd.R_far (p := ⟨gb284, 0, none⟩) (Kd.R_types HO282.out BK284.out (by decide)) (fun _ hk => hk.2) (.int .i64 t279)) (fun _ hk => hk.2) (.slice Ao9 t280.length co9)) (fun _ h_ => h_.1))) (Kd.R_base ho0) hb); have n1_ := Aside0.mk (Kd.R_lower (Kd.R_new' ho0 (Kd.R_lt (by (with_reducible repeat (first | apply Kd.R_alloc | apply Kd.R_drewN | apply Kd.R_drew)); exact (Kd.R_mono (Kd.R_far (p := ⟨gb284, 1, none⟩) (Kd.R_far (p := ⟨gb284, 0, none⟩) (Kd.R_types HO282.out BK284.out (by decide)) (fun _ hk => hk.2) (.int .i64 t279)) (fun _ hk => hk.2) (.slice Ao9 t280.length co9)) (fun _ h_ => h_.1))))) (below_size hb_)); have n2_ := Aside0.mk (blk_below (g := gb284) (o := .cells #[.int .i64 t279, .slice Ao9 t280.length co9] 27 (0, 0)) (by (with_reducible repeat (first | refine blk_drewN ?_ _ | refine blk_drew ?_ | refine blk_alloc ?_ _)); refine blk_put (cs := #[.int .i64 t279, .slice none 0 0]) ?_ 1 _ rfl; (with_reducible repeat (first | refine blk_drewN ?_ _ | refine blk_drew ?_ | refine blk_alloc ?_ _)); refine blk_put (cs := #[.int .i64 0, .slice none 0 0]) ?_ 0 _ rfl; (with_reducible repeat (first | refine blk_drewN ?_ _ | refine blk_drew ?_ | refine blk_alloc ?_ _)); exact BK284.out) hb); have n3_ := Aside0.mk (below_step hb_ hb); clear HO282; clear BK284; clear HB; have HO282 := n0_; have HO287 := n1_; have BK284 := n2_; have HB := n3_; clear n0_ n1_ n2_ n3_; (try clear hb); (try clear hb2); (try clear hk); (try clear hi); (try clear ho0)))
   (try simp only [Act.put, List.setIfInBounds_toArray, List.set_cons_zero, List.set_cons_succ])
   go_cut [29] (fun v29 wc => ∃ (kq : Nat) (x29_4 : Bool), v29 = .bool x29_4 ∧ Aside0 (laws_FnClears.j0 kq t283 t285 x29_4 t279 t280 = some r) ∧ Aside0 (kq ≤ k) ∧ Aside0 (Kd.R (Kd.int .i64) 3 wc w.heap.size (fun k_ => some k_ ≠ ((.slice Ao9 t280.length co9) : Value).ownBlock) v286 t285) ∧ Aside0 (Kd.R (Kd.int .i64) 3 wc w.heap.size (fun k_ => some k_ ≠ (v286 : Value).ownBlock) (.slice Ao9 t280.length co9) t280) ∧ Aside0 (wc.heap[gb284]? = some (.cells #[.int .i64 t279, (.slice Ao9 t280.length co9)] 27 (0, 0))) ∧ Aside0 (Below w.heap.size w wc))
   case first =>
    have H := HC5.out
    clear HC5
    replace H := Option.bind_eq_some_iff.mp H
    obtain ⟨t288, A110, H⟩ := H
    replace H : (if (t285.length : Int) = (t288.length : Int) then ((laws_zRising.f k t285).bind fun t291 => (laws_FnClears.j0 k t283 t285 (!t291) t279 t280)) else (laws_FnClears.j0 k t283 t285 true t279 t280)) = some r := H
    have A11 := Aside0.mk A110
    clear A110
    by_cases c12 : (t285.length : Int) = (t288.length : Int)
    ·rw [if_pos c12] at H
     have c12b0 : ((t285.length : Int) == (t288.length : Int)) = true := beq_iff_eq.mpr c12
     have c12b1 : ((t285.length : Int) != (t288.length : Int)) = false := bne_eq_false_iff_eq.mpr c12
     have c12b2 : (t285.length == t288.length) = true := by first | simpa using c12 | (simp at c12 ⊢; omega)
     clear c12
     (first | rw [c12b0] | (simp only [i64_w, i32_w]; rw [c12b0]) | skip)
     replace H := Option.bind_eq_some_iff.mp H
     obtain ⟨t291, A130, H⟩ := H
     replace H : (laws_FnClears.j0 k t283 t285 (!t291) t279 t280) = some r := H
     have A13 := Aside0.mk A130
     clear A130
     have H' := Aside0.mk H
     clear H
     obtain ⟨Ao14, co14, eo14⟩ := Kd.R_slice HO287.out
     subst eo14
     have hcz15_0 : w10.cell? ⟨gb284, 0, none⟩ = some (.int .i64 t279) := (blk_cell BK284.out 0).trans rfl
     have hcz15_1 : w10.cell? ⟨gb284, 1, none⟩ = some (.slice Ao9 t280.length co9) := (blk_cell BK284.out 1).trans rfl
     have hfz15_0 := blk_frozen BK284.out 0
     have hfz15_1 := blk_frozen BK284.out 1
     go_wp2_with (first | ((with_reducible refine gate_callee (f := 19) rfl ?_); refine goesL_ (some 22) rfl rfl Try.func19 (by kernel_rfl) rfl #[.agg #[.int .i64 t279, .slice Ao9 t280.length co9], .int .i64 t283] rfl ls_ ?_; (with_reducible refine (spec_MostClear.calls k t279 _ _ t280 t283 t288 _ ?side1 ?side2 A11.out).mono ?_); (case side1 => exact ca_ (Kd.R_reads' HO282.out).2.2); (case side2 => exact (Kd.R_reads' HO282.out).2.1); rintro e w16 ⟨v289, rfl, ho0, hb⟩; refine ⟨_, rfl, ?_⟩; have n0_ := Aside0.mk (Kd.R_elder' (ra_ HO282.out) (Kd.R_base ho0) hb); have n1_ := Aside0.mk (Kd.R_elder' (ra_ HO287.out) (Kd.R_base ho0) hb); have n2_ := Aside0.mk (Kd.R_lower (Kd.R_new' (Kd.R_new' ho0 (Kd.R_lt (ra_ HO282.out))) (Kd.R_lt (ra_ HO287.out))) (below_size hb_)); have n3_ := bb_ BK284 hb; have n4_ := Aside0.mk (below_step hb_ hb); clear HO282; clear HO287; clear BK284; clear HB; have HO282 := n0_; have HO287 := n1_; have HO290 := n2_; have BK284 := n3_; have HB := n4_; clear n0_ n1_ n2_ n3_ n4_; (try clear hb); (try clear hb2); (try clear hk); (try clear hi); (try clear ho0); obtain ⟨Ao17, co17, eo17⟩ := Kd.R_slice HO290.out; subst eo17) | (go_at_call 27; (with_reducible refine (laws_zRising.calls k _ _ t285 t291 _ ?side1 ?side2 A13.out).mono ?_); (case side1 => exact ca_ (Kd.R_reads' HO287.out).2.2); (case side2 => exact (Kd.R_reads' HO287.out).2.1); rintro e w' ⟨rfl, ⟨nd, rfl⟩⟩))
     go_meet
     case rel => exact ⟨_, (!t291), es_, H', ⟨by first | omega | exact Nat.le_refl _⟩, ⟨by (with_reducible repeat (first | apply Kd.R_alloc | apply Kd.R_drewN | apply Kd.R_drew)); exact Kd.R_mono HO287.out (fun _ hk => hk.1.2)⟩, ⟨by (with_reducible repeat (first | apply Kd.R_alloc | apply Kd.R_drewN | apply Kd.R_drew)); exact Kd.R_mono HO282.out (fun _ hk => hk.1.2)⟩, ⟨bk_ BK284.out⟩, ⟨hb_⟩⟩
    ·rw [if_neg c12] at H
     have c12b0 : ((t285.length : Int) == (t288.length : Int)) = false := beq_eq_false_iff_ne.mpr c12
     have c12b1 : ((t285.length : Int) != (t288.length : Int)) = true := bne_iff_ne.mpr c12
     have c12b2 : (t285.length == t288.length) = false := by first | simpa using c12 | (simp at c12 ⊢; omega)
     (first | rw [c12b0] | (simp only [i64_w, i32_w]; rw [c12b0]) | skip)
     have H' := Aside0.mk H
     clear H
     obtain ⟨Ao18, co18, eo18⟩ := Kd.R_slice HO287.out
     subst eo18
     have hcz19_0 : w10.cell? ⟨gb284, 0, none⟩ = some (.int .i64 t279) := (blk_cell BK284.out 0).trans rfl
     have hcz19_1 : w10.cell? ⟨gb284, 1, none⟩ = some (.slice Ao9 t280.length co9) := (blk_cell BK284.out 1).trans rfl
     have hfz19_0 := blk_frozen BK284.out 0
     have hfz19_1 := blk_frozen BK284.out 1
     go_wp2_with (first | ((with_reducible refine gate_callee (f := 19) rfl ?_); refine goesL_ (some 22) rfl rfl Try.func19 (by kernel_rfl) rfl #[.agg #[.int .i64 t279, .slice Ao9 t280.length co9], .int .i64 t283] rfl ls_ ?_; (with_reducible refine (spec_MostClear.calls k t279 _ _ t280 t283 t288 _ ?side1 ?side2 A11.out).mono ?_); (case side1 => exact ca_ (Kd.R_reads' HO282.out).2.2); (case side2 => exact (Kd.R_reads' HO282.out).2.1); rintro e w20 ⟨v289, rfl, ho0, hb⟩; refine ⟨_, rfl, ?_⟩; have n0_ := Aside0.mk (Kd.R_elder' (ra_ HO282.out) (Kd.R_base ho0) hb); have n1_ := Aside0.mk (Kd.R_elder' (ra_ HO287.out) (Kd.R_base ho0) hb); have n2_ := Aside0.mk (Kd.R_lower (Kd.R_new' (Kd.R_new' ho0 (Kd.R_lt (ra_ HO282.out))) (Kd.R_lt (ra_ HO287.out))) (below_size hb_)); have n3_ := bb_ BK284 hb; have n4_ := Aside0.mk (below_step hb_ hb); clear HO282; clear HO287; clear BK284; clear HB; have HO282 := n0_; have HO287 := n1_; have HO290 := n2_; have BK284 := n3_; have HB := n4_; clear n0_ n1_ n2_ n3_ n4_; (try clear hb); (try clear hb2); (try clear hk); (try clear hi); (try clear ho0); obtain ⟨Ao21, co21, eo21⟩ := Kd.R_slice HO290.out; subst eo21))
     go_meet
     case rel => exact ⟨_, (true), es_, H', ⟨by first | omega | exact Nat.le_refl _⟩, ⟨by (with_reducible repeat (first | apply Kd.R_alloc | apply Kd.R_drewN | apply Kd.R_drew)); exact Kd.R_mono HO287.out (fun _ hk => hk.1.2)⟩, ⟨by (with_reducible repeat (first | apply Kd.R_alloc | apply Kd.R_drewN | apply Kd.R_drew)); exact Kd.R_mono HO282.out (fun _ hk => hk.1.2)⟩, ⟨bk_ BK284.out⟩, ⟨hb_⟩⟩
   case rest =>
    clear HC5
    try clear c1
    try clear c2
    try clear c2b0
    try clear c2b1
    try clear p2
    try clear c7
    try clear c12
    try clear c12b0
    try clear c12b1
    try clear c12b2
    try clear c19
    try clear c20
    try clear hcz15_0
    try clear hcz15_1
    try clear hcz19_0
    try clear hcz19_1
    try clear hcz8_0
    try clear hcz8_1
    try clear hfz15_0
    try clear hfz15_1
    try clear hfz19_0
    try clear hfz19_1
    try clear hfz8_0
    try clear hfz8_1
    obtain ⟨kq, x29_4, rfl, HA, HJ4, HO_5, HO_285001, BK284, HB⟩ := hcut
    cases kq with
    | zero => exact absurd HA.out (by simp [laws_FnClears.j0])
    | succ kj4 =>
     have H := HA.out
     clear HA
     simp only [laws_FnClears.j0] at H
     by_cases c22 : x29_4 = true
     ·subst c22
      rw [if_pos rfl] at H
      obtain rfl := Option.some.inj H
      go_wp2
      go_ret
      exact ⟨er_, hb_⟩
     ·replace c22 := Bool.eq_false_iff.mpr c22
      subst c22
      rw [if_neg (show ¬ (false = true) by decide)] at H
      replace H := Option.bind_eq_some_iff.mp H
      obtain ⟨t292, A230, H⟩ := H
      replace H : (if t292 = true then (laws_FnClears.l0 kj4 t283 t285 (t280.length : Int) 0 t279 t280) else (some ((t285.length : Int) == 0))) = some r := H
      have A23 := Aside0.mk A230
      clear A230
      by_cases c24 : t292 = true
      ·subst c24
       rw [if_pos rfl] at H
       have H' := Aside0.mk H
       clear H
       have hcz25_0 : wc.cell? ⟨gb284, 0, none⟩ = some (.int .i64 t279) := (blk_cell BK284.out 0).trans rfl
       have hcz25_1 : wc.cell? ⟨gb284, 1, none⟩ = some (.slice Ao9 t280.length co9) := (blk_cell BK284.out 1).trans rfl
       have hfz25_0 := blk_frozen BK284.out 0
       have hfz25_1 := blk_frozen BK284.out 1
       go_wp2_with (first | ((with_reducible refine gate_callee (f := 28) rfl ?_); refine goesL_ (some 31) rfl rfl Try.func28 (by kernel_rfl) rfl #[.agg #[.int .i64 t279, .slice Ao9 t280.length co9]] rfl ls_ ?_; (with_reducible refine (spec_GoodCells.calls kj4 t279 _ _ t280 true _ ?side1 ?side2 A23.out).mono ?_); (case side1 => exact ca_ (Kd.R_reads' HO_285001.out).2.2); (case side2 => exact (Kd.R_reads' HO_285001.out).2.1); rintro e w26 ⟨rfl, hb⟩; refine ⟨_, rfl, ?_⟩; have n0_ := Aside0.mk (Kd.R_below (ra_ HO_5.out) hb); have n1_ := Aside0.mk (Kd.R_below (ra_ HO_285001.out) hb); have n2_ := bb_ BK284 hb; have n3_ := Aside0.mk (below_step hb_ hb); clear HO_5; clear HO_285001; clear BK284; clear HB; have HO_5 := n0_; have HO_285001 := n1_; have BK284 := n2_; have HB := n3_; clear n0_ n1_ n2_ n3_; (try clear hb); (try clear hb2); (try clear hk); (try clear hi); have hcz27_0 : w26.cell? ⟨gb284, 0, none⟩ = some (.int .i64 t279) := (blk_cell BK284.out 0).trans rfl; have hcz27_1 : w26.cell? ⟨gb284, 1, none⟩ = some (.slice Ao9 t280.length co9) := (blk_cell BK284.out 1).trans rfl; have hfz27_0 := blk_frozen BK284.out 0; have hfz27_1 := blk_frozen BK284.out 1))
       go_loopg [39] kj4 (fun kq v39 w' => ∃ (x39_2 : Int), v39 = .int .i64 x39_2 ∧ Aside0 (laws_FnClears.l0 kq t283 t285 (t280.length : Int) x39_2 t279 t280 = some r) ∧ Aside0 (kq ≤ kj4) ∧ Aside0 (Kd.R (Kd.int .i64) 3 w' w.heap.size (fun k_ => some k_ ≠ ((.slice Ao9 t280.length co9) : Value).ownBlock) v286 t285) ∧ Aside0 (Kd.R (Kd.int .i64) 3 w' w.heap.size (fun k_ => some k_ ≠ (v286 : Value).ownBlock) (.slice Ao9 t280.length co9) t280) ∧ Aside0 (w'.heap[gb284]? = some (.cells #[.int .i64 t279, (.slice Ao9 t280.length co9)] 27 (0, 0))) ∧ Aside0 (Below w.heap.size w w'))
       case atStart => exact ⟨(0), es_, H', ⟨Nat.le_refl _⟩, ⟨ra_ HO_5.out⟩, ⟨ra_ HO_285001.out⟩, ⟨bk_ BK284.out⟩, ⟨hb_⟩⟩
       case round =>
        clear H'
        try clear c1
        try clear c2
        try clear c2b0
        try clear c2b1
        try clear p2
        try clear c7
        try clear c12
        try clear c12b0
        try clear c12b1
        try clear c12b2
        try clear c19
        try clear c20
        try clear c22
        try clear c24
        try clear c26
        try clear hcz15_0
        try clear hcz15_1
        try clear hcz19_0
        try clear hcz19_1
        try clear hcz25_0
        try clear hcz25_1
        try clear hcz27_0
        try clear hcz27_1
        try clear hcz8_0
        try clear hcz8_1
        try clear hfz15_0
        try clear hfz15_1
        try clear hfz19_0
        try clear hfz19_1
        try clear hfz25_0
        try clear hfz25_1
        try clear hfz27_0
        try clear hfz27_1
        try clear hfz8_0
        try clear hfz8_1
        try clear p2
        obtain ⟨x39_2, rfl, HA, HK2, HO_5, HO_285001, BK284, HB⟩ := hrel
        cases gk with
        | zero => exact absurd HA.out (by simp [laws_FnClears.l0])
        | succ k2 =>
         have H := HA.out
         clear HA
         simp only [laws_FnClears.l0] at H
         by_cases c28 : x39_2 < (t280.length : Int)
         ·rw [if_pos c28] at H
          have c28b0 : decide (x39_2 < (t280.length : Int)) = true := decide_eq_true c28
          clear c28
          replace H := Option.bind_eq_some_iff.mp H
          obtain ⟨t293, A290, H⟩ := H
          replace H : ((laws_zIn.f k2 t285 x39_2).bind fun t294 => (if (t293 != t294) = true then (some false) else ((impl_Clear.f k2 t279 t280 x39_2 t283).bind fun t295 => ((laws_zIn.f k2 t285 x39_2).bind fun t296 => (if (t295 != t296) = true then (some false) else (laws_FnClears.l0 k2 t283 t285 (t280.length : Int) (wrap64 (x39_2 + 1)) t279 t280)))))) = some r := H
          have A29 := Aside0.mk A290
          clear A290
          replace H := Option.bind_eq_some_iff.mp H
          obtain ⟨t294, A300, H⟩ := H
          replace H : (if (t293 != t294) = true then (some false) else ((impl_Clear.f k2 t279 t280 x39_2 t283).bind fun t295 => ((laws_zIn.f k2 t285 x39_2).bind fun t296 => (if (t295 != t296) = true then (some false) else (laws_FnClears.l0 k2 t283 t285 (t280.length : Int) (wrap64 (x39_2 + 1)) t279 t280))))) = some r := H
          have A30 := Aside0.mk A300
          clear A300
          by_cases c31 : (t293 != t294) = true
          ·rw [if_pos c31] at H
           have c31b0 : (t293 != t294) = true := c31
           (try (have c31b1 : decide (t293 = t294) = false := by simpa using c31))
           (try (have c31b2 : (t293 == t294) = false := by simpa using c31))
           (try (have c31b3 : ¬ (t293 = t294) := by simpa using c31))
           clear c31
           obtain rfl := Option.some.inj H
           have hcz32_0 : wr.cell? ⟨gb284, 0, none⟩ = some (.int .i64 t279) := (blk_cell BK284.out 0).trans rfl
           have hcz32_1 : wr.cell? ⟨gb284, 1, none⟩ = some (.slice Ao9 t280.length co9) := (blk_cell BK284.out 1).trans rfl
           have hfz32_0 := blk_frozen BK284.out 0
           have hfz32_1 := blk_frozen BK284.out 1
           go_wp2_with (first | ((with_reducible refine gate_callee (f := 13) rfl ?_); refine goesL_ (some 45) rfl rfl Try.func13 (by kernel_rfl) rfl #[.agg #[.int .i64 t279, .slice Ao9 t280.length co9], .int .i64 t283, .int .i64 x39_2] rfl ls_ ?_; (with_reducible refine (impl_Clear.calls k2 t279 _ _ t280 t283 x39_2 t293 _ ?side1 ?side2 A29.out).mono ?_); (case side1 => exact ca_ (Kd.R_reads' HO_285001.out).2.2); (case side2 => exact (Kd.R_reads' HO_285001.out).2.1); rintro e w33 ⟨rfl, hb⟩; refine ⟨_, rfl, ?_⟩; have n0_ := Aside0.mk (Kd.R_below (ra_ HO_5.out) hb); have n1_ := Aside0.mk (Kd.R_below (ra_ HO_285001.out) hb); have n2_ := bb_ BK284 hb; have n3_ := Aside0.mk (below_step hb_ hb); clear HO_5; clear HO_285001; clear BK284; clear HB; have HO_5 := n0_; have HO_285001 := n1_; have BK284 := n2_; have HB := n3_; clear n0_ n1_ n2_ n3_; (try clear hb); (try clear hb2); (try clear hk); (try clear hi); obtain ⟨Ao34, co34, eo34⟩ := Kd.R_slice HO_5.out; subst eo34) | ((with_reducible refine gate_callee (f := 29) rfl ?_); refine goesL_ (some 48) rfl rfl Try.func29 (by kernel_rfl) rfl #[.slice Ao34 t285.length co34, .int .i64 x39_2] rfl ls_ ?_; (with_reducible refine (laws_zIn.calls k2 _ _ t285 x39_2 t294 _ ?side1 ?side2 A30.out).mono ?_); (case side1 => exact ca_ (Kd.R_reads' HO_5.out).2.2); (case side2 => exact (Kd.R_reads' HO_5.out).2.1); rintro e w' ⟨rfl, ⟨nd, rfl⟩⟩; refine ⟨_, rfl, ?_⟩))
           go_ret
           exact ⟨er_, hb_⟩
          ·rw [if_neg c31] at H
           have c31b0 : (t293 != t294) = false := by simpa using c31
           (try (have c31b1 : decide (t293 = t294) = true := by simpa using c31))
           (try (have c31b2 : (t293 == t294) = true := by simpa using c31))
           clear c31
           replace H := Option.bind_eq_some_iff.mp H
           obtain ⟨t295, A350, H⟩ := H
           replace H : ((laws_zIn.f k2 t285 x39_2).bind fun t296 => (if (t295 != t296) = true then (some false) else (laws_FnClears.l0 k2 t283 t285 (t280.length : Int) (wrap64 (x39_2 + 1)) t279 t280))) = some r := H
           have A35 := Aside0.mk A350
           clear A350
           replace H := Option.bind_eq_some_iff.mp H
           obtain ⟨t296, A360, H⟩ := H
           replace H : (if (t295 != t296) = true then (some false) else (laws_FnClears.l0 k2 t283 t285 (t280.length : Int) (wrap64 (x39_2 + 1)) t279 t280)) = some r := H
           have A36 := Aside0.mk A360
           clear A360
           by_cases c37 : (t295 != t296) = true
           ·rw [if_pos c37] at H
            have c37b0 : (t295 != t296) = true := c37
            (try (have c37b1 : decide (t295 = t296) = false := by simpa using c37))
            (try (have c37b2 : (t295 == t296) = false := by simpa using c37))
            (try (have c37b3 : ¬ (t295 = t296) := by simpa using c37))
            clear c37
            obtain rfl := Option.some.inj H
            have hcz38_0 : wr.cell? ⟨gb284, 0, none⟩ = some (.int .i64 t279) := (blk_cell BK284.out 0).trans rfl
            have hcz38_1 : wr.cell? ⟨gb284, 1, none⟩ = some (.slice Ao9 t280.length co9) := (blk_cell BK284.out 1).trans rfl
            have hfz38_0 := blk_frozen BK284.out 0
            have hfz38_1 := blk_frozen BK284.out 1
            go_wp2_with (first | ((with_reducible refine gate_callee (f := 13) rfl ?_); refine goesL_ (some 45) rfl rfl Try.func13 (by kernel_rfl) rfl #[.agg #[.int .i64 t279, .slice Ao9 t280.length co9], .int .i64 t283, .int .i64 x39_2] rfl ls_ ?_; (with_reducible refine (impl_Clear.calls k2 t279 _ _ t280 t283 x39_2 t293 _ ?side1 ?side2 A29.out).mono ?_); (case side1 => exact ca_ (Kd.R_reads' HO_285001.out).2.2); (case side2 => exact (Kd.R_reads' HO_285001.out).2.1); rintro e w39 ⟨rfl, hb⟩; refine ⟨_, rfl, ?_⟩; have n0_ := Aside0.mk (Kd.R_below (ra_ HO_5.out) hb); have n1_ := Aside0.mk (Kd.R_below (ra_ HO_285001.out) hb); have n2_ := bb_ BK284 hb; have n3_ := Aside0.mk (below_step hb_ hb); clear HO_5; clear HO_285001; clear BK284; clear HB; have HO_5 := n0_; have HO_285001 := n1_; have BK284 := n2_; have HB := n3_; clear n0_ n1_ n2_ n3_; (try clear hb); (try clear hb2); (try clear hk); (try clear hi); obtain ⟨Ao40, co40, eo40⟩ := Kd.R_slice HO_5.out; subst eo40) | ((with_reducible refine gate_callee (f := 29) rfl ?_); refine goesL_ (some 48) rfl rfl Try.func29 (by kernel_rfl) rfl #[.slice Ao40 t285.length co40, .int .i64 x39_2] rfl ls_ ?_; (with_reducible refine (laws_zIn.calls k2 _ _ t285 x39_2 t294 _ ?side1 ?side2 A30.out).mono ?_); (case side1 => exact ca_ (Kd.R_reads' HO_5.out).2.2); (case side2 => exact (Kd.R_reads' HO_5.out).2.1); rintro e w' ⟨rfl, ⟨nd, rfl⟩⟩; refine ⟨_, rfl, ?_⟩; have hcz41_0 : w39.cell? ⟨gb284, 0, none⟩ = some (.int .i64 t279) := (blk_cell BK284.out 0).trans rfl; have hcz41_1 : w39.cell? ⟨gb284, 1, none⟩ = some (.slice Ao9 t280.length co9) := (blk_cell BK284.out 1).trans rfl; have hfz41_0 := blk_frozen BK284.out 0; have hfz41_1 := blk_frozen BK284.out 1) | (go_at_call 13; (with_reducible refine (impl_Clear.calls k2 t279 _ _ t280 x39_2 t283 t295 _ ?side1 ?side2 A35.out).mono ?_); (case side1 => exact ca_ (Kd.R_reads' HO_285001.out).2.2); (case side2 => exact (Kd.R_reads' HO_285001.out).2.1); rintro e w42 ⟨rfl, hb⟩; have n0_ := Aside0.mk (Kd.R_below (ra_ HO_5.out) hb); have n1_ := Aside0.mk (Kd.R_below (ra_ HO_285001.out) hb); have n2_ := bb_ BK284 hb; have n3_ := Aside0.mk (below_step hb_ hb); clear HO_5; clear HO_285001; clear BK284; clear HB; have HO_5 := n0_; have HO_285001 := n1_; have BK284 := n2_; have HB := n3_; clear n0_ n1_ n2_ n3_; (try clear hb); (try clear hb2); (try clear hk); (try clear hi)) | (go_at_call 29; (with_reducible refine (laws_zIn.calls k2 _ _ t285 x39_2 t296 _ ?side1 ?side2 A36.out).mono ?_); (case side1 => exact ca_ (Kd.R_reads' HO_5.out).2.2); (case side2 => exact (Kd.R_reads' HO_5.out).2.1); rintro e w' ⟨rfl, ⟨nd, rfl⟩⟩))
            go_ret
            exact ⟨er_, hb_⟩
           ·rw [if_neg c37] at H
            have c37b0 : (t295 != t296) = false := by simpa using c37
            (try (have c37b1 : decide (t295 = t296) = true := by simpa using c37))
            (try (have c37b2 : (t295 == t296) = true := by simpa using c37))
            clear c37
            have H' := Aside0.mk H
            clear H
            have hcz43_0 : wr.cell? ⟨gb284, 0, none⟩ = some (.int .i64 t279) := (blk_cell BK284.out 0).trans rfl
            have hcz43_1 : wr.cell? ⟨gb284, 1, none⟩ = some (.slice Ao9 t280.length co9) := (blk_cell BK284.out 1).trans rfl
            have hfz43_0 := blk_frozen BK284.out 0
            have hfz43_1 := blk_frozen BK284.out 1
            go_wp2_with (first | ((with_reducible refine gate_callee (f := 13) rfl ?_); refine goesL_ (some 45) rfl rfl Try.func13 (by kernel_rfl) rfl #[.agg #[.int .i64 t279, .slice Ao9 t280.length co9], .int .i64 t283, .int .i64 x39_2] rfl ls_ ?_; (with_reducible refine (impl_Clear.calls k2 t279 _ _ t280 t283 x39_2 t293 _ ?side1 ?side2 A29.out).mono ?_); (case side1 => exact ca_ (Kd.R_reads' HO_285001.out).2.2); (case side2 => exact (Kd.R_reads' HO_285001.out).2.1); rintro e w44 ⟨rfl, hb⟩; refine ⟨_, rfl, ?_⟩; have n0_ := Aside0.mk (Kd.R_below (ra_ HO_5.out) hb); have n1_ := Aside0.mk (Kd.R_below (ra_ HO_285001.out) hb); have n2_ := bb_ BK284 hb; have n3_ := Aside0.mk (below_step hb_ hb); clear HO_5; clear HO_285001; clear BK284; clear HB; have HO_5 := n0_; have HO_285001 := n1_; have BK284 := n2_; have HB := n3_; clear n0_ n1_ n2_ n3_; (try clear hb); (try clear hb2); (try clear hk); (try clear hi); obtain ⟨Ao45, co45, eo45⟩ := Kd.R_slice HO_5.out; subst eo45) | ((with_reducible refine gate_callee (f := 29) rfl ?_); refine goesL_ (some 48) rfl rfl Try.func29 (by kernel_rfl) rfl #[.slice Ao45 t285.length co45, .int .i64 x39_2] rfl ls_ ?_; (with_reducible refine (laws_zIn.calls k2 _ _ t285 x39_2 t294 _ ?side1 ?side2 A30.out).mono ?_); (case side1 => exact ca_ (Kd.R_reads' HO_5.out).2.2); (case side2 => exact (Kd.R_reads' HO_5.out).2.1); rintro e w' ⟨rfl, ⟨nd, rfl⟩⟩; refine ⟨_, rfl, ?_⟩; have hcz46_0 : w44.cell? ⟨gb284, 0, none⟩ = some (.int .i64 t279) := (blk_cell BK284.out 0).trans rfl; have hcz46_1 : w44.cell? ⟨gb284, 1, none⟩ = some (.slice Ao9 t280.length co9) := (blk_cell BK284.out 1).trans rfl; have hfz46_0 := blk_frozen BK284.out 0; have hfz46_1 := blk_frozen BK284.out 1) | (go_at_call 13; (with_reducible refine (impl_Clear.calls k2 t279 _ _ t280 x39_2 t283 t295 _ ?side1 ?side2 A35.out).mono ?_); (case side1 => exact ca_ (Kd.R_reads' HO_285001.out).2.2); (case side2 => exact (Kd.R_reads' HO_285001.out).2.1); rintro e w47 ⟨rfl, hb⟩; have n0_ := Aside0.mk (Kd.R_below (ra_ HO_5.out) hb); have n1_ := Aside0.mk (Kd.R_below (ra_ HO_285001.out) hb); have n2_ := bb_ BK284 hb; have n3_ := Aside0.mk (below_step hb_ hb); clear HO_5; clear HO_285001; clear BK284; clear HB; have HO_5 := n0_; have HO_285001 := n1_; have BK284 := n2_; have HB := n3_; clear n0_ n1_ n2_ n3_; (try clear hb); (try clear hb2); (try clear hk); (try clear hi)) | (go_at_call 29; (with_reducible refine (laws_zIn.calls k2 _ _ t285 x39_2 t296 _ ?side1 ?side2 A36.out).mono ?_); (case side1 => exact ca_ (Kd.R_reads' HO_5.out).2.2); (case side2 => exact (Kd.R_reads' HO_5.out).2.1); rintro e w' ⟨rfl, ⟨nd, rfl⟩⟩))
            go_roundg k2
            case measure => have := HJ4.out; have := HK2.out; omega
            case rel => exact ⟨(wrap64 (x39_2 + 1)), es_, H', ⟨by have := HJ4.out; have := HK2.out; omega⟩, ⟨ra_ HO_5.out⟩, ⟨ra_ HO_285001.out⟩, ⟨bk_ BK284.out⟩, ⟨hb_⟩⟩
         ·rw [if_neg c28] at H
          have c28b0 : decide (x39_2 < (t280.length : Int)) = false := decide_eq_false c28
          clear c28
          obtain rfl := Option.some.inj H
          go_wp2
          go_ret
          exact ⟨er_, hb_⟩
      ·replace c24 := Bool.eq_false_iff.mpr c24
       subst c24
       rw [if_neg (show ¬ (false = true) by decide)] at H
       obtain rfl := Option.some.inj H
       have hcz48_0 : wc.cell? ⟨gb284, 0, none⟩ = some (.int .i64 t279) := (blk_cell BK284.out 0).trans rfl
       have hcz48_1 : wc.cell? ⟨gb284, 1, none⟩ = some (.slice Ao9 t280.length co9) := (blk_cell BK284.out 1).trans rfl
       have hfz48_0 := blk_frozen BK284.out 0
       have hfz48_1 := blk_frozen BK284.out 1
       go_wp2_with (first | ((with_reducible refine gate_callee (f := 28) rfl ?_); refine goesL_ (some 31) rfl rfl Try.func28 (by kernel_rfl) rfl #[.agg #[.int .i64 t279, .slice Ao9 t280.length co9]] rfl ls_ ?_; (with_reducible refine (spec_GoodCells.calls kj4 t279 _ _ t280 false _ ?side1 ?side2 A23.out).mono ?_); (case side1 => exact ca_ (Kd.R_reads' HO_285001.out).2.2); (case side2 => exact (Kd.R_reads' HO_285001.out).2.1); rintro e w49 ⟨rfl, hb⟩; refine ⟨_, rfl, ?_⟩; have n0_ := Aside0.mk (Kd.R_below (ra_ HO_5.out) hb); have n1_ := Aside0.mk (Kd.R_below (ra_ HO_285001.out) hb); have n2_ := bb_ BK284 hb; have n3_ := Aside0.mk (below_step hb_ hb); clear HO_5; clear HO_285001; clear BK284; clear HB; have HO_5 := n0_; have HO_285001 := n1_; have BK284 := n2_; have HB := n3_; clear n0_ n1_ n2_ n3_; (try clear hb); (try clear hb2); (try clear hk); (try clear hi); obtain ⟨Ao50, co50, eo50⟩ := Kd.R_slice HO_5.out; subst eo50))
       go_ret
       exact ⟨er_, hb_⟩

set_option maxHeartbeats 8000000 in
set_option maxRecDepth 100000 in
theorem laws_szIntS.calls (A0 : Option Addr) (c0 : Nat) (l0 : List Int) (a1 : Int) (r : Int) (w : World) (hr0 : Kd.C (Kd.int .i64) w A0 l0.length l0) (hc0 : l0.length ≤ c0) (h : laws_szIntS.f l0 a1 = some r) :
   Calls Try.prog 38 #[.slice A0 l0.length c0, .int .i64 a1] w fun e w' => e = .returned (.int .i64 r) ∧ Drawn0 w w' := by
  have HR0 := Aside0.mk hr0
  have HC0 := Aside0.mk hc0
  clear hr0 hc0
  have H : (if (wrap64 (a1 - (l0.length : Int))) < 0 then (some (-1)) else (some (wrap64 (a1 - (l0.length : Int))))) = some r := h
  clear h
  by_cases c3 : (wrap64 (a1 - (l0.length : Int))) < 0
  ·rw [if_pos c3] at H
   have c3b0 : decide ((wrap64 (a1 - (l0.length : Int))) < 0) = true := decide_eq_true c3
   clear c3
   obtain rfl := Option.some.inj H
   go_enter Try.func38, Try.ntmps38
   go_wp2
   go_ret
   exact ⟨es_, by repeat (first | exact Drawn0.refl _ | apply Drawn0.step)⟩
  ·rw [if_neg c3] at H
   have c3b0 : decide ((wrap64 (a1 - (l0.length : Int))) < 0) = false := decide_eq_false c3
   clear c3
   obtain rfl := Option.some.inj H
   go_enter Try.func38, Try.ntmps38
   go_wp2
   go_ret
   exact ⟨es_, by repeat (first | exact Drawn0.refl _ | apply Drawn0.step)⟩

end Go.Proofs.Ytjcmlggdaajicaa.Pr
