-- Written by this session's own print (wip/tools/mkmp.py) out of the translation. Lean checks it.
import Derived.Test.YtkhkgfihodljmaaPr0
import Derived.Test.YtkhkgfihodljmaaPr7
import Derived.Test.YtkhkgfihodljmaaPr9
import Derived.Test.YtkhkgfihodljmaaPr15
import Derived.Test.YtkhkgfihodljmaaPr22
import Derived.Test.YtkhkgfihodljmaaPr23
import Derived.Test.YtkhkgfihodljmaaPr24
import Derived.Test.YtkhkgfihodljmaaPr25
import Derived.Test.YtkhkgfihodljmaaPr26
import Derived.Test.YtkhkgfihodljmaaPrd1
namespace Go.Proofs.Ytkhkgfihodljmaa.Pr
open Go.RowKit Go.Proofs.YtkhkgfihodljmaaW.PrintWords Go.Proofs.YtkhkgfihodljmaaW.PrintLast Go.Proofs.YtkhkgfihodljmaaW.PrintMore
attribute [local go_sem] max2_int min2_int max_two min_two max_three min_three max_four min_four   -- for this text's walks alone
set_option linter.unusedVariables false
set_option linter.unusedSimpArgs false

set_option maxHeartbeats 8000000 in
set_option maxRecDepth 100000 in
theorem laws_FnExactRunChart.calls (k : Nat) (A0_0 : Option Addr) (c0_0 : Nat) (l0_0 : List (S101)) (A0_1 : Option Addr) (c0_1 : Nat) (l0_1 : List (S103)) (A1 : Option Addr) (c1 : Nat) (l1 : List Int) (r : Bool) (w : World) (hr0_0 : Kd.C k101 w A0_0 l0_0.length l0_0) (hc0_0 : l0_0.length ≤ c0_0) (hr0_1 : Kd.C k103 w A0_1 l0_1.length l0_1) (hc0_1 : l0_1.length ≤ c0_1) (hr1 : Kd.C (Kd.int .i64) w A1 l1.length l1) (hc1 : l1.length ≤ c1) (h : laws_FnExactRunChart.f k l0_0 l0_1 l1 = some r) :
   Calls Try.prog 10 #[.agg #[.slice A0_0 l0_0.length c0_0, .slice A0_1 l0_1.length c0_1], .slice A1 l1.length c1] w fun e w' => e = .returned (.bool r) ∧ Below w.heap.size w w' := by
  have hu49 := Try.underlying49
  have hu55 := Try.underlying55
  have HR0_0 := Aside0.mk hr0_0
  have HC0_0 := Aside0.mk hc0_0
  clear hr0_0 hc0_0
  have HR0_1 := Aside0.mk hr0_1
  have HC0_1 := Aside0.mk hc0_1
  clear hr0_1 hc0_1
  have HR1 := Aside0.mk hr1
  have HC1 := Aside0.mk hc1
  clear hr1 hc1
  have HB := Aside0.mk (Below.refl w.heap.size w)
  have H : (if (l1.length : Int) > 1048576 then (some true) else ((laws_szChart.f l0_0 l0_1 1048576).bind fun t367 => (if t367 < 0 then (some true) else ((laws_toChart.f k l0_0 l0_1).bind fun bt368 => ((laws_toIntS.f k l1).bind fun t374 => ((spec_RunChart.f k bt368.1 bt368.2 t374).bind fun bt377 => ((laws_toChart.f k l0_0 l0_1).bind fun bt381 => ((laws_toIntS.f k l1).bind fun t388 => ((impl_RunChart.f k bt381.1 bt381.2 t388).bind fun bt391 => ((laws_eqIntS.f k bt391.1 bt377.1).bind fun t395 => (if t395 = true then (laws_FnExactRunChart.j0 k l1 bt377.1 bt377.2 t388 bt391.1 bt391.2 (bt391.2 != bt377.2) l0_0 l0_1 bt381.1 bt381.2) else (laws_FnExactRunChart.j0 k l1 bt377.1 bt377.2 t388 bt391.1 bt391.2 true l0_0 l0_1 bt381.1 bt381.2)))))))))))) = some r := h
  clear h
  by_cases c3 : (l1.length : Int) > 1048576
  ·rw [if_pos c3] at H
   have c3b0 : decide (1048576 < (l1.length : Int)) = true := decide_eq_true c3
   have c3b1 : decide (1048576 < l1.length) = true := decide_eq_true (by omega)
   clear c3
   obtain rfl := Option.some.inj H
   go_enter Try.func10, Try.ntmps10
   go_wp2_with (first | ((with_reducible refine gate_dst (N := 2) rfl ?_); refine box_event ?hg (N := 2) ?hd (cs := #[.slice A0_0 l0_0.length c0_0, .slice A0_1 l0_1.length c0_1]) (t := 49) ?hr ?_; (case hd => rfl); (case hg => rfl); (case hr => first | (go_simp; done) | (go_simp; rfl)); intro gb366 hg w4 hbox hb; have n0_ := Aside0.mk (below_step hb_ hb); have n1_ := Aside0.mk (hbox); have n2_ : Aside0 (w.heap.size ≤ gb366) := gz_; have n3_ : Aside0 (w.heap.size ≤ gb366) := gz_; clear HB; have HB := n0_; have BK366 := n1_; have GW366 := n2_; have GE366 := n3_; clear n0_ n1_ n2_ n3_; clear hb hbox hg))
   go_ret
   exact ⟨er_, hb_⟩
  ·rw [if_neg c3] at H
   have c3b0 : decide (1048576 < (l1.length : Int)) = false := decide_eq_false c3
   have c3b1 : decide (1048576 < l1.length) = false := decide_eq_false (by omega)
   clear c3
   replace H := Option.bind_eq_some_iff.mp H
   obtain ⟨t367, A50, H⟩ := H
   replace H : (if t367 < 0 then (some true) else ((laws_toChart.f k l0_0 l0_1).bind fun bt368 => ((laws_toIntS.f k l1).bind fun t374 => ((spec_RunChart.f k bt368.1 bt368.2 t374).bind fun bt377 => ((laws_toChart.f k l0_0 l0_1).bind fun bt381 => ((laws_toIntS.f k l1).bind fun t388 => ((impl_RunChart.f k bt381.1 bt381.2 t388).bind fun bt391 => ((laws_eqIntS.f k bt391.1 bt377.1).bind fun t395 => (if t395 = true then (laws_FnExactRunChart.j0 k l1 bt377.1 bt377.2 t388 bt391.1 bt391.2 (bt391.2 != bt377.2) l0_0 l0_1 bt381.1 bt381.2) else (laws_FnExactRunChart.j0 k l1 bt377.1 bt377.2 t388 bt391.1 bt391.2 true l0_0 l0_1 bt381.1 bt381.2)))))))))) = some r := H
   have A5 := Aside0.mk A50
   clear A50
   by_cases c6 : t367 < 0
   ·rw [if_pos c6] at H
    have c6b0 : decide (t367 < 0) = true := decide_eq_true c6
    clear c6
    obtain rfl := Option.some.inj H
    go_enter Try.func10, Try.ntmps10
    go_wp2_with (first | ((with_reducible refine gate_dst (N := 2) rfl ?_); refine box_event ?hg (N := 2) ?hd (cs := #[.slice A0_0 l0_0.length c0_0, .slice A0_1 l0_1.length c0_1]) (t := 49) ?hr ?_; (case hd => rfl); (case hg => rfl); (case hr => first | (go_simp; done) | (go_simp; rfl)); intro gb366 hg w7 hbox hb; have n0_ := Aside0.mk (below_step hb_ hb); have n1_ := Aside0.mk (hbox); have n2_ : Aside0 (w.heap.size ≤ gb366) := gz_; have n3_ : Aside0 (w.heap.size ≤ gb366) := gz_; clear HB; have HB := n0_; have BK366 := n1_; have GW366 := n2_; have GE366 := n3_; clear n0_ n1_ n2_ n3_; clear hb hbox hg; have hcz8_0 : w7.cell? ⟨gb366, 0, none⟩ = some (.slice A0_0 l0_0.length c0_0) := (blk_cell BK366.out 0).trans rfl; have hcz8_1 : w7.cell? ⟨gb366, 1, none⟩ = some (.slice A0_1 l0_1.length c0_1) := (blk_cell BK366.out 1).trans rfl; have hfz8_0 := blk_frozen BK366.out 0; have hfz8_1 := blk_frozen BK366.out 1) | ((with_reducible refine gate_callee (f := 31) rfl ?_); refine goesL_ (some 22) rfl rfl Try.func31 (by kernel_rfl) rfl #[.agg #[.slice A0_0 l0_0.length c0_0, .slice A0_1 l0_1.length c0_1], .int .i64 1048576] rfl ls_ ?_; (with_reducible refine (laws_szChart.calls _ _ l0_0 _ _ l0_1 1048576 t367 _ ?side1 ?side2 ?side3 ?side4 A5.out).mono ?_); (case side1 => exact cb_ HR0_0.out); (case side2 => exact HC0_0.out); (case side3 => exact cb_ HR0_1.out); (case side4 => exact HC0_1.out); rintro e w9 ⟨rfl, hb⟩; refine ⟨_, rfl, ?_⟩; have n0_ := bb_ BK366 hb; have n1_ := Aside0.mk (below_step hb_ hb); clear BK366; clear HB; have BK366 := n0_; have HB := n1_; clear n0_ n1_; (try clear hb); (try clear hb2); (try clear hk); (try clear hi)))
    go_ret
    exact ⟨er_, hb_⟩
   ·rw [if_neg c6] at H
    have c6b0 : decide (t367 < 0) = false := decide_eq_false c6
    clear c6
    replace H := Option.bind_eq_some_iff.mp H
    obtain ⟨⟨t368, t371⟩, A100, H⟩ := H
    replace H : ((laws_toIntS.f k l1).bind fun t374 => ((spec_RunChart.f k t368 t371 t374).bind fun bt377 => ((laws_toChart.f k l0_0 l0_1).bind fun bt381 => ((laws_toIntS.f k l1).bind fun t388 => ((impl_RunChart.f k bt381.1 bt381.2 t388).bind fun bt391 => ((laws_eqIntS.f k bt391.1 bt377.1).bind fun t395 => (if t395 = true then (laws_FnExactRunChart.j0 k l1 bt377.1 bt377.2 t388 bt391.1 bt391.2 (bt391.2 != bt377.2) l0_0 l0_1 bt381.1 bt381.2) else (laws_FnExactRunChart.j0 k l1 bt377.1 bt377.2 t388 bt391.1 bt391.2 true l0_0 l0_1 bt381.1 bt381.2)))))))) = some r := H
    have A10 := Aside0.mk A100
    clear A100
    replace H := Option.bind_eq_some_iff.mp H
    obtain ⟨t374, A110, H⟩ := H
    replace H : ((spec_RunChart.f k t368 t371 t374).bind fun bt377 => ((laws_toChart.f k l0_0 l0_1).bind fun bt381 => ((laws_toIntS.f k l1).bind fun t388 => ((impl_RunChart.f k bt381.1 bt381.2 t388).bind fun bt391 => ((laws_eqIntS.f k bt391.1 bt377.1).bind fun t395 => (if t395 = true then (laws_FnExactRunChart.j0 k l1 bt377.1 bt377.2 t388 bt391.1 bt391.2 (bt391.2 != bt377.2) l0_0 l0_1 bt381.1 bt381.2) else (laws_FnExactRunChart.j0 k l1 bt377.1 bt377.2 t388 bt391.1 bt391.2 true l0_0 l0_1 bt381.1 bt381.2))))))) = some r := H
    have A11 := Aside0.mk A110
    clear A110
    replace H := Option.bind_eq_some_iff.mp H
    obtain ⟨⟨t377, t380⟩, A120, H⟩ := H
    replace H : ((laws_toChart.f k l0_0 l0_1).bind fun bt381 => ((laws_toIntS.f k l1).bind fun t388 => ((impl_RunChart.f k bt381.1 bt381.2 t388).bind fun bt391 => ((laws_eqIntS.f k bt391.1 t377).bind fun t395 => (if t395 = true then (laws_FnExactRunChart.j0 k l1 t377 t380 t388 bt391.1 bt391.2 (bt391.2 != t380) l0_0 l0_1 bt381.1 bt381.2) else (laws_FnExactRunChart.j0 k l1 t377 t380 t388 bt391.1 bt391.2 true l0_0 l0_1 bt381.1 bt381.2)))))) = some r := H
    have A12 := Aside0.mk A120
    clear A120
    replace H := Option.bind_eq_some_iff.mp H
    obtain ⟨⟨t381, t384⟩, A130, H⟩ := H
    replace H : ((laws_toIntS.f k l1).bind fun t388 => ((impl_RunChart.f k t381 t384 t388).bind fun bt391 => ((laws_eqIntS.f k bt391.1 t377).bind fun t395 => (if t395 = true then (laws_FnExactRunChart.j0 k l1 t377 t380 t388 bt391.1 bt391.2 (bt391.2 != t380) l0_0 l0_1 t381 t384) else (laws_FnExactRunChart.j0 k l1 t377 t380 t388 bt391.1 bt391.2 true l0_0 l0_1 t381 t384))))) = some r := H
    have A13 := Aside0.mk A130
    clear A130
    replace H := Option.bind_eq_some_iff.mp H
    obtain ⟨t388, A140, H⟩ := H
    replace H : ((impl_RunChart.f k t381 t384 t388).bind fun bt391 => ((laws_eqIntS.f k bt391.1 t377).bind fun t395 => (if t395 = true then (laws_FnExactRunChart.j0 k l1 t377 t380 t388 bt391.1 bt391.2 (bt391.2 != t380) l0_0 l0_1 t381 t384) else (laws_FnExactRunChart.j0 k l1 t377 t380 t388 bt391.1 bt391.2 true l0_0 l0_1 t381 t384)))) = some r := H
    have A14 := Aside0.mk A140
    clear A140
    replace H := Option.bind_eq_some_iff.mp H
    obtain ⟨⟨t391, t394⟩, A150, H⟩ := H
    replace H : ((laws_eqIntS.f k t391 t377).bind fun t395 => (if t395 = true then (laws_FnExactRunChart.j0 k l1 t377 t380 t388 t391 t394 (t394 != t380) l0_0 l0_1 t381 t384) else (laws_FnExactRunChart.j0 k l1 t377 t380 t388 t391 t394 true l0_0 l0_1 t381 t384))) = some r := H
    have A15 := Aside0.mk A150
    clear A150
    have HC16 := Aside0.mk H
    clear H
    go_enter Try.func10, Try.ntmps10
    go_upto_region 11 with (first | ((with_reducible refine gate_dst (N := 2) rfl ?_); refine box_event ?hg (N := 2) ?hd (cs := #[.slice A0_0 l0_0.length c0_0, .slice A0_1 l0_1.length c0_1]) (t := 49) ?hr ?_; (case hd => rfl); (case hg => rfl); (case hr => first | (go_simp; done) | (go_simp; rfl)); intro gb366 hg w17 hbox hb; have n0_ := Aside0.mk (below_step hb_ hb); have n1_ := Aside0.mk (hbox); have n2_ : Aside0 (w.heap.size ≤ gb366) := gz_; have n3_ : Aside0 (w.heap.size ≤ gb366) := gz_; clear HB; have HB := n0_; have BK366 := n1_; have GW366 := n2_; have GE366 := n3_; clear n0_ n1_ n2_ n3_; clear hb hbox hg; have hcz18_0 : w17.cell? ⟨gb366, 0, none⟩ = some (.slice A0_0 l0_0.length c0_0) := (blk_cell BK366.out 0).trans rfl; have hcz18_1 : w17.cell? ⟨gb366, 1, none⟩ = some (.slice A0_1 l0_1.length c0_1) := (blk_cell BK366.out 1).trans rfl; have hfz18_0 := blk_frozen BK366.out 0; have hfz18_1 := blk_frozen BK366.out 1) | ((with_reducible refine gate_callee (f := 31) rfl ?_); refine goesL_ (some 22) rfl rfl Try.func31 (by kernel_rfl) rfl #[.agg #[.slice A0_0 l0_0.length c0_0, .slice A0_1 l0_1.length c0_1], .int .i64 1048576] rfl ls_ ?_; (with_reducible refine (laws_szChart.calls _ _ l0_0 _ _ l0_1 1048576 t367 _ ?side1 ?side2 ?side3 ?side4 A5.out).mono ?_); (case side1 => exact cb_ HR0_0.out); (case side2 => exact HC0_0.out); (case side3 => exact cb_ HR0_1.out); (case side4 => exact HC0_1.out); rintro e w19 ⟨rfl, hb⟩; refine ⟨_, rfl, ?_⟩; have n0_ := bb_ BK366 hb; have n1_ := Aside0.mk (below_step hb_ hb); clear BK366; clear HB; have BK366 := n0_; have HB := n1_; clear n0_ n1_; (try clear hb); (try clear hb2); (try clear hk); (try clear hi); have hcz20_0 : w19.cell? ⟨gb366, 0, none⟩ = some (.slice A0_0 l0_0.length c0_0) := (blk_cell BK366.out 0).trans rfl; have hcz20_1 : w19.cell? ⟨gb366, 1, none⟩ = some (.slice A0_1 l0_1.length c0_1) := (blk_cell BK366.out 1).trans rfl; have hfz20_0 := blk_frozen BK366.out 0; have hfz20_1 := blk_frozen BK366.out 1) | ((with_reducible refine gate_callee (f := 33) rfl ?_); refine goesL_ (some 27) rfl rfl Try.func33 (by kernel_rfl) rfl #[.agg #[.slice A0_0 l0_0.length c0_0, .slice A0_1 l0_1.length c0_1]] rfl ls_ ?_; (with_reducible refine (laws_toChart.calls k _ _ l0_0 _ _ l0_1 t368 t371 _ ?side1 ?side2 ?side3 ?side4 A10.out).mono ?_); (case side1 => exact cb_ HR0_0.out); (case side2 => exact HC0_0.out); (case side3 => exact cb_ HR0_1.out); (case side4 => exact HC0_1.out); rintro e w21 ⟨v369, v372, rfl, ho0, ho1, hb⟩; refine ⟨_, rfl, ?_⟩; have n0_ := Aside0.mk (Kd.R_lower ho0 (below_size hb_)); have n1_ := Aside0.mk (Kd.R_lower ho1 (below_size hb_)); have n2_ := bb_ BK366 hb; have n3_ := Aside0.mk (below_step hb_ hb); clear BK366; clear HB; have HO370 := n0_; have HO373 := n1_; have BK366 := n2_; have HB := n3_; clear n0_ n1_ n2_ n3_; (try clear hb); (try clear hb2); (try clear hk); (try clear hi); (try clear ho0); (try clear ho1)) | ((with_reducible refine gate_callee (f := 24) rfl ?_); refine goesL_ (some 29) rfl rfl Try.func24 (by kernel_rfl) rfl #[.slice A1 l1.length c1] rfl ls_ ?_; (with_reducible refine (laws_toIntS.calls k _ _ l1 t374 _ ?side1 ?side2 A11.out).mono ?_); (case side1 => exact cb_ HR1.out); (case side2 => exact HC1.out); rintro e w22 ⟨v375, rfl, ho0, hb⟩; refine ⟨_, rfl, ?_⟩; have n0_ := Aside0.mk (Kd.R_below (ra_ HO370.out) hb); have n1_ := Aside0.mk (Kd.R_below (ra_ HO373.out) hb); have n2_ := Aside0.mk (Kd.R_lower ho0 (below_size hb_)); have n3_ := bb_ BK366 hb; have n4_ := Aside0.mk (below_step hb_ hb); clear HO370; clear HO373; clear BK366; clear HB; have HO370 := n0_; have HO373 := n1_; have HO376 := n2_; have BK366 := n3_; have HB := n4_; clear n0_ n1_ n2_ n3_ n4_; (try clear hb); (try clear hb2); (try clear hk); (try clear hi); (try clear ho0); obtain ⟨Ao23, co23, eo23⟩ := Kd.R_slice HO370.out; subst eo23; obtain ⟨Ao24, co24, eo24⟩ := Kd.R_slice HO373.out; subst eo24; obtain ⟨Ao25, co25, eo25⟩ := Kd.R_slice HO376.out; subst eo25) | ((with_reducible refine gate_callee (f := 42) rfl ?_); refine goesL_ (some 30) rfl rfl Try.func42 (by kernel_rfl) rfl #[.agg #[.slice Ao23 t368.length co23, .slice Ao24 t371.length co24], .slice Ao25 t374.length co25] rfl ls_ ?_; (with_reducible refine (spec_RunChart.calls k _ _ t368 _ _ t371 _ _ t374 t377 t380 _ ?side1 ?side2 ?side3 ?side4 ?side5 ?side6 A12.out).mono ?_); (case side1 => exact ca_ (Kd.R_reads' HO370.out).2.2); (case side2 => exact (Kd.R_reads' HO370.out).2.1); (case side3 => exact ca_ (Kd.R_reads' HO373.out).2.2); (case side4 => exact (Kd.R_reads' HO373.out).2.1); (case side5 => exact ca_ (Kd.R_reads' HO376.out).2.2); (case side6 => exact (Kd.R_reads' HO376.out).2.1); rintro e w26 ⟨v378, rfl, ho0, hb⟩; refine ⟨_, rfl, ?_⟩; have n0_ := Aside0.mk (Kd.R_below (ra_ HO370.out) hb); have n1_ := Aside0.mk (Kd.R_below (ra_ HO373.out) hb); have n2_ := Aside0.mk (Kd.R_elder' (ra_ HO376.out) (Kd.R_base ho0) hb); have n3_ := Aside0.mk (Kd.R_lower (Kd.R_new' ho0 (Kd.R_lt (ra_ HO376.out))) (below_size hb_)); have n4_ := bb_ BK366 hb; have n5_ := Aside0.mk (below_step hb_ hb); clear HO370; clear HO373; clear HO376; clear BK366; clear HB; have HO370 := n0_; have HO373 := n1_; have HO376 := n2_; have HO379 := n3_; have BK366 := n4_; have HB := n5_; clear n0_ n1_ n2_ n3_ n4_ n5_; (try clear hb); (try clear hb2); (try clear hk); (try clear hi); (try clear ho0); have hcz27_0 : w26.cell? ⟨gb366, 0, none⟩ = some (.slice A0_0 l0_0.length c0_0) := (blk_cell BK366.out 0).trans rfl; have hcz27_1 : w26.cell? ⟨gb366, 1, none⟩ = some (.slice A0_1 l0_1.length c0_1) := (blk_cell BK366.out 1).trans rfl; have hfz27_0 := blk_frozen BK366.out 0; have hfz27_1 := blk_frozen BK366.out 1) | ((with_reducible refine gate_callee (f := 33) rfl ?_); refine goesL_ (some 34) rfl rfl Try.func33 (by kernel_rfl) rfl #[.agg #[.slice A0_0 l0_0.length c0_0, .slice A0_1 l0_1.length c0_1]] rfl ls_ ?_; (with_reducible refine (laws_toChart.calls k _ _ l0_0 _ _ l0_1 t381 t384 _ ?side1 ?side2 ?side3 ?side4 A13.out).mono ?_); (case side1 => exact cb_ HR0_0.out); (case side2 => exact HC0_0.out); (case side3 => exact cb_ HR0_1.out); (case side4 => exact HC0_1.out); rintro e w28 ⟨v382, v385, rfl, ho0, ho1, hb⟩; refine ⟨_, rfl, ?_⟩; have n0_ := Aside0.mk (Kd.R_elder' (ra_ HO370.out) (Kd.R_base ho0) hb); have n1_ := Aside0.mk (Kd.R_elder' (ra_ HO373.out) (Kd.R_base ho1) hb); have n2_ := Aside0.mk (Kd.R_below (ra_ HO376.out) hb); have n3_ := Aside0.mk (Kd.R_below (ra_ HO379.out) hb); have n4_ := Aside0.mk (Kd.R_lower (Kd.R_new' ho0 (Kd.R_lt (ra_ HO370.out))) (below_size hb_)); have n5_ := Aside0.mk (Kd.R_lower (Kd.R_new' ho1 (Kd.R_lt (ra_ HO373.out))) (below_size hb_)); have n6_ := bb_ BK366 hb; have n7_ := Aside0.mk (below_step hb_ hb); clear HO370; clear HO373; clear HO376; clear HO379; clear BK366; clear HB; have HO370 := n0_; have HO373 := n1_; have HO376 := n2_; have HO379 := n3_; have HO383 := n4_; have HO386 := n5_; have BK366 := n6_; have HB := n7_; clear n0_ n1_ n2_ n3_ n4_ n5_ n6_ n7_; (try clear hb); (try clear hb2); (try clear hk); (try clear hi); (try clear ho0); (try clear ho1)) | ((with_reducible refine gate_dst (N := 8) rfl ?_); refine box_event ?hg (N := 8) ?hd (cs := #[.slice none 0 0, .slice none 0 0]) (t := 55) ?hr ?_; (case hd => rfl); (case hg => rfl); (case hr => first | (go_simp; done) | (go_simp; rfl)); intro gb387 hg w29 hbox hb; have n0_ := Aside0.mk (Kd.R_below (ra_ HO370.out) hb); have n1_ := Aside0.mk (Kd.R_below (ra_ HO373.out) hb); have n2_ := Aside0.mk (Kd.R_below (ra_ HO376.out) hb); have n3_ := Aside0.mk (Kd.R_below (ra_ HO379.out) hb); have n4_ := Aside0.mk (Kd.R_below (ra_ HO383.out) hb); have n5_ := Aside0.mk (Kd.R_below (ra_ HO386.out) hb); have n6_ := bb_ BK366 hb; have n7_ := Aside0.mk (below_step hb_ hb); have n8_ := Aside0.mk (hbox); have n9_ : Aside0 (w.heap.size ≤ gb387) := gz_; have n10_ : Aside0 (w.heap.size ≤ gb387) := gz_; have n11_ := Aside0.mk ((by rw [hg]; exact Nat.ne_of_lt (blk_lt (g := gb366) (o := .cells #[.slice A0_0 l0_0.length c0_0, .slice A0_1 l0_1.length c0_1] 49 (0, 0)) (bk_ BK366.out)) : gb366 ≠ gb387)); have n12_ := Aside0.mk ((by rw [hg]; exact Nat.ne_of_gt (blk_lt (g := gb366) (o := .cells #[.slice A0_0 l0_0.length c0_0, .slice A0_1 l0_1.length c0_1] 49 (0, 0)) (bk_ BK366.out)) : gb387 ≠ gb366)); clear HO370; clear HO373; clear HO376; clear HO379; clear HO383; clear HO386; clear BK366; clear HB; have HO370 := n0_; have HO373 := n1_; have HO376 := n2_; have HO379 := n3_; have HO383 := n4_; have HO386 := n5_; have BK366 := n6_; have HB := n7_; have BK387 := n8_; have GW387 := n9_; have GE387 := n10_; have NB366_387 := n11_; have NB387_366 := n12_; clear n0_ n1_ n2_ n3_ n4_ n5_ n6_ n7_ n8_ n9_ n10_ n11_ n12_; clear hb hbox hg; obtain ⟨Ao30, co30, eo30⟩ := Kd.R_slice HO383.out; subst eo30; have hnb31 := NB387_366.out; have hnc31 := NB366_387.out; have hcz32_0 : w29.cell? ⟨gb387, 0, none⟩ = some (.slice none 0 0) := (blk_cell BK387.out 0).trans rfl; have hcz32_1 : w29.cell? ⟨gb387, 1, none⟩ = some (.slice none 0 0) := (blk_cell BK387.out 1).trans rfl; have hfz32_0 := blk_frozen BK387.out 0; have hfz32_1 := blk_frozen BK387.out 1; obtain ⟨Ao33, co33, eo33⟩ := Kd.R_slice HO386.out; subst eo33) | ((with_reducible refine gate_callee (f := 24) rfl ?_); refine goesL_ (some 36) rfl rfl Try.func24 (by kernel_rfl) rfl #[.slice A1 l1.length c1] rfl ls_ ?_; (with_reducible refine (laws_toIntS.calls k _ _ l1 t388 _ ?side1 ?side2 A14.out).mono ?_); (case side1 => exact Kd.C_below HR1.out hb_); (case side2 => exact HC1.out); rintro e w34 ⟨v389, rfl, ho0, hb⟩; refine ⟨_, rfl, ?_⟩; have n0_ := Aside0.mk (Kd.R_below (by (with_reducible repeat (first | apply Kd.R_alloc | apply Kd.R_drewN | apply Kd.R_drew)); exact (Kd.R_mono (Kd.R_far (p := ⟨gb387, 1, none⟩) (Kd.R_far (p := ⟨gb387, 0, none⟩) (Kd.R_types HO370.out BK387.out (by decide)) (fun _ hk => hk.2) (.slice Ao30 t381.length co30)) (fun _ hk => hk.2) (.slice Ao33 t384.length co33)) (fun _ h_ => h_.1))) hb); have n1_ := Aside0.mk (Kd.R_below (by (with_reducible repeat (first | apply Kd.R_alloc | apply Kd.R_drewN | apply Kd.R_drew)); exact (Kd.R_mono (Kd.R_far (p := ⟨gb387, 1, none⟩) (Kd.R_far (p := ⟨gb387, 0, none⟩) (Kd.R_types HO373.out BK387.out (by decide)) (fun _ hk => hk.2) (.slice Ao30 t381.length co30)) (fun _ hk => hk.2) (.slice Ao33 t384.length co33)) (fun _ h_ => h_.1))) hb); have n2_ := Aside0.mk (Kd.R_elder' (by (with_reducible repeat (first | apply Kd.R_alloc | apply Kd.R_drewN | apply Kd.R_drew)); exact (Kd.R_mono (Kd.R_far (p := ⟨gb387, 1, none⟩) (Kd.R_far (p := ⟨gb387, 0, none⟩) (Kd.R_types HO376.out BK387.out (by decide)) (fun _ hk => hk.2) (.slice Ao30 t381.length co30)) (fun _ hk => hk.2) (.slice Ao33 t384.length co33)) (fun _ h_ => h_.1))) (Kd.R_base ho0) hb); have n3_ := Aside0.mk (Kd.R_elder' (by (with_reducible repeat (first | apply Kd.R_alloc | apply Kd.R_drewN | apply Kd.R_drew)); exact (Kd.R_mono (Kd.R_far (p := ⟨gb387, 1, none⟩) (Kd.R_far (p := ⟨gb387, 0, none⟩) (Kd.R_types HO379.out BK387.out (by decide)) (fun _ hk => hk.2) (.slice Ao30 t381.length co30)) (fun _ hk => hk.2) (.slice Ao33 t384.length co33)) (fun _ h_ => h_.1))) (Kd.R_base ho0) hb); have n4_ := Aside0.mk (Kd.R_below (by (with_reducible repeat (first | apply Kd.R_alloc | apply Kd.R_drewN | apply Kd.R_drew)); exact (Kd.R_mono (Kd.R_far (p := ⟨gb387, 1, none⟩) (Kd.R_far (p := ⟨gb387, 0, none⟩) (Kd.R_types HO383.out BK387.out (by decide)) (fun _ hk => hk.2) (.slice Ao30 t381.length co30)) (fun _ hk => hk.2) (.slice Ao33 t384.length co33)) (fun _ h_ => h_.1))) hb); have n5_ := Aside0.mk (Kd.R_below (by (with_reducible repeat (first | apply Kd.R_alloc | apply Kd.R_drewN | apply Kd.R_drew)); exact (Kd.R_mono (Kd.R_far (p := ⟨gb387, 1, none⟩) (Kd.R_far (p := ⟨gb387, 0, none⟩) (Kd.R_types HO386.out BK387.out (by decide)) (fun _ hk => hk.2) (.slice Ao30 t381.length co30)) (fun _ hk => hk.2) (.slice Ao33 t384.length co33)) (fun _ h_ => h_.1))) hb); have n6_ := Aside0.mk (Kd.R_lower (Kd.R_new' (Kd.R_new' ho0 (Kd.R_lt (by (with_reducible repeat (first | apply Kd.R_alloc | apply Kd.R_drewN | apply Kd.R_drew)); exact (Kd.R_mono (Kd.R_far (p := ⟨gb387, 1, none⟩) (Kd.R_far (p := ⟨gb387, 0, none⟩) (Kd.R_types HO376.out BK387.out (by decide)) (fun _ hk => hk.2) (.slice Ao30 t381.length co30)) (fun _ hk => hk.2) (.slice Ao33 t384.length co33)) (fun _ h_ => h_.1))))) (Kd.R_lt (by (with_reducible repeat (first | apply Kd.R_alloc | apply Kd.R_drewN | apply Kd.R_drew)); exact (Kd.R_mono (Kd.R_far (p := ⟨gb387, 1, none⟩) (Kd.R_far (p := ⟨gb387, 0, none⟩) (Kd.R_types HO379.out BK387.out (by decide)) (fun _ hk => hk.2) (.slice Ao30 t381.length co30)) (fun _ hk => hk.2) (.slice Ao33 t384.length co33)) (fun _ h_ => h_.1))))) (below_size hb_)); have n7_ := Aside0.mk (blk_below (g := gb366) (o := .cells #[.slice A0_0 l0_0.length c0_0, .slice A0_1 l0_1.length c0_1] 49 (0, 0)) (by (with_reducible repeat (first | refine blk_drewN ?_ _ | refine blk_drew ?_ | refine blk_alloc ?_ _)); refine blk_far ?_ NB366_387.out _; (with_reducible repeat (first | refine blk_drewN ?_ _ | refine blk_drew ?_ | refine blk_alloc ?_ _)); refine blk_far ?_ NB366_387.out _; (with_reducible repeat (first | refine blk_drewN ?_ _ | refine blk_drew ?_ | refine blk_alloc ?_ _)); exact BK366.out) hb); have n8_ := Aside0.mk (blk_below (g := gb387) (o := .cells #[.slice Ao30 t381.length co30, .slice Ao33 t384.length co33] 55 (0, 0)) (by (with_reducible repeat (first | refine blk_drewN ?_ _ | refine blk_drew ?_ | refine blk_alloc ?_ _)); refine blk_put (cs := #[.slice Ao30 t381.length co30, .slice none 0 0]) ?_ 1 _ rfl; (with_reducible repeat (first | refine blk_drewN ?_ _ | refine blk_drew ?_ | refine blk_alloc ?_ _)); refine blk_put (cs := #[.slice none 0 0, .slice none 0 0]) ?_ 0 _ rfl; (with_reducible repeat (first | refine blk_drewN ?_ _ | refine blk_drew ?_ | refine blk_alloc ?_ _)); exact BK387.out) hb); have n9_ := Aside0.mk (below_step hb_ hb); clear HO370; clear HO373; clear HO376; clear HO379; clear HO383; clear HO386; clear BK366; clear BK387; clear HB; have HO370 := n0_; have HO373 := n1_; have HO376 := n2_; have HO379 := n3_; have HO383 := n4_; have HO386 := n5_; have HO390 := n6_; have BK366 := n7_; have BK387 := n8_; have HB := n9_; clear n0_ n1_ n2_ n3_ n4_ n5_ n6_ n7_ n8_ n9_; (try clear hb); (try clear hb2); (try clear hk); (try clear hi); (try clear ho0); have hcz35_0 : w34.cell? ⟨gb387, 0, none⟩ = some (.slice Ao30 t381.length co30) := (blk_cell BK387.out 0).trans rfl; have hcz35_1 : w34.cell? ⟨gb387, 1, none⟩ = some (.slice Ao33 t384.length co33) := (blk_cell BK387.out 1).trans rfl; have hfz35_0 := blk_frozen BK387.out 0; have hfz35_1 := blk_frozen BK387.out 1; obtain ⟨Ao36, co36, eo36⟩ := Kd.R_slice HO390.out; subst eo36) | ((with_reducible refine gate_callee (f := 41) rfl ?_); refine goesL_ (some 40) rfl rfl Try.func41 (by kernel_rfl) rfl #[.agg #[.slice Ao30 t381.length co30, .slice Ao33 t384.length co33], .slice Ao36 t388.length co36] rfl ls_ ?_; (with_reducible refine (impl_RunChart.calls k _ _ t381 _ _ t384 _ _ t388 t391 t394 _ ?side1 ?side2 ?side3 ?side4 ?side5 ?side6 A15.out).mono ?_); (case side1 => exact ca_ (Kd.R_reads' HO383.out).2.2); (case side2 => exact (Kd.R_reads' HO383.out).2.1); (case side3 => exact ca_ (Kd.R_reads' HO386.out).2.2); (case side4 => exact (Kd.R_reads' HO386.out).2.1); (case side5 => exact ca_ (Kd.R_reads' HO390.out).2.2); (case side6 => exact (Kd.R_reads' HO390.out).2.1); rintro e w37 ⟨v392, rfl, ho0, hb⟩; refine ⟨_, rfl, ?_⟩; have n0_ := Aside0.mk (Kd.R_below (ra_ HO370.out) hb); have n1_ := Aside0.mk (Kd.R_below (ra_ HO373.out) hb); have n2_ := Aside0.mk (Kd.R_elder' (ra_ HO376.out) (Kd.R_base ho0) hb); have n3_ := Aside0.mk (Kd.R_elder' (ra_ HO379.out) (Kd.R_base ho0) hb); have n4_ := Aside0.mk (Kd.R_below (ra_ HO383.out) hb); have n5_ := Aside0.mk (Kd.R_below (ra_ HO386.out) hb); have n6_ := Aside0.mk (Kd.R_elder' (ra_ HO390.out) (Kd.R_base ho0) hb); have n7_ := Aside0.mk (Kd.R_lower (Kd.R_new' (Kd.R_new' (Kd.R_new' ho0 (Kd.R_lt (ra_ HO376.out))) (Kd.R_lt (ra_ HO379.out))) (Kd.R_lt (ra_ HO390.out))) (below_size hb_)); have n8_ := bb_ BK366 hb; have n9_ := bb_ BK387 hb; have n10_ := Aside0.mk (below_step hb_ hb); clear HO370; clear HO373; clear HO376; clear HO379; clear HO383; clear HO386; clear HO390; clear BK366; clear BK387; clear HB; have HO370 := n0_; have HO373 := n1_; have HO376 := n2_; have HO379 := n3_; have HO383 := n4_; have HO386 := n5_; have HO390 := n6_; have HO393 := n7_; have BK366 := n8_; have BK387 := n9_; have HB := n10_; clear n0_ n1_ n2_ n3_ n4_ n5_ n6_ n7_ n8_ n9_ n10_; (try clear hb); (try clear hb2); (try clear hk); (try clear hi); (try clear ho0)))
    (try simp only [Act.put, List.setIfInBounds_toArray, List.set_cons_zero, List.set_cons_succ])
    go_cut [51] (fun v51 wc => ∃ (kq : Nat) (x51_15 : Bool), v51 = .bool x51_15 ∧ Aside0 (laws_FnExactRunChart.j0 kq l1 t377 t380 t388 t391 t394 x51_15 l0_0 l0_1 t381 t384 = some r) ∧ Aside0 (kq ≤ k) ∧ Aside0 (Kd.R (Kd.int .i64) 3 wc w.heap.size (fun k_ => some k_ ≠ ((.slice Ao36 t388.length co36) : Value).ownBlock ∧ some k_ ≠ (v392 : Value).ownBlock) v378 t377) ∧ Aside0 (Kd.R (Kd.int .i64) 3 wc w.heap.size (fun k_ => some k_ ≠ (v378 : Value).ownBlock ∧ some k_ ≠ (v392 : Value).ownBlock) (.slice Ao36 t388.length co36) t388) ∧ Aside0 (Kd.R (Kd.int .i64) 3 wc w.heap.size (fun k_ => some k_ ≠ (v378 : Value).ownBlock ∧ some k_ ≠ ((.slice Ao36 t388.length co36) : Value).ownBlock) v392 t391) ∧ Aside0 (Kd.R k88 88 wc w.heap.size (fun _ => True) (.slice Ao30 t381.length co30) t381) ∧ Aside0 (Kd.R k90 90 wc w.heap.size (fun _ => True) (.slice Ao33 t384.length co33) t384) ∧ Aside0 (wc.heap[gb366]? = some (.cells #[(.slice A0_0 l0_0.length c0_0), (.slice A0_1 l0_1.length c0_1)] 49 (0, 0))) ∧ Aside0 (wc.heap[gb387]? = some (.cells #[(.slice Ao30 t381.length co30), (.slice Ao33 t384.length co33)] 55 (0, 0))) ∧ Aside0 (Below w.heap.size w wc))
    case first =>
     have H := HC16.out
     clear HC16
     replace H := Option.bind_eq_some_iff.mp H
     obtain ⟨t395, A380, H⟩ := H
     replace H : (if t395 = true then (laws_FnExactRunChart.j0 k l1 t377 t380 t388 t391 t394 (t394 != t380) l0_0 l0_1 t381 t384) else (laws_FnExactRunChart.j0 k l1 t377 t380 t388 t391 t394 true l0_0 l0_1 t381 t384)) = some r := H
     have A38 := Aside0.mk A380
     clear A380
     by_cases c39 : t395 = true
     ·subst c39
      rw [if_pos rfl] at H
      have H' := Aside0.mk H
      clear H
      obtain ⟨Ao40, co40, eo40⟩ := Kd.R_slice HO393.out
      subst eo40
      obtain ⟨Ao41, co41, eo41⟩ := Kd.R_slice HO379.out
      subst eo41
      go_wp2_with (first | ((with_reducible refine gate_callee (f := 26) rfl ?_); refine goesL_ (some 45) rfl rfl Try.func26 (by kernel_rfl) rfl #[.slice Ao40 t391.length co40, .slice Ao41 t377.length co41] rfl ls_ ?_; (with_reducible refine (laws_eqIntS.calls k _ _ t391 _ _ t377 true _ ?side1 ?side2 ?side3 ?side4 A38.out).mono ?_); (case side1 => exact ca_ (Kd.R_reads' HO393.out).2.2); (case side2 => exact (Kd.R_reads' HO393.out).2.1); (case side3 => exact ca_ (Kd.R_reads' HO379.out).2.2); (case side4 => exact (Kd.R_reads' HO379.out).2.1); rintro e w' ⟨rfl, ⟨nd, rfl⟩⟩; refine ⟨_, rfl, ?_⟩))
      go_meet
      case rel => exact ⟨_, ((t394 != t380)), es_, H', ⟨by first | omega | exact Nat.le_refl _⟩, ⟨by (with_reducible repeat (first | apply Kd.R_alloc | apply Kd.R_drewN | apply Kd.R_drew)); exact Kd.R_mono HO379.out (fun _ hk => ⟨hk.1.2, hk.2⟩)⟩, ⟨by (with_reducible repeat (first | apply Kd.R_alloc | apply Kd.R_drewN | apply Kd.R_drew)); exact Kd.R_mono HO390.out (fun _ hk => ⟨hk.1.2, hk.2⟩)⟩, ⟨by (with_reducible repeat (first | apply Kd.R_alloc | apply Kd.R_drewN | apply Kd.R_drew)); exact Kd.R_mono HO393.out (fun _ hk => ⟨hk.1.2, hk.2⟩)⟩, ⟨by (with_reducible repeat (first | apply Kd.R_alloc | apply Kd.R_drewN | apply Kd.R_drew)); exact Kd.R_mono HO383.out (fun _ hk => trivial)⟩, ⟨by (with_reducible repeat (first | apply Kd.R_alloc | apply Kd.R_drewN | apply Kd.R_drew)); exact Kd.R_mono HO386.out (fun _ hk => trivial)⟩, ⟨bk_ BK366.out⟩, ⟨bk_ BK387.out⟩, ⟨hb_⟩⟩
     ·replace c39 := Bool.eq_false_iff.mpr c39
      subst c39
      rw [if_neg (show ¬ (false = true) by decide)] at H
      have H' := Aside0.mk H
      clear H
      obtain ⟨Ao42, co42, eo42⟩ := Kd.R_slice HO393.out
      subst eo42
      obtain ⟨Ao43, co43, eo43⟩ := Kd.R_slice HO379.out
      subst eo43
      go_wp2_with (first | ((with_reducible refine gate_callee (f := 26) rfl ?_); refine goesL_ (some 45) rfl rfl Try.func26 (by kernel_rfl) rfl #[.slice Ao42 t391.length co42, .slice Ao43 t377.length co43] rfl ls_ ?_; (with_reducible refine (laws_eqIntS.calls k _ _ t391 _ _ t377 false _ ?side1 ?side2 ?side3 ?side4 A38.out).mono ?_); (case side1 => exact ca_ (Kd.R_reads' HO393.out).2.2); (case side2 => exact (Kd.R_reads' HO393.out).2.1); (case side3 => exact ca_ (Kd.R_reads' HO379.out).2.2); (case side4 => exact (Kd.R_reads' HO379.out).2.1); rintro e w' ⟨rfl, ⟨nd, rfl⟩⟩; refine ⟨_, rfl, ?_⟩))
      go_meet
      case rel => exact ⟨_, (true), es_, H', ⟨by first | omega | exact Nat.le_refl _⟩, ⟨by (with_reducible repeat (first | apply Kd.R_alloc | apply Kd.R_drewN | apply Kd.R_drew)); exact Kd.R_mono HO379.out (fun _ hk => ⟨hk.1.2, hk.2⟩)⟩, ⟨by (with_reducible repeat (first | apply Kd.R_alloc | apply Kd.R_drewN | apply Kd.R_drew)); exact Kd.R_mono HO390.out (fun _ hk => ⟨hk.1.2, hk.2⟩)⟩, ⟨by (with_reducible repeat (first | apply Kd.R_alloc | apply Kd.R_drewN | apply Kd.R_drew)); exact Kd.R_mono HO393.out (fun _ hk => ⟨hk.1.2, hk.2⟩)⟩, ⟨by (with_reducible repeat (first | apply Kd.R_alloc | apply Kd.R_drewN | apply Kd.R_drew)); exact Kd.R_mono HO383.out (fun _ hk => trivial)⟩, ⟨by (with_reducible repeat (first | apply Kd.R_alloc | apply Kd.R_drewN | apply Kd.R_drew)); exact Kd.R_mono HO386.out (fun _ hk => trivial)⟩, ⟨bk_ BK366.out⟩, ⟨bk_ BK387.out⟩, ⟨hb_⟩⟩
    case rest =>
     clear HC16
     try clear c1
     try clear c2
     try clear p2
     try clear c3
     try clear c3b0
     try clear c3b1
     try clear c4
     try clear c6
     try clear c6b0
     try clear c10
     try clear c24
     try clear c26
     try clear c31
     try clear c33
     try clear c39
     try clear c41
     try clear c42
     try clear hcz18_0
     try clear hcz18_1
     try clear hcz20_0
     try clear hcz20_1
     try clear hcz27_0
     try clear hcz27_1
     try clear hcz32_0
     try clear hcz32_1
     try clear hcz35_0
     try clear hcz35_1
     try clear hcz8_0
     try clear hcz8_1
     try clear hfz18_0
     try clear hfz18_1
     try clear hfz20_0
     try clear hfz20_1
     try clear hfz27_0
     try clear hfz27_1
     try clear hfz32_0
     try clear hfz32_1
     try clear hfz35_0
     try clear hfz35_1
     try clear hfz8_0
     try clear hfz8_1
     obtain ⟨kq, x51_15, rfl, HA, HJ15, HO_6, HO_9, HO_10, HO_388000, HO_388001, BK366, BK387, HB⟩ := hcut
     cases kq with
     | zero => exact absurd HA.out (by simp [laws_FnExactRunChart.j0])
     | succ kj15 =>
      have H := HA.out
      clear HA
      simp only [laws_FnExactRunChart.j0] at H
      by_cases c44 : x51_15 = true
      ·subst c44
       rw [if_pos rfl] at H
       obtain rfl := Option.some.inj H
       go_wp2
       go_ret
       exact ⟨er_, hb_⟩
      ·replace c44 := Bool.eq_false_iff.mpr c44
       subst c44
       rw [if_neg (show ¬ (false = true) by decide)] at H
       replace H := Option.bind_eq_some_iff.mp H
       obtain ⟨⟨t396, t399⟩, A450, H⟩ := H
       replace H : ((laws_eqChart.f kj15 t381 t384 t396 t399).bind fun t402 => (if t402 = true then ((laws_toIntS.f kj15 l1).bind fun t403 => ((laws_eqIntS.f kj15 t388 t403).bind fun t406 => (if t406 = true then ((laws_markChart.f kj15 t381 t384 1).bind fun bt407 => ((laws_markIntS.f kj15 t388 bt407.1).bind fun bt410 => (if bt410.1 < 0 then (laws_FnExactRunChart.j1 kj15 l1 t377 t380 t391 true l0_0 l0_1) else ((laws_eqIntS.f kj15 t391 t377).bind fun t412 => (if t412 = true then (laws_FnExactRunChart.j1 kj15 l1 t377 t380 t391 (t394 != t380) l0_0 l0_1) else (laws_FnExactRunChart.j1 kj15 l1 t377 t380 t391 true l0_0 l0_1)))))) else (some false)))) else (some false))) = some r := H
       have A45 := Aside0.mk A450
       clear A450
       replace H := Option.bind_eq_some_iff.mp H
       obtain ⟨t402, A460, H⟩ := H
       replace H : (if t402 = true then ((laws_toIntS.f kj15 l1).bind fun t403 => ((laws_eqIntS.f kj15 t388 t403).bind fun t406 => (if t406 = true then ((laws_markChart.f kj15 t381 t384 1).bind fun bt407 => ((laws_markIntS.f kj15 t388 bt407.1).bind fun bt410 => (if bt410.1 < 0 then (laws_FnExactRunChart.j1 kj15 l1 t377 t380 t391 true l0_0 l0_1) else ((laws_eqIntS.f kj15 t391 t377).bind fun t412 => (if t412 = true then (laws_FnExactRunChart.j1 kj15 l1 t377 t380 t391 (t394 != t380) l0_0 l0_1) else (laws_FnExactRunChart.j1 kj15 l1 t377 t380 t391 true l0_0 l0_1)))))) else (some false)))) else (some false)) = some r := H
       have A46 := Aside0.mk A460
       clear A460
       by_cases c47 : t402 = true
       ·subst c47
        rw [if_pos rfl] at H
        replace H := Option.bind_eq_some_iff.mp H
        obtain ⟨t403, A480, H⟩ := H
        replace H : ((laws_eqIntS.f kj15 t388 t403).bind fun t406 => (if t406 = true then ((laws_markChart.f kj15 t381 t384 1).bind fun bt407 => ((laws_markIntS.f kj15 t388 bt407.1).bind fun bt410 => (if bt410.1 < 0 then (laws_FnExactRunChart.j1 kj15 l1 t377 t380 t391 true l0_0 l0_1) else ((laws_eqIntS.f kj15 t391 t377).bind fun t412 => (if t412 = true then (laws_FnExactRunChart.j1 kj15 l1 t377 t380 t391 (t394 != t380) l0_0 l0_1) else (laws_FnExactRunChart.j1 kj15 l1 t377 t380 t391 true l0_0 l0_1)))))) else (some false))) = some r := H
        have A48 := Aside0.mk A480
        clear A480
        replace H := Option.bind_eq_some_iff.mp H
        obtain ⟨t406, A490, H⟩ := H
        replace H : (if t406 = true then ((laws_markChart.f kj15 t381 t384 1).bind fun bt407 => ((laws_markIntS.f kj15 t388 bt407.1).bind fun bt410 => (if bt410.1 < 0 then (laws_FnExactRunChart.j1 kj15 l1 t377 t380 t391 true l0_0 l0_1) else ((laws_eqIntS.f kj15 t391 t377).bind fun t412 => (if t412 = true then (laws_FnExactRunChart.j1 kj15 l1 t377 t380 t391 (t394 != t380) l0_0 l0_1) else (laws_FnExactRunChart.j1 kj15 l1 t377 t380 t391 true l0_0 l0_1)))))) else (some false)) = some r := H
        have A49 := Aside0.mk A490
        clear A490
        by_cases c50 : t406 = true
        ·subst c50
         rw [if_pos rfl] at H
         replace H := Option.bind_eq_some_iff.mp H
         obtain ⟨⟨t407, t408, t409⟩, A510, H⟩ := H
         replace H : ((laws_markIntS.f kj15 t388 t407).bind fun bt410 => (if bt410.1 < 0 then (laws_FnExactRunChart.j1 kj15 l1 t377 t380 t391 true l0_0 l0_1) else ((laws_eqIntS.f kj15 t391 t377).bind fun t412 => (if t412 = true then (laws_FnExactRunChart.j1 kj15 l1 t377 t380 t391 (t394 != t380) l0_0 l0_1) else (laws_FnExactRunChart.j1 kj15 l1 t377 t380 t391 true l0_0 l0_1))))) = some r := H
         have A51 := Aside0.mk A510
         clear A510
         replace H := Option.bind_eq_some_iff.mp H
         obtain ⟨⟨t410, t411⟩, A520, H⟩ := H
         replace H : (if t410 < 0 then (laws_FnExactRunChart.j1 kj15 l1 t377 t380 t391 true l0_0 l0_1) else ((laws_eqIntS.f kj15 t391 t377).bind fun t412 => (if t412 = true then (laws_FnExactRunChart.j1 kj15 l1 t377 t380 t391 (t394 != t380) l0_0 l0_1) else (laws_FnExactRunChart.j1 kj15 l1 t377 t380 t391 true l0_0 l0_1)))) = some r := H
         have A52 := Aside0.mk A520
         clear A520
         have HC53 := Aside0.mk H
         clear H
         try go_wp2
         have n0_ := Aside0.mk (Kd.R_drew HO_6.out)
         have n1_ := Aside0.mk (Kd.R_drew HO_9.out)
         have n2_ := Aside0.mk (Kd.R_drew HO_10.out)
         have n3_ := Aside0.mk (Kd.R_drew HO_388000.out)
         have n4_ := Aside0.mk (Kd.R_drew HO_388001.out)
         have n5_ := Aside0.mk (blk_drew BK366.out)
         have n6_ := Aside0.mk (blk_drew BK387.out)
         have n7_ := Aside0.mk (below_drew1 HB.out)
         clear HO_6
         clear HO_9
         clear HO_10
         clear HO_388000
         clear HO_388001
         clear BK366
         clear BK387
         clear HB
         have HO_6 := n0_
         have HO_9 := n1_
         have HO_10 := n2_
         have HO_388000 := n3_
         have HO_388001 := n4_
         have BK366 := n5_
         have BK387 := n6_
         have HB := n7_
         clear n0_ n1_ n2_ n3_ n4_ n5_ n6_ n7_
         refine start_ (n := 5) (S := fun w' => w'.cell? ⟨gb387, 0, none⟩ = some (.slice Ao30 t381.length co30) ∧ w'.cell? ⟨gb387, 1, none⟩ = some (.slice Ao33 t384.length co33) ∧ w'.cell? ⟨gb366, 0, none⟩ = some (.slice A0_0 l0_0.length c0_0) ∧ w'.cell? ⟨gb366, 1, none⟩ = some (.slice A0_1 l0_1.length c0_1)) (ds := []) #[false, false, false, false, false] (by kernel_rfl) rfl rfl ⟨(blk_cell BK387.out 0).trans rfl, (blk_cell BK387.out 1).trans rfl, (blk_cell BK366.out 0).trans rfl, (blk_cell BK366.out 1).trans rfl⟩ (fun hHeld => ?_)
         generalize wc.drew = w54 at HO_6 HO_9 HO_10 HO_388000 HO_388001 BK366 BK387 HB hHeld ⊢
         refine take_ (i := 0) (N := some 52) (v := ?_) (a' := ?_) #[true, false, false, false, false] rfl rfl (by kernel_rfl) (fun _ _ _ h => h) (Or.inl ⟨by rfl, ?_⟩) hHeld ?_ ?_
         rotate_left
         ·rintro w' ⟨s0, s1, s2, s3⟩
          go_simp
          with_reducible rfl
         rotate_left
         ·simp only [Act.put, List.setIfInBounds_toArray, List.set_cons_zero, List.set_cons_succ, i64_w, i32_w]
          rfl
         refine take_ (i := 1) (N := some 53) (v := ?_) (a' := ?_) #[true, true, false, false, false] rfl rfl (by kernel_rfl) (fun _ _ _ h => h) (Or.inl ⟨by rfl, ?_⟩) hHeld ?_ ?_
         rotate_left
         ·rintro w' ⟨s0, s1, s2, s3⟩
          go_simp
          with_reducible rfl
         rotate_left
         ·simp only [Act.put, List.setIfInBounds_toArray, List.set_cons_zero, List.set_cons_succ, i64_w, i32_w]
          rfl
         refine one_ (i := 2) (N := some 54) #[true, true, true, false, false] rfl rfl (by kernel_rfl) (by decide) (fun K hK => ?_)
         refine goes_ Try.func33 (by kernel_rfl) rfl #[.agg #[.slice A0_0 l0_0.length c0_0, .slice A0_1 l0_1.length c0_1]] (by rfl) rfl rfl ls_ ?_
         with_reducible refine (laws_toChart.calls kj15 _ _ l0_0 _ _ l0_1 t396 t399 _ ?side1 ?side2 ?side3 ?side4 A45.out).mono ?_
         (case side1 => exact cb_ HR0_0.out)
         (case side2 => exact HC0_0.out)
         (case side3 => exact cb_ HR0_1.out)
         (case side4 => exact HC0_1.out)
         rintro e w55 ⟨v397, v400, rfl, ho0, ho1, hb⟩
         refine ⟨_, rfl, ?_⟩
         have n0_ := Aside0.mk (Kd.R_below (ra_ HO_6.out) hb)
         have n1_ := Aside0.mk (Kd.R_below (ra_ HO_9.out) hb)
         have n2_ := Aside0.mk (Kd.R_below (ra_ HO_10.out) hb)
         have n3_ := Aside0.mk (Kd.R_elder' (ra_ HO_388000.out) (Kd.R_base ho0) hb)
         have n4_ := Aside0.mk (Kd.R_elder' (ra_ HO_388001.out) (Kd.R_base ho1) hb)
         have n5_ := Aside0.mk (Kd.R_lower (Kd.R_new' ho0 (Kd.R_lt (ra_ HO_388000.out))) (below_size hb_))
         have n6_ := Aside0.mk (Kd.R_lower (Kd.R_new' ho1 (Kd.R_lt (ra_ HO_388001.out))) (below_size hb_))
         have n7_ := bb_ BK366 hb
         have n8_ := bb_ BK387 hb
         have n9_ := Aside0.mk (below_step hb_ hb)
         clear HO_6
         clear HO_9
         clear HO_10
         clear HO_388000
         clear HO_388001
         clear BK366
         clear BK387
         clear HB
         have HO_6 := n0_
         have HO_9 := n1_
         have HO_10 := n2_
         have HO_388000 := n3_
         have HO_388001 := n4_
         have HO398 := n5_
         have HO401 := n6_
         have BK366 := n7_
         have BK387 := n8_
         have HB := n9_
         clear n0_ n1_ n2_ n3_ n4_ n5_ n6_ n7_ n8_ n9_
         (try clear hb)
         (try clear hb2)
         (try clear hk)
         (try clear hi)
         (try clear ho0)
         (try clear ho1)
         obtain ⟨Ao56, co56, eo56⟩ := Kd.R_slice HO398.out
         (first | subst eo56 | (injection eo56 with f1_ f2_ f3_; have f4_ := f1_.symm; have f5_ := f3_.symm; clear f1_ f2_ f3_; subst f4_; subst f5_))
         obtain ⟨Ao57, co57, eo57⟩ := Kd.R_slice HO401.out
         (first | subst eo57 | (injection eo57 with f1_ f2_ f3_; have f4_ := f1_.symm; have f5_ := f3_.symm; clear f1_ f2_ f3_; subst f4_; subst f5_))
         refine hK.out _ _ ⟨(blk_cell BK387.out 0).trans rfl, (blk_cell BK387.out 1).trans rfl, (blk_cell BK366.out 0).trans rfl, (blk_cell BK366.out 1).trans rfl⟩ (fun hHeld => ?_)
         clear hK K
         refine norm_ (a' := ?_) ?_ ?_
         rotate_left
         ·show Act.put _ (some 54) _ = _
          simp only [Act.put, List.setIfInBounds_toArray, List.set_cons_zero, List.set_cons_succ, i64_w, i32_w]
          rfl
         refine one_ (i := 3) (N := some 55) #[true, true, true, true, false] rfl rfl (by kernel_rfl) (by decide) (fun K hK => ?_)
         refine goes_ Try.func35 (by kernel_rfl) rfl #[.agg #[.slice Ao30 t381.length co30, .slice Ao33 t384.length co33], .agg #[.slice Ao56 t396.length co56, .slice Ao57 t399.length co57]] (by rfl) rfl rfl ls_ ?_
         with_reducible refine (laws_eqChart.calls kj15 _ _ t381 _ _ t384 _ _ t396 _ _ t399 true _ ?side1 ?side2 ?side3 ?side4 ?side5 ?side6 ?side7 ?side8 A46.out).mono ?_
         (case side1 => exact ca_ (Kd.R_reads' HO_388000.out).2.2)
         (case side2 => exact (Kd.R_reads' HO_388000.out).2.1)
         (case side3 => exact ca_ (Kd.R_reads' HO_388001.out).2.2)
         (case side4 => exact (Kd.R_reads' HO_388001.out).2.1)
         (case side5 => exact ca_ (Kd.R_reads' HO398.out).2.2)
         (case side6 => exact (Kd.R_reads' HO398.out).2.1)
         (case side7 => exact ca_ (Kd.R_reads' HO401.out).2.2)
         (case side8 => exact (Kd.R_reads' HO401.out).2.1)
         rintro e w58 ⟨rfl, hb⟩
         refine ⟨_, rfl, ?_⟩
         have n0_ := Aside0.mk (Kd.R_below (ra_ HO_6.out) hb)
         have n1_ := Aside0.mk (Kd.R_below (ra_ HO_9.out) hb)
         have n2_ := Aside0.mk (Kd.R_below (ra_ HO_10.out) hb)
         have n3_ := Aside0.mk (Kd.R_below (ra_ HO_388000.out) hb)
         have n4_ := Aside0.mk (Kd.R_below (ra_ HO_388001.out) hb)
         have n5_ := Aside0.mk (Kd.R_below (ra_ HO398.out) hb)
         have n6_ := Aside0.mk (Kd.R_below (ra_ HO401.out) hb)
         have n7_ := bb_ BK366 hb
         have n8_ := bb_ BK387 hb
         have n9_ := Aside0.mk (below_step hb_ hb)
         clear HO_6
         clear HO_9
         clear HO_10
         clear HO_388000
         clear HO_388001
         clear HO398
         clear HO401
         clear BK366
         clear BK387
         clear HB
         have HO_6 := n0_
         have HO_9 := n1_
         have HO_10 := n2_
         have HO_388000 := n3_
         have HO_388001 := n4_
         have HO398 := n5_
         have HO401 := n6_
         have BK366 := n7_
         have BK387 := n8_
         have HB := n9_
         clear n0_ n1_ n2_ n3_ n4_ n5_ n6_ n7_ n8_ n9_
         (try clear hb)
         (try clear hb2)
         (try clear hk)
         (try clear hi)
         refine hK.out _ _ ⟨(blk_cell BK387.out 0).trans rfl, (blk_cell BK387.out 1).trans rfl, (blk_cell BK366.out 0).trans rfl, (blk_cell BK366.out 1).trans rfl⟩ (fun hHeld => ?_)
         clear hK K
         refine norm_ (a' := ?_) ?_ ?_
         rotate_left
         ·show Act.put _ (some 55) _ = _
          simp only [Act.put, List.setIfInBounds_toArray, List.set_cons_zero, List.set_cons_succ, i64_w, i32_w]
          rfl
         refine pure_ (i := 4) (N := some 56) (v := ?_) (a' := ?_) #[true, true, true, true, true] rfl rfl (by kernel_rfl) (fun _ _ _ h => h) (Or.inl ⟨by rfl, ?_⟩) ?_ ?_
         rotate_left
         ·intro w'
          go_simp
          with_reducible rfl
         rotate_left
         ·simp only [Act.put, List.setIfInBounds_toArray, List.set_cons_zero, List.set_cons_succ, i64_w, i32_w]
          rfl
         refine done_ (by kernel_rfl) ?_
         go_upto_region 20 with (first | ((with_reducible refine gate_callee (f := 24) rfl ?_); refine goesL_ (some 59) rfl rfl Try.func24 (by kernel_rfl) rfl #[.slice A1 l1.length c1] rfl ls_ ?_; (with_reducible refine (laws_toIntS.calls kj15 _ _ l1 t403 _ ?side1 ?side2 A48.out).mono ?_); (case side1 => exact cb_ HR1.out); (case side2 => exact HC1.out); rintro e w59 ⟨v404, rfl, ho0, hb⟩; refine ⟨_, rfl, ?_⟩; have n0_ := Aside0.mk (Kd.R_elder' (ra_ HO_6.out) (Kd.R_base ho0) hb); have n1_ := Aside0.mk (Kd.R_elder' (ra_ HO_9.out) (Kd.R_base ho0) hb); have n2_ := Aside0.mk (Kd.R_elder' (ra_ HO_10.out) (Kd.R_base ho0) hb); have n3_ := Aside0.mk (Kd.R_below (ra_ HO_388000.out) hb); have n4_ := Aside0.mk (Kd.R_below (ra_ HO_388001.out) hb); have n5_ := Aside0.mk (Kd.R_below (ra_ HO398.out) hb); have n6_ := Aside0.mk (Kd.R_below (ra_ HO401.out) hb); have n7_ := Aside0.mk (Kd.R_lower (Kd.R_new' (Kd.R_new' (Kd.R_new' ho0 (Kd.R_lt (ra_ HO_6.out))) (Kd.R_lt (ra_ HO_9.out))) (Kd.R_lt (ra_ HO_10.out))) (below_size hb_)); have n8_ := bb_ BK366 hb; have n9_ := bb_ BK387 hb; have n10_ := Aside0.mk (below_step hb_ hb); clear HO_6; clear HO_9; clear HO_10; clear HO_388000; clear HO_388001; clear HO398; clear HO401; clear BK366; clear BK387; clear HB; have HO_6 := n0_; have HO_9 := n1_; have HO_10 := n2_; have HO_388000 := n3_; have HO_388001 := n4_; have HO398 := n5_; have HO401 := n6_; have HO405 := n7_; have BK366 := n8_; have BK387 := n9_; have HB := n10_; clear n0_ n1_ n2_ n3_ n4_ n5_ n6_ n7_ n8_ n9_ n10_; (try clear hb); (try clear hb2); (try clear hk); (try clear hi); (try clear ho0); obtain ⟨Ao60, co60, eo60⟩ := Kd.R_slice HO405.out; subst eo60) | ((with_reducible refine gate_callee (f := 26) rfl ?_); refine goesL_ (some 60) rfl rfl Try.func26 (by kernel_rfl) rfl #[.slice Ao36 t388.length co36, .slice Ao60 t403.length co60] rfl ls_ ?_; (with_reducible refine (laws_eqIntS.calls kj15 _ _ t388 _ _ t403 true _ ?side1 ?side2 ?side3 ?side4 A49.out).mono ?_); (case side1 => exact ca_ (Kd.R_reads' HO_9.out).2.2); (case side2 => exact (Kd.R_reads' HO_9.out).2.1); (case side3 => exact ca_ (Kd.R_reads' HO405.out).2.2); (case side4 => exact (Kd.R_reads' HO405.out).2.1); rintro e w' ⟨rfl, ⟨nd, rfl⟩⟩; refine ⟨_, rfl, ?_⟩; have hnb61 := NB387_366.out; have hnc61 := NB366_387.out; have hcz62_0 : w59.cell? ⟨gb387, 0, none⟩ = some (.slice Ao30 t381.length co30) := (blk_cell BK387.out 0).trans rfl; have hcz62_1 : w59.cell? ⟨gb387, 1, none⟩ = some (.slice Ao33 t384.length co33) := (blk_cell BK387.out 1).trans rfl; have hfz62_0 := blk_frozen BK387.out 0; have hfz62_1 := blk_frozen BK387.out 1) | ((with_reducible refine gate_callee (f := 45) rfl ?_); refine goesL_ (some 64) rfl rfl Try.func45 (by kernel_rfl) rfl #[.agg #[.slice Ao30 t381.length co30, .slice Ao33 t384.length co33], .int .i64 1] rfl ls_ ?_; (with_reducible refine (laws_markChart.calls kj15 (fun k_ => some k_ = (.slice Ao30 t381.length co30 : Value).ownBlock) (.slice Ao30 t381.length co30) t381 (fun k_ => some k_ = (.slice Ao33 t384.length co33 : Value).ownBlock) (.slice Ao33 t384.length co33) t384 1 t407 t408 t409 w _ ?side1 ?side2 ?side3 A51.out).mono ?_); (case side1 => repeat (first | (with_reducible first | exact HB.out | apply below_alloc | apply pw_below_drewN | apply below_drew1 | refine below_set ?_ GE366.out | refine below_set ?_ GE387.out) | exact HB.out)); (case side2 => exact Kd.R_tight rfl HO_388000.out); (case side3 => exact Kd.R_tight rfl HO_388001.out); rintro e w63 ⟨rfl, hy0, hy1, hb, hkp⟩; refine ⟨_, rfl, ?_⟩; have n0_ := Aside0.mk (Kd.R_mono (ok' := fun k_ => some k_ ≠ (.slice Ao36 t388.length co36 : Value).ownBlock ∧ some k_ ≠ (v392 : Value).ownBlock ∧ some k_ ≠ (.slice Ao60 t403.length co60 : Value).ownBlock) (Kd.R_keptB ((Kd.R_apart' (Kd.R_apart' HO_6.out (Kd.R_typed HO_388000.out) (by decide)) (Kd.R_typed HO_388001.out) (by decide))) hkp (fun k_ hk_ hs_ => Or.elim hs_ (fun e_ => (hk_.1.2) e_) (fun e_ => (hk_.2) e_))) (fun k_ hk_ => ⟨hk_.1.1.1.1.1, hk_.1.1.1.1.2, hk_.1.1.1.2⟩)); have n1_ := Aside0.mk (Kd.R_mono (ok' := fun k_ => some k_ ≠ (v378 : Value).ownBlock ∧ some k_ ≠ (v392 : Value).ownBlock ∧ some k_ ≠ (.slice Ao60 t403.length co60 : Value).ownBlock) (Kd.R_keptB ((Kd.R_apart' (Kd.R_apart' HO_9.out (Kd.R_typed HO_388000.out) (by decide)) (Kd.R_typed HO_388001.out) (by decide))) hkp (fun k_ hk_ hs_ => Or.elim hs_ (fun e_ => (hk_.1.2) e_) (fun e_ => (hk_.2) e_))) (fun k_ hk_ => ⟨hk_.1.1.1.1.1, hk_.1.1.1.1.2, hk_.1.1.1.2⟩)); have n2_ := Aside0.mk (Kd.R_mono (ok' := fun k_ => some k_ ≠ (v378 : Value).ownBlock ∧ some k_ ≠ (.slice Ao36 t388.length co36 : Value).ownBlock ∧ some k_ ≠ (.slice Ao60 t403.length co60 : Value).ownBlock) (Kd.R_keptB ((Kd.R_apart' (Kd.R_apart' HO_10.out (Kd.R_typed HO_388000.out) (by decide)) (Kd.R_typed HO_388001.out) (by decide))) hkp (fun k_ hk_ hs_ => Or.elim hs_ (fun e_ => (hk_.1.2) e_) (fun e_ => (hk_.2) e_))) (fun k_ hk_ => ⟨hk_.1.1.1.1.1, hk_.1.1.1.1.2, hk_.1.1.1.2⟩)); have n3_ := Aside0.mk (Kd.R_reok rfl hy0 (fun k_ e_ => HO_388000.out.1 k_ e_)); have n4_ := Aside0.mk (Kd.R_reok rfl hy1 (fun k_ e_ => HO_388001.out.1 k_ e_)); have n5_ := Aside0.mk (blk_kept (bk_ BK366.out) hkp (fun hs_ => Or.elim hs_ (fun e_ => (fun e_ => (Kd.R_ne HO_388000.out BK366.out (by decide)) e_) e_) (fun e_ => (fun e_ => (Kd.R_ne HO_388001.out BK366.out (by decide)) e_) e_))); have n6_ := Aside0.mk (blk_kept (bk_ BK387.out) hkp (fun hs_ => Or.elim hs_ (fun e_ => (fun e_ => (Kd.R_ne HO_388000.out BK387.out (by decide)) e_) e_) (fun e_ => (fun e_ => (Kd.R_ne HO_388001.out BK387.out (by decide)) e_) e_))); have n7_ := Aside0.mk (Kd.R_mono (ok' := fun k_ => some k_ ≠ (.slice Ao30 t381.length co30 : Value).ownBlock) (Kd.R_keptB ((Kd.R_apart' HO398.out (Kd.R_typed HO_388001.out) (by decide))) hkp (fun k_ hk_ hs_ => Or.elim hs_ (fun e_ => (hk_.1.2) e_) (fun e_ => (hk_.2) e_))) (fun k_ hk_ => hk_.1.1.2)); have n8_ := Aside0.mk (Kd.R_mono (ok' := fun k_ => some k_ ≠ (.slice Ao33 t384.length co33 : Value).ownBlock) (Kd.R_keptB ((Kd.R_apart' HO401.out (Kd.R_typed HO_388000.out) (by decide))) hkp (fun k_ hk_ hs_ => Or.elim hs_ (fun e_ => (hk_.2) e_) (fun e_ => (hk_.1.2) e_))) (fun k_ hk_ => hk_.1.1.2)); have n9_ := Aside0.mk (Kd.R_mono (ok' := fun k_ => some k_ ≠ (v378 : Value).ownBlock ∧ some k_ ≠ (.slice Ao36 t388.length co36 : Value).ownBlock ∧ some k_ ≠ (v392 : Value).ownBlock) (Kd.R_keptB ((Kd.R_apart' (Kd.R_apart' HO405.out (Kd.R_typed HO_388000.out) (by decide)) (Kd.R_typed HO_388001.out) (by decide))) hkp (fun k_ hk_ hs_ => Or.elim hs_ (fun e_ => (hk_.1.2) e_) (fun e_ => (hk_.2) e_))) (fun k_ hk_ => ⟨hk_.1.1.1.1.1.2, hk_.1.1.1.1.2, hk_.1.1.1.2⟩)); have n10_ := Aside0.mk (hb); clear HO_6; clear HO_9; clear HO_10; clear HO_388000; clear HO_388001; clear BK366; clear BK387; clear HO398; clear HO401; clear HO405; clear HB; have HO_6 := n0_; have HO_9 := n1_; have HO_10 := n2_; have HO_388000 := n3_; have HO_388001 := n4_; have BK366 := n5_; have BK387 := n6_; have HO398 := n7_; have HO401 := n8_; have HO405 := n9_; have HB := n10_; clear n0_ n1_ n2_ n3_ n4_ n5_ n6_ n7_ n8_ n9_ n10_; (try clear hb); (try clear hkp); (try clear hy0); (try clear hy1)) | ((with_reducible refine gate_callee (f := 29) rfl ?_); refine goesL_ (some 67) rfl rfl Try.func29 (by kernel_rfl) rfl #[.slice Ao36 t388.length co36, .int .i64 t407] rfl ls_ ?_; (with_reducible refine (laws_markIntS.calls kj15 (fun k_ => some k_ = (.slice Ao36 t388.length co36 : Value).ownBlock) (.slice Ao36 t388.length co36) t388 t407 t410 t411 w _ ?side1 ?side2 A52.out).mono ?_); (case side1 => repeat (first | (with_reducible first | exact HB.out | apply below_alloc | apply pw_below_drewN | apply below_drew1 | refine below_set ?_ GE366.out | refine below_set ?_ GE387.out) | exact HB.out)); (case side2 => exact Kd.R_tight rfl HO_9.out); rintro e w64 ⟨rfl, hy0, hb, hkp⟩; refine ⟨_, rfl, ?_⟩; have n0_ := Aside0.mk (Kd.R_mono (ok' := fun k_ => some k_ ≠ (.slice Ao36 t388.length co36 : Value).ownBlock ∧ some k_ ≠ (v392 : Value).ownBlock ∧ some k_ ≠ (.slice Ao60 t403.length co60 : Value).ownBlock) (Kd.R_keptB (HO_6.out) hkp (fun k_ hk_ hs_ => (hk_.1) hs_)) (fun k_ hk_ => ⟨hk_.1.1, hk_.1.2.1, hk_.1.2.2⟩)); have n1_ := Aside0.mk (Kd.R_reok rfl hy0 (fun k_ e_ => HO_9.out.1 k_ e_)); have n2_ := Aside0.mk (Kd.R_mono (ok' := fun k_ => some k_ ≠ (v378 : Value).ownBlock ∧ some k_ ≠ (.slice Ao36 t388.length co36 : Value).ownBlock ∧ some k_ ≠ (.slice Ao60 t403.length co60 : Value).ownBlock) (Kd.R_keptB (HO_10.out) hkp (fun k_ hk_ hs_ => (hk_.2.1) hs_)) (fun k_ hk_ => ⟨hk_.1.1, hk_.1.2.1, hk_.1.2.2⟩)); have n3_ := Aside0.mk (Kd.R_mono (ok' := fun k_ => some k_ ≠ (.slice Ao56 t396.length co56 : Value).ownBlock) (Kd.R_keptB ((Kd.R_apart' HO_388000.out (Kd.R_typed HO_9.out) (by decide))) hkp (fun k_ hk_ hs_ => (hk_.2) hs_)) (fun k_ hk_ => hk_.1.1.2)); have n4_ := Aside0.mk (Kd.R_mono (ok' := fun k_ => some k_ ≠ (.slice Ao57 t399.length co57 : Value).ownBlock) (Kd.R_keptB ((Kd.R_apart' HO_388001.out (Kd.R_typed HO_9.out) (by decide))) hkp (fun k_ hk_ hs_ => (hk_.2) hs_)) (fun k_ hk_ => hk_.1.1.2)); have n5_ := Aside0.mk (blk_kept (bk_ BK366.out) hkp (fun hs_ => (fun e_ => (Kd.R_ne HO_9.out BK366.out (by decide)) e_) hs_)); have n6_ := Aside0.mk (blk_kept (bk_ BK387.out) hkp (fun hs_ => (fun e_ => (Kd.R_ne HO_9.out BK387.out (by decide)) e_) hs_)); have n7_ := Aside0.mk (Kd.R_mono (ok' := fun k_ => some k_ ≠ (.slice Ao30 t381.length co30 : Value).ownBlock) (Kd.R_keptB ((Kd.R_apart' HO398.out (Kd.R_typed HO_9.out) (by decide))) hkp (fun k_ hk_ hs_ => (hk_.2) hs_)) (fun k_ hk_ => hk_.1.1)); have n8_ := Aside0.mk (Kd.R_mono (ok' := fun k_ => some k_ ≠ (.slice Ao33 t384.length co33 : Value).ownBlock) (Kd.R_keptB ((Kd.R_apart' HO401.out (Kd.R_typed HO_9.out) (by decide))) hkp (fun k_ hk_ hs_ => (hk_.2) hs_)) (fun k_ hk_ => hk_.1.1)); have n9_ := Aside0.mk (Kd.R_mono (ok' := fun k_ => some k_ ≠ (v378 : Value).ownBlock ∧ some k_ ≠ (.slice Ao36 t388.length co36 : Value).ownBlock ∧ some k_ ≠ (v392 : Value).ownBlock) (Kd.R_keptB (HO405.out) hkp (fun k_ hk_ hs_ => (hk_.2.1) hs_)) (fun k_ hk_ => ⟨hk_.1.1, hk_.1.2.1, hk_.1.2.2⟩)); have n10_ := Aside0.mk (hb); clear HO_6; clear HO_9; clear HO_10; clear HO_388000; clear HO_388001; clear BK366; clear BK387; clear HO398; clear HO401; clear HO405; clear HB; have HO_6 := n0_; have HO_9 := n1_; have HO_10 := n2_; have HO_388000 := n3_; have HO_388001 := n4_; have BK366 := n5_; have BK387 := n6_; have HO398 := n7_; have HO401 := n8_; have HO405 := n9_; have HB := n10_; clear n0_ n1_ n2_ n3_ n4_ n5_ n6_ n7_ n8_ n9_ n10_; (try clear hb); (try clear hkp); (try clear hy0)))
         (try simp only [Act.put, List.setIfInBounds_toArray, List.set_cons_zero, List.set_cons_succ])
         go_cut [80] (fun v80 wc => ∃ (kq : Nat) (x80_52 : Bool), v80 = .bool x80_52 ∧ Aside0 (laws_FnExactRunChart.j1 kq l1 t377 t380 t391 x80_52 l0_0 l0_1 = some r) ∧ Aside0 (kq ≤ kj15) ∧ Aside0 (Kd.R (Kd.int .i64) 3 wc w.heap.size (fun k_ => some k_ ≠ (v392 : Value).ownBlock) v378 t377) ∧ Aside0 (Kd.R (Kd.int .i64) 3 wc w.heap.size (fun k_ => some k_ ≠ (v378 : Value).ownBlock) v392 t391) ∧ Aside0 (Kd.R k88 88 wc w.heap.size (fun _ => True) (.slice Ao30 t381.length co30) t408) ∧ Aside0 (Kd.R k90 90 wc w.heap.size (fun _ => True) (.slice Ao33 t384.length co33) t409) ∧ Aside0 (wc.heap[gb366]? = some (.cells #[(.slice A0_0 l0_0.length c0_0), (.slice A0_1 l0_1.length c0_1)] 49 (0, 0))) ∧ Aside0 (wc.heap[gb387]? = some (.cells #[(.slice Ao30 t381.length co30), (.slice Ao33 t384.length co33)] 55 (0, 0))) ∧ Aside0 (Below w.heap.size w wc))
         case first =>
          have H := HC53.out
          clear HC53
          by_cases c65 : t410 < 0
          ·rw [if_pos c65] at H
           have c65b0 : decide (t410 < 0) = true := decide_eq_true c65
           clear c65
           (first | rw [c65b0] | (simp only [i64_w, i32_w]; rw [c65b0]) | skip)
           have H' := Aside0.mk H
           clear H
           go_wp2
           go_meet
           case rel => exact ⟨_, (true), es_, H', ⟨by have := HJ15.out; first | omega | exact Nat.le_refl _⟩, ⟨by (with_reducible repeat (first | apply Kd.R_alloc | apply Kd.R_drewN | apply Kd.R_drew)); exact Kd.R_mono HO_6.out (fun _ hk => hk.2.1)⟩, ⟨by (with_reducible repeat (first | apply Kd.R_alloc | apply Kd.R_drewN | apply Kd.R_drew)); exact Kd.R_mono HO_10.out (fun _ hk => hk.1)⟩, ⟨by (with_reducible repeat (first | apply Kd.R_alloc | apply Kd.R_drewN | apply Kd.R_drew)); exact Kd.R_mono HO_388000.out (fun _ hk => trivial)⟩, ⟨by (with_reducible repeat (first | apply Kd.R_alloc | apply Kd.R_drewN | apply Kd.R_drew)); exact Kd.R_mono HO_388001.out (fun _ hk => trivial)⟩, ⟨bk_ BK366.out⟩, ⟨bk_ BK387.out⟩, ⟨hb_⟩⟩
          ·rw [if_neg c65] at H
           have c65b0 : decide (t410 < 0) = false := decide_eq_false c65
           clear c65
           (first | rw [c65b0] | (simp only [i64_w, i32_w]; rw [c65b0]) | skip)
           replace H := Option.bind_eq_some_iff.mp H
           obtain ⟨t412, A660, H⟩ := H
           replace H : (if t412 = true then (laws_FnExactRunChart.j1 kj15 l1 t377 t380 t391 (t394 != t380) l0_0 l0_1) else (laws_FnExactRunChart.j1 kj15 l1 t377 t380 t391 true l0_0 l0_1)) = some r := H
           have A66 := Aside0.mk A660
           clear A660
           by_cases c67 : t412 = true
           ·subst c67
            rw [if_pos rfl] at H
            have H' := Aside0.mk H
            clear H
            obtain ⟨Ao68, co68, eo68⟩ := Kd.R_slice HO_10.out
            subst eo68
            obtain ⟨Ao69, co69, eo69⟩ := Kd.R_slice HO_6.out
            subst eo69
            go_wp2_with (first | (go_at_call 26; (with_reducible refine (laws_eqIntS.calls kj15 _ _ t391 _ _ t377 true _ ?side1 ?side2 ?side3 ?side4 A66.out).mono ?_); (case side1 => exact ca_ (Kd.R_reads' HO_10.out).2.2); (case side2 => exact (Kd.R_reads' HO_10.out).2.1); (case side3 => exact ca_ (Kd.R_reads' HO_6.out).2.2); (case side4 => exact (Kd.R_reads' HO_6.out).2.1); rintro e w' ⟨rfl, ⟨nd, rfl⟩⟩))
            go_meet
            case rel => exact ⟨_, ((t394 != t380)), es_, H', ⟨by have := HJ15.out; first | omega | exact Nat.le_refl _⟩, ⟨by (with_reducible repeat (first | apply Kd.R_alloc | apply Kd.R_drewN | apply Kd.R_drew)); exact Kd.R_mono HO_6.out (fun _ hk => hk.2.1)⟩, ⟨by (with_reducible repeat (first | apply Kd.R_alloc | apply Kd.R_drewN | apply Kd.R_drew)); exact Kd.R_mono HO_10.out (fun _ hk => hk.1)⟩, ⟨by (with_reducible repeat (first | apply Kd.R_alloc | apply Kd.R_drewN | apply Kd.R_drew)); exact Kd.R_mono HO_388000.out (fun _ hk => trivial)⟩, ⟨by (with_reducible repeat (first | apply Kd.R_alloc | apply Kd.R_drewN | apply Kd.R_drew)); exact Kd.R_mono HO_388001.out (fun _ hk => trivial)⟩, ⟨bk_ BK366.out⟩, ⟨bk_ BK387.out⟩, ⟨hb_⟩⟩
           ·replace c67 := Bool.eq_false_iff.mpr c67
            subst c67
            rw [if_neg (show ¬ (false = true) by decide)] at H
            have H' := Aside0.mk H
            clear H
            obtain ⟨Ao70, co70, eo70⟩ := Kd.R_slice HO_10.out
            subst eo70
            obtain ⟨Ao71, co71, eo71⟩ := Kd.R_slice HO_6.out
            subst eo71
            go_wp2_with (first | (go_at_call 26; (with_reducible refine (laws_eqIntS.calls kj15 _ _ t391 _ _ t377 false _ ?side1 ?side2 ?side3 ?side4 A66.out).mono ?_); (case side1 => exact ca_ (Kd.R_reads' HO_10.out).2.2); (case side2 => exact (Kd.R_reads' HO_10.out).2.1); (case side3 => exact ca_ (Kd.R_reads' HO_6.out).2.2); (case side4 => exact (Kd.R_reads' HO_6.out).2.1); rintro e w' ⟨rfl, ⟨nd, rfl⟩⟩))
            go_meet
            case rel => exact ⟨_, (true), es_, H', ⟨by have := HJ15.out; first | omega | exact Nat.le_refl _⟩, ⟨by (with_reducible repeat (first | apply Kd.R_alloc | apply Kd.R_drewN | apply Kd.R_drew)); exact Kd.R_mono HO_6.out (fun _ hk => hk.2.1)⟩, ⟨by (with_reducible repeat (first | apply Kd.R_alloc | apply Kd.R_drewN | apply Kd.R_drew)); exact Kd.R_mono HO_10.out (fun _ hk => hk.1)⟩, ⟨by (with_reducible repeat (first | apply Kd.R_alloc | apply Kd.R_drewN | apply Kd.R_drew)); exact Kd.R_mono HO_388000.out (fun _ hk => trivial)⟩, ⟨by (with_reducible repeat (first | apply Kd.R_alloc | apply Kd.R_drewN | apply Kd.R_drew)); exact Kd.R_mono HO_388001.out (fun _ hk => trivial)⟩, ⟨bk_ BK366.out⟩, ⟨bk_ BK387.out⟩, ⟨hb_⟩⟩
         case rest =>
          clear HC53
          try clear c1
          try clear c2
          try clear p2
          try clear c3
          try clear c3b0
          try clear c3b1
          try clear c4
          try clear c5
          try clear c6
          try clear c6b0
          try clear c10
          try clear c24
          try clear c26
          try clear c29
          try clear c31
          try clear c33
          try clear c35
          try clear c39
          try clear c41
          try clear c42
          try clear c44
          try clear c45
          try clear c47
          try clear c50
          try clear c61
          try clear c65
          try clear c65b0
          try clear c67
          try clear hcz18_0
          try clear hcz18_1
          try clear hcz20_0
          try clear hcz20_1
          try clear hcz27_0
          try clear hcz27_1
          try clear hcz32_0
          try clear hcz32_1
          try clear hcz35_0
          try clear hcz35_1
          try clear hcz62_0
          try clear hcz62_1
          try clear hcz8_0
          try clear hcz8_1
          try clear hfz18_0
          try clear hfz18_1
          try clear hfz20_0
          try clear hfz20_1
          try clear hfz27_0
          try clear hfz27_1
          try clear hfz32_0
          try clear hfz32_1
          try clear hfz35_0
          try clear hfz35_1
          try clear hfz62_0
          try clear hfz62_1
          try clear hfz8_0
          try clear hfz8_1
          try clear p2
          obtain ⟨kq, x80_52, rfl, HA, HJ52, HO_6, HO_10, HO_388000, HO_388001, BK366, BK387, HB⟩ := hcut
          have hl388000_52 := (Kd.R_reads' HO_388000.out).1
          rw [hl388000_52] at HO_388000
          (try simp only [hl388000_52])
          (try simp only [hl388000_52] at BK366)
          (try simp only [hl388000_52] at BK387)
          (try simp only [hl388000_52] at HO_6)
          (try simp only [hl388000_52] at HO_10)
          (try simp only [hl388000_52] at HO_388001)
          have hl388001_52 := (Kd.R_reads' HO_388001.out).1
          rw [hl388001_52] at HO_388001
          (try simp only [hl388001_52])
          (try simp only [hl388001_52] at BK366)
          (try simp only [hl388001_52] at BK387)
          (try simp only [hl388001_52] at HO_6)
          (try simp only [hl388001_52] at HO_10)
          (try simp only [hl388001_52] at HO_388000)
          cases kq with
          | zero => exact absurd HA.out (by simp [laws_FnExactRunChart.j1])
          | succ kj52 =>
           have H := HA.out
           clear HA
           simp only [laws_FnExactRunChart.j1] at H
           by_cases c72 : x80_52 = true
           ·subst c72
            rw [if_pos rfl] at H
            obtain rfl := Option.some.inj H
            go_wp2
            go_ret
            exact ⟨er_, hb_⟩
           ·replace c72 := Bool.eq_false_iff.mpr c72
            subst c72
            rw [if_neg (show ¬ (false = true) by decide)] at H
            replace H := Option.bind_eq_some_iff.mp H
            obtain ⟨⟨t413, t414⟩, A730, H⟩ := H
            replace H : ((laws_heldIntS.f kj52 t414 1).bind fun t415 => (if t415 < 0 then (some false) else (if t415 = t413 then ((laws_toChart.f kj52 l0_0 l0_1).bind fun bt416 => ((laws_toIntS.f kj52 l1).bind fun t422 => ((impl_RunChart.f kj52 bt416.1 bt416.2 t422).bind fun bt425 => ((laws_eqIntS.f kj52 bt425.1 t377).bind fun t429 => (if t429 = true then (laws_FnExactRunChart.j2 kj52 t414 t413 (bt425.2 != t380)) else (laws_FnExactRunChart.j2 kj52 t414 t413 true)))))) else (some false)))) = some r := H
            have A73 := Aside0.mk A730
            clear A730
            replace H := Option.bind_eq_some_iff.mp H
            obtain ⟨t415, A740, H⟩ := H
            replace H : (if t415 < 0 then (some false) else (if t415 = t413 then ((laws_toChart.f kj52 l0_0 l0_1).bind fun bt416 => ((laws_toIntS.f kj52 l1).bind fun t422 => ((impl_RunChart.f kj52 bt416.1 bt416.2 t422).bind fun bt425 => ((laws_eqIntS.f kj52 bt425.1 t377).bind fun t429 => (if t429 = true then (laws_FnExactRunChart.j2 kj52 t414 t413 (bt425.2 != t380)) else (laws_FnExactRunChart.j2 kj52 t414 t413 true)))))) else (some false))) = some r := H
            have A74 := Aside0.mk A740
            clear A740
            by_cases c75 : t415 < 0
            ·rw [if_pos c75] at H
             have c75b0 : decide (t415 < 0) = true := decide_eq_true c75
             clear c75
             obtain rfl := Option.some.inj H
             obtain ⟨Ao76, co76, eo76⟩ := Kd.R_slice HO_10.out
             subst eo76
             go_wp2_with (first | ((with_reducible refine gate_callee (f := 29) rfl ?_); refine goesL_ (some 83) rfl rfl Try.func29 (by kernel_rfl) rfl #[.slice Ao76 t391.length co76, .int .i64 1] rfl ls_ ?_; (with_reducible refine (laws_markIntS.calls kj52 (fun k_ => some k_ = (.slice Ao76 t391.length co76 : Value).ownBlock) (.slice Ao76 t391.length co76) t391 1 t413 t414 w _ ?side1 ?side2 A73.out).mono ?_); (case side1 => repeat (first | (with_reducible first | exact HB.out | apply below_alloc | apply pw_below_drewN | apply below_drew1 | refine below_set ?_ GE366.out | refine below_set ?_ GE387.out) | exact HB.out)); (case side2 => exact Kd.R_tight rfl HO_10.out); rintro e w77 ⟨rfl, hy0, hb, hkp⟩; refine ⟨_, rfl, ?_⟩; have n0_ := Aside0.mk (Kd.R_mono (ok' := fun k_ => some k_ ≠ (.slice Ao76 t391.length co76 : Value).ownBlock) (Kd.R_keptB (HO_6.out) hkp (fun k_ hk_ hs_ => (hk_) hs_)) (fun k_ hk_ => hk_.1)); have n1_ := Aside0.mk (Kd.R_reok rfl hy0 (fun k_ e_ => HO_10.out.1 k_ e_)); have n2_ := Aside0.mk (Kd.R_mono (ok' := fun k_ => True) (Kd.R_keptB ((Kd.R_apart' HO_388000.out (Kd.R_typed HO_10.out) (by decide))) hkp (fun k_ hk_ hs_ => (hk_.2) hs_)) (fun k_ hk_ => trivial)); have n3_ := Aside0.mk (Kd.R_mono (ok' := fun k_ => True) (Kd.R_keptB ((Kd.R_apart' HO_388001.out (Kd.R_typed HO_10.out) (by decide))) hkp (fun k_ hk_ hs_ => (hk_.2) hs_)) (fun k_ hk_ => trivial)); have n4_ := Aside0.mk (blk_kept (bk_ BK366.out) hkp (fun hs_ => (fun e_ => (Kd.R_ne HO_10.out BK366.out (by decide)) e_) hs_)); have n5_ := Aside0.mk (blk_kept (bk_ BK387.out) hkp (fun hs_ => (fun e_ => (Kd.R_ne HO_10.out BK387.out (by decide)) e_) hs_)); have n6_ := Aside0.mk (hb); clear HO_6; clear HO_10; clear HO_388000; clear HO_388001; clear BK366; clear BK387; clear HB; have HO_6 := n0_; have HO_10 := n1_; have HO_388000 := n2_; have HO_388001 := n3_; have BK366 := n4_; have BK387 := n5_; have HB := n6_; clear n0_ n1_ n2_ n3_ n4_ n5_ n6_; (try clear hb); (try clear hkp); (try clear hy0)) | ((with_reducible refine gate_callee (f := 30) rfl ?_); refine goesL_ (some 86) rfl rfl Try.func30 (by kernel_rfl) rfl #[.slice Ao76 t414.length co76, .int .i64 1] rfl (by (try simp only [List.map_toArray, List.map_cons, List.map_nil]); first | done | (rw [show t414.length = t391.length from (Kd.R_reads' HO_10.out).1.symm] <;> rfl) | rfl | (simp only [List.length_drop, List.length_take]; rfl)) ?_; (with_reducible refine (laws_heldIntS.calls kj52 _ _ t414 1 t415 _ ?side1 ?side2 A74.out).mono ?_); (case side1 => exact ca_ (Kd.R_reads' HO_10.out).2.2); (case side2 => rw [show t414.length = t391.length from (Kd.R_reads' HO_10.out).1.symm]; exact (Kd.R_reads' HO_10.out).2.1); rintro e w' ⟨rfl, ⟨nd, rfl⟩⟩; refine ⟨_, rfl, ?_⟩))
             go_ret
             exact ⟨er_, hb_⟩
            ·rw [if_neg c75] at H
             have c75b0 : decide (t415 < 0) = false := decide_eq_false c75
             clear c75
             by_cases c78 : t415 = t413
             ·rw [if_pos c78] at H
              have c78b0 : (t415 == t413) = true := beq_iff_eq.mpr c78
              have c78b1 : (t415 != t413) = false := bne_eq_false_iff_eq.mpr c78
              clear c78
              replace H := Option.bind_eq_some_iff.mp H
              obtain ⟨⟨t416, t419⟩, A790, H⟩ := H
              replace H : ((laws_toIntS.f kj52 l1).bind fun t422 => ((impl_RunChart.f kj52 t416 t419 t422).bind fun bt425 => ((laws_eqIntS.f kj52 bt425.1 t377).bind fun t429 => (if t429 = true then (laws_FnExactRunChart.j2 kj52 t414 t413 (bt425.2 != t380)) else (laws_FnExactRunChart.j2 kj52 t414 t413 true))))) = some r := H
              have A79 := Aside0.mk A790
              clear A790
              replace H := Option.bind_eq_some_iff.mp H
              obtain ⟨t422, A800, H⟩ := H
              replace H : ((impl_RunChart.f kj52 t416 t419 t422).bind fun bt425 => ((laws_eqIntS.f kj52 bt425.1 t377).bind fun t429 => (if t429 = true then (laws_FnExactRunChart.j2 kj52 t414 t413 (bt425.2 != t380)) else (laws_FnExactRunChart.j2 kj52 t414 t413 true)))) = some r := H
              have A80 := Aside0.mk A800
              clear A800
              replace H := Option.bind_eq_some_iff.mp H
              obtain ⟨⟨t425, t428⟩, A810, H⟩ := H
              replace H : ((laws_eqIntS.f kj52 t425 t377).bind fun t429 => (if t429 = true then (laws_FnExactRunChart.j2 kj52 t414 t413 (t428 != t380)) else (laws_FnExactRunChart.j2 kj52 t414 t413 true))) = some r := H
              have A81 := Aside0.mk A810
              clear A810
              have HC82 := Aside0.mk H
              clear H
              obtain ⟨Ao83, co83, eo83⟩ := Kd.R_slice HO_10.out
              subst eo83
              go_upto_region 31 with (first | ((with_reducible refine gate_callee (f := 29) rfl ?_); refine goesL_ (some 83) rfl rfl Try.func29 (by kernel_rfl) rfl #[.slice Ao83 t391.length co83, .int .i64 1] rfl ls_ ?_; (with_reducible refine (laws_markIntS.calls kj52 (fun k_ => some k_ = (.slice Ao83 t391.length co83 : Value).ownBlock) (.slice Ao83 t391.length co83) t391 1 t413 t414 w _ ?side1 ?side2 A73.out).mono ?_); (case side1 => repeat (first | (with_reducible first | exact HB.out | apply below_alloc | apply pw_below_drewN | apply below_drew1 | refine below_set ?_ GE366.out | refine below_set ?_ GE387.out) | exact HB.out)); (case side2 => exact Kd.R_tight rfl HO_10.out); rintro e w84 ⟨rfl, hy0, hb, hkp⟩; refine ⟨_, rfl, ?_⟩; have n0_ := Aside0.mk (Kd.R_mono (ok' := fun k_ => some k_ ≠ (.slice Ao83 t391.length co83 : Value).ownBlock) (Kd.R_keptB (HO_6.out) hkp (fun k_ hk_ hs_ => (hk_) hs_)) (fun k_ hk_ => hk_.1)); have n1_ := Aside0.mk (Kd.R_reok rfl hy0 (fun k_ e_ => HO_10.out.1 k_ e_)); have n2_ := Aside0.mk (Kd.R_mono (ok' := fun k_ => True) (Kd.R_keptB ((Kd.R_apart' HO_388000.out (Kd.R_typed HO_10.out) (by decide))) hkp (fun k_ hk_ hs_ => (hk_.2) hs_)) (fun k_ hk_ => trivial)); have n3_ := Aside0.mk (Kd.R_mono (ok' := fun k_ => True) (Kd.R_keptB ((Kd.R_apart' HO_388001.out (Kd.R_typed HO_10.out) (by decide))) hkp (fun k_ hk_ hs_ => (hk_.2) hs_)) (fun k_ hk_ => trivial)); have n4_ := Aside0.mk (blk_kept (bk_ BK366.out) hkp (fun hs_ => (fun e_ => (Kd.R_ne HO_10.out BK366.out (by decide)) e_) hs_)); have n5_ := Aside0.mk (blk_kept (bk_ BK387.out) hkp (fun hs_ => (fun e_ => (Kd.R_ne HO_10.out BK387.out (by decide)) e_) hs_)); have n6_ := Aside0.mk (hb); clear HO_6; clear HO_10; clear HO_388000; clear HO_388001; clear BK366; clear BK387; clear HB; have HO_6 := n0_; have HO_10 := n1_; have HO_388000 := n2_; have HO_388001 := n3_; have BK366 := n4_; have BK387 := n5_; have HB := n6_; clear n0_ n1_ n2_ n3_ n4_ n5_ n6_; (try clear hb); (try clear hkp); (try clear hy0)) | ((with_reducible refine gate_callee (f := 30) rfl ?_); refine goesL_ (some 86) rfl rfl Try.func30 (by kernel_rfl) rfl #[.slice Ao83 t414.length co83, .int .i64 1] rfl (by (try simp only [List.map_toArray, List.map_cons, List.map_nil]); first | done | (rw [show t414.length = t391.length from (Kd.R_reads' HO_10.out).1.symm] <;> rfl) | rfl | (simp only [List.length_drop, List.length_take]; rfl)) ?_; (with_reducible refine (laws_heldIntS.calls kj52 _ _ t414 1 t415 _ ?side1 ?side2 A74.out).mono ?_); (case side1 => exact ca_ (Kd.R_reads' HO_10.out).2.2); (case side2 => rw [show t414.length = t391.length from (Kd.R_reads' HO_10.out).1.symm]; exact (Kd.R_reads' HO_10.out).2.1); rintro e w' ⟨rfl, ⟨nd, rfl⟩⟩; refine ⟨_, rfl, ?_⟩; have hnb85 := NB366_387.out; have hnc85 := NB387_366.out; have hcz86_0 : w84.cell? ⟨gb366, 0, none⟩ = some (.slice A0_0 l0_0.length c0_0) := (blk_cell BK366.out 0).trans rfl; have hcz86_1 : w84.cell? ⟨gb366, 1, none⟩ = some (.slice A0_1 l0_1.length c0_1) := (blk_cell BK366.out 1).trans rfl; have hfz86_0 := blk_frozen BK366.out 0; have hfz86_1 := blk_frozen BK366.out 1) | ((with_reducible refine gate_callee (f := 33) rfl ?_); refine goesL_ (some 94) rfl rfl Try.func33 (by kernel_rfl) rfl #[.agg #[.slice A0_0 l0_0.length c0_0, .slice A0_1 l0_1.length c0_1]] rfl ls_ ?_; (with_reducible refine (laws_toChart.calls kj52 _ _ l0_0 _ _ l0_1 t416 t419 _ ?side1 ?side2 ?side3 ?side4 A79.out).mono ?_); (case side1 => repeat (first | exact (Kd.C_below HR0_0.out hb_) | (with_reducible refine Kd.C_alloc ?_ _) | (with_reducible refine Kd.C_drewN ?_ _) | (with_reducible refine Kd.C_drew ?_))); (case side2 => exact HC0_0.out); (case side3 => repeat (first | exact (Kd.C_below HR0_1.out hb_) | (with_reducible refine Kd.C_alloc ?_ _) | (with_reducible refine Kd.C_drewN ?_ _) | (with_reducible refine Kd.C_drew ?_))); (case side4 => exact HC0_1.out); rintro e w87 ⟨v417, v420, rfl, ho0, ho1, hb⟩; refine ⟨_, rfl, ?_⟩; have n0_ := Aside0.mk (Kd.R_below (ra_ HO_6.out) hb); have n1_ := Aside0.mk (Kd.R_below (ra_ HO_10.out) hb); have n2_ := Aside0.mk (Kd.R_elder' (ra_ HO_388000.out) (Kd.R_base ho0) hb); have n3_ := Aside0.mk (Kd.R_elder' (ra_ HO_388001.out) (Kd.R_base ho1) hb); have n4_ := Aside0.mk (Kd.R_lower (Kd.R_new' ho0 (Kd.R_lt (ra_ HO_388000.out))) (below_size hb_)); have n5_ := Aside0.mk (Kd.R_lower (Kd.R_new' ho1 (Kd.R_lt (ra_ HO_388001.out))) (below_size hb_)); have n6_ := bb_ BK366 hb; have n7_ := bb_ BK387 hb; have n8_ := Aside0.mk (below_step hb_ hb); clear HO_6; clear HO_10; clear HO_388000; clear HO_388001; clear BK366; clear BK387; clear HB; have HO_6 := n0_; have HO_10 := n1_; have HO_388000 := n2_; have HO_388001 := n3_; have HO418 := n4_; have HO421 := n5_; have BK366 := n6_; have BK387 := n7_; have HB := n8_; clear n0_ n1_ n2_ n3_ n4_ n5_ n6_ n7_ n8_; (try clear hb); (try clear hb2); (try clear hk); (try clear hi); (try clear ho0); (try clear ho1)) | ((with_reducible refine gate_callee (f := 24) rfl ?_); refine goesL_ (some 96) rfl rfl Try.func24 (by kernel_rfl) rfl #[.slice A1 l1.length c1] rfl ls_ ?_; (with_reducible refine (laws_toIntS.calls kj52 _ _ l1 t422 _ ?side1 ?side2 A80.out).mono ?_); (case side1 => exact cb_ HR1.out); (case side2 => exact HC1.out); rintro e w88 ⟨v423, rfl, ho0, hb⟩; refine ⟨_, rfl, ?_⟩; have n0_ := Aside0.mk (Kd.R_elder' (ra_ HO_6.out) (Kd.R_base ho0) hb); have n1_ := Aside0.mk (Kd.R_elder' (ra_ HO_10.out) (Kd.R_base ho0) hb); have n2_ := Aside0.mk (Kd.R_below (ra_ HO_388000.out) hb); have n3_ := Aside0.mk (Kd.R_below (ra_ HO_388001.out) hb); have n4_ := Aside0.mk (Kd.R_below (ra_ HO418.out) hb); have n5_ := Aside0.mk (Kd.R_below (ra_ HO421.out) hb); have n6_ := Aside0.mk (Kd.R_lower (Kd.R_new' (Kd.R_new' ho0 (Kd.R_lt (ra_ HO_6.out))) (Kd.R_lt (ra_ HO_10.out))) (below_size hb_)); have n7_ := bb_ BK366 hb; have n8_ := bb_ BK387 hb; have n9_ := Aside0.mk (below_step hb_ hb); clear HO_6; clear HO_10; clear HO_388000; clear HO_388001; clear HO418; clear HO421; clear BK366; clear BK387; clear HB; have HO_6 := n0_; have HO_10 := n1_; have HO_388000 := n2_; have HO_388001 := n3_; have HO418 := n4_; have HO421 := n5_; have HO424 := n6_; have BK366 := n7_; have BK387 := n8_; have HB := n9_; clear n0_ n1_ n2_ n3_ n4_ n5_ n6_ n7_ n8_ n9_; (try clear hb); (try clear hb2); (try clear hk); (try clear hi); (try clear ho0); obtain ⟨Ao89, co89, eo89⟩ := Kd.R_slice HO418.out; subst eo89; obtain ⟨Ao90, co90, eo90⟩ := Kd.R_slice HO421.out; subst eo90; obtain ⟨Ao91, co91, eo91⟩ := Kd.R_slice HO424.out; subst eo91) | ((with_reducible refine gate_callee (f := 41) rfl ?_); refine goesL_ (some 97) rfl rfl Try.func41 (by kernel_rfl) rfl #[.agg #[.slice Ao89 t416.length co89, .slice Ao90 t419.length co90], .slice Ao91 t422.length co91] rfl ls_ ?_; (with_reducible refine (impl_RunChart.calls kj52 _ _ t416 _ _ t419 _ _ t422 t425 t428 _ ?side1 ?side2 ?side3 ?side4 ?side5 ?side6 A81.out).mono ?_); (case side1 => exact ca_ (Kd.R_reads' HO418.out).2.2); (case side2 => exact (Kd.R_reads' HO418.out).2.1); (case side3 => exact ca_ (Kd.R_reads' HO421.out).2.2); (case side4 => exact (Kd.R_reads' HO421.out).2.1); (case side5 => exact ca_ (Kd.R_reads' HO424.out).2.2); (case side6 => exact (Kd.R_reads' HO424.out).2.1); rintro e w92 ⟨v426, rfl, ho0, hb⟩; refine ⟨_, rfl, ?_⟩; have n0_ := Aside0.mk (Kd.R_elder' (ra_ HO_6.out) (Kd.R_base ho0) hb); have n1_ := Aside0.mk (Kd.R_elder' (ra_ HO_10.out) (Kd.R_base ho0) hb); have n2_ := Aside0.mk (Kd.R_below (ra_ HO_388000.out) hb); have n3_ := Aside0.mk (Kd.R_below (ra_ HO_388001.out) hb); have n4_ := Aside0.mk (Kd.R_below (ra_ HO418.out) hb); have n5_ := Aside0.mk (Kd.R_below (ra_ HO421.out) hb); have n6_ := Aside0.mk (Kd.R_elder' (ra_ HO424.out) (Kd.R_base ho0) hb); have n7_ := Aside0.mk (Kd.R_lower (Kd.R_new' (Kd.R_new' (Kd.R_new' ho0 (Kd.R_lt (ra_ HO_6.out))) (Kd.R_lt (ra_ HO_10.out))) (Kd.R_lt (ra_ HO424.out))) (below_size hb_)); have n8_ := bb_ BK366 hb; have n9_ := bb_ BK387 hb; have n10_ := Aside0.mk (below_step hb_ hb); clear HO_6; clear HO_10; clear HO_388000; clear HO_388001; clear HO418; clear HO421; clear HO424; clear BK366; clear BK387; clear HB; have HO_6 := n0_; have HO_10 := n1_; have HO_388000 := n2_; have HO_388001 := n3_; have HO418 := n4_; have HO421 := n5_; have HO424 := n6_; have HO427 := n7_; have BK366 := n8_; have BK387 := n9_; have HB := n10_; clear n0_ n1_ n2_ n3_ n4_ n5_ n6_ n7_ n8_ n9_ n10_; (try clear hb); (try clear hb2); (try clear hk); (try clear hi); (try clear ho0)))
              (try simp only [Act.put, List.setIfInBounds_toArray, List.set_cons_zero, List.set_cons_succ])
              go_cut [108] (fun v108 wc => ∃ (kq : Nat) (x108_81 : Bool), v108 = .bool x108_81 ∧ Aside0 (laws_FnExactRunChart.j2 kq t414 t413 x108_81 = some r) ∧ Aside0 (kq ≤ kj52) ∧ Aside0 (Kd.R (Kd.int .i64) 3 wc w.heap.size (fun _ => True) (.slice Ao83 t391.length co83) t414) ∧ Aside0 (Kd.R k88 88 wc w.heap.size (fun _ => True) (.slice Ao30 t408.length co30) t408) ∧ Aside0 (Kd.R k90 90 wc w.heap.size (fun _ => True) (.slice Ao33 t409.length co33) t409) ∧ Aside0 (wc.heap[gb366]? = some (.cells #[(.slice A0_0 l0_0.length c0_0), (.slice A0_1 l0_1.length c0_1)] 49 (0, 0))) ∧ Aside0 (wc.heap[gb387]? = some (.cells #[(.slice Ao30 t408.length co30), (.slice Ao33 t409.length co33)] 55 (0, 0))) ∧ Aside0 (Below w.heap.size w wc))
              case first =>
               have H := HC82.out
               clear HC82
               replace H := Option.bind_eq_some_iff.mp H
               obtain ⟨t429, A930, H⟩ := H
               replace H : (if t429 = true then (laws_FnExactRunChart.j2 kj52 t414 t413 (t428 != t380)) else (laws_FnExactRunChart.j2 kj52 t414 t413 true)) = some r := H
               have A93 := Aside0.mk A930
               clear A930
               by_cases c94 : t429 = true
               ·subst c94
                rw [if_pos rfl] at H
                have H' := Aside0.mk H
                clear H
                obtain ⟨Ao95, co95, eo95⟩ := Kd.R_slice HO427.out
                subst eo95
                obtain ⟨Ao96, co96, eo96⟩ := Kd.R_slice HO_6.out
                subst eo96
                go_wp2_with (first | ((with_reducible refine gate_callee (f := 26) rfl ?_); refine goesL_ (some 102) rfl rfl Try.func26 (by kernel_rfl) rfl #[.slice Ao95 t425.length co95, .slice Ao96 t377.length co96] rfl ls_ ?_; (with_reducible refine (laws_eqIntS.calls kj52 _ _ t425 _ _ t377 true _ ?side1 ?side2 ?side3 ?side4 A93.out).mono ?_); (case side1 => exact ca_ (Kd.R_reads' HO427.out).2.2); (case side2 => exact (Kd.R_reads' HO427.out).2.1); (case side3 => exact ca_ (Kd.R_reads' HO_6.out).2.2); (case side4 => exact (Kd.R_reads' HO_6.out).2.1); rintro e w' ⟨rfl, ⟨nd, rfl⟩⟩; refine ⟨_, rfl, ?_⟩))
                go_meet
                case rel => exact ⟨_, ((t428 != t380)), es_, H', ⟨by have := HJ15.out; have := HJ52.out; first | omega | exact Nat.le_refl _⟩, ⟨by (try simp only [hl388000_52]); (try simp only [hl388001_52]); (with_reducible repeat (first | apply Kd.R_alloc | apply Kd.R_drewN | apply Kd.R_drew)); exact Kd.R_mono HO_10.out (fun _ hk => trivial)⟩, ⟨by (try simp only [hl388000_52]); (try simp only [hl388001_52]); (with_reducible repeat (first | apply Kd.R_alloc | apply Kd.R_drewN | apply Kd.R_drew)); exact Kd.R_mono HO_388000.out (fun _ hk => trivial)⟩, ⟨by (try simp only [hl388000_52]); (try simp only [hl388001_52]); (with_reducible repeat (first | apply Kd.R_alloc | apply Kd.R_drewN | apply Kd.R_drew)); exact Kd.R_mono HO_388001.out (fun _ hk => trivial)⟩, ⟨by (try simp only [hl388000_52]); (try simp only [hl388001_52]); (with_reducible repeat (first | refine blk_drewN ?_ _ | refine blk_drew ?_ | refine blk_alloc ?_ _)); exact BK366.out⟩, ⟨by (try simp only [hl388000_52]); (try simp only [hl388001_52]); (with_reducible repeat (first | refine blk_drewN ?_ _ | refine blk_drew ?_ | refine blk_alloc ?_ _)); exact BK387.out⟩, ⟨hb_⟩⟩
               ·replace c94 := Bool.eq_false_iff.mpr c94
                subst c94
                rw [if_neg (show ¬ (false = true) by decide)] at H
                have H' := Aside0.mk H
                clear H
                obtain ⟨Ao97, co97, eo97⟩ := Kd.R_slice HO427.out
                subst eo97
                obtain ⟨Ao98, co98, eo98⟩ := Kd.R_slice HO_6.out
                subst eo98
                go_wp2_with (first | ((with_reducible refine gate_callee (f := 26) rfl ?_); refine goesL_ (some 102) rfl rfl Try.func26 (by kernel_rfl) rfl #[.slice Ao97 t425.length co97, .slice Ao98 t377.length co98] rfl ls_ ?_; (with_reducible refine (laws_eqIntS.calls kj52 _ _ t425 _ _ t377 false _ ?side1 ?side2 ?side3 ?side4 A93.out).mono ?_); (case side1 => exact ca_ (Kd.R_reads' HO427.out).2.2); (case side2 => exact (Kd.R_reads' HO427.out).2.1); (case side3 => exact ca_ (Kd.R_reads' HO_6.out).2.2); (case side4 => exact (Kd.R_reads' HO_6.out).2.1); rintro e w' ⟨rfl, ⟨nd, rfl⟩⟩; refine ⟨_, rfl, ?_⟩))
                go_meet
                case rel => exact ⟨_, (true), es_, H', ⟨by have := HJ15.out; have := HJ52.out; first | omega | exact Nat.le_refl _⟩, ⟨by (try simp only [hl388000_52]); (try simp only [hl388001_52]); (with_reducible repeat (first | apply Kd.R_alloc | apply Kd.R_drewN | apply Kd.R_drew)); exact Kd.R_mono HO_10.out (fun _ hk => trivial)⟩, ⟨by (try simp only [hl388000_52]); (try simp only [hl388001_52]); (with_reducible repeat (first | apply Kd.R_alloc | apply Kd.R_drewN | apply Kd.R_drew)); exact Kd.R_mono HO_388000.out (fun _ hk => trivial)⟩, ⟨by (try simp only [hl388000_52]); (try simp only [hl388001_52]); (with_reducible repeat (first | apply Kd.R_alloc | apply Kd.R_drewN | apply Kd.R_drew)); exact Kd.R_mono HO_388001.out (fun _ hk => trivial)⟩, ⟨by (try simp only [hl388000_52]); (try simp only [hl388001_52]); (with_reducible repeat (first | refine blk_drewN ?_ _ | refine blk_drew ?_ | refine blk_alloc ?_ _)); exact BK366.out⟩, ⟨by (try simp only [hl388000_52]); (try simp only [hl388001_52]); (with_reducible repeat (first | refine blk_drewN ?_ _ | refine blk_drew ?_ | refine blk_alloc ?_ _)); exact BK387.out⟩, ⟨hb_⟩⟩
              case rest =>
               clear HC82
               try clear c1
               try clear c2
               try clear p2
               try clear c3
               try clear c3b0
               try clear c3b1
               try clear c4
               try clear c5
               try clear c6
               try clear c6b0
               try clear c7
               try clear c8
               try clear c9
               try clear c10
               try clear c24
               try clear c26
               try clear c29
               try clear c30
               try clear c31
               try clear c33
               try clear c35
               try clear c39
               try clear c41
               try clear c42
               try clear c44
               try clear c45
               try clear c47
               try clear c50
               try clear c61
               try clear c65
               try clear c65b0
               try clear c67
               try clear c72
               try clear c75
               try clear c75b0
               try clear c78
               try clear c78b0
               try clear c78b1
               try clear c85
               try clear c94
               try clear hcz18_0
               try clear hcz18_1
               try clear hcz20_0
               try clear hcz20_1
               try clear hcz27_0
               try clear hcz27_1
               try clear hcz32_0
               try clear hcz32_1
               try clear hcz35_0
               try clear hcz35_1
               try clear hcz62_0
               try clear hcz62_1
               try clear hcz86_0
               try clear hcz86_1
               try clear hcz8_0
               try clear hcz8_1
               try clear hfz18_0
               try clear hfz18_1
               try clear hfz20_0
               try clear hfz20_1
               try clear hfz27_0
               try clear hfz27_1
               try clear hfz32_0
               try clear hfz32_1
               try clear hfz35_0
               try clear hfz35_1
               try clear hfz62_0
               try clear hfz62_1
               try clear hfz86_0
               try clear hfz86_1
               try clear hfz8_0
               try clear hfz8_1
               try clear p2
               obtain ⟨kq, x108_81, rfl, HA, HJ81, HO_10, HO_388000, HO_388001, BK366, BK387, HB⟩ := hcut
               have hl10_81 := (Kd.R_reads' HO_10.out).1
               rw [hl10_81] at HO_10
               (try simp only [hl10_81])
               (try simp only [hl10_81] at BK366)
               (try simp only [hl10_81] at BK387)
               (try simp only [hl10_81] at HO_388000)
               (try simp only [hl10_81] at HO_388001)
               cases kq with
               | zero => exact absurd HA.out (by simp [laws_FnExactRunChart.j2])
               | succ kj81 =>
                have H := HA.out
                clear HA
                simp only [laws_FnExactRunChart.j2] at H
                by_cases c99 : x108_81 = true
                ·subst c99
                 rw [if_pos rfl] at H
                 obtain rfl := Option.some.inj H
                 go_wp2
                 go_ret
                 exact ⟨er_, hb_⟩
                ·replace c99 := Bool.eq_false_iff.mpr c99
                 subst c99
                 rw [if_neg (show ¬ (false = true) by decide)] at H
                 replace H := Option.bind_eq_some_iff.mp H
                 obtain ⟨t430, A1000, H⟩ := H
                 replace H : (if t430 < 0 then (some false) else (if t430 = t413 then (some true) else (some false))) = some r := H
                 have A100 := Aside0.mk A1000
                 clear A1000
                 by_cases c101 : t430 < 0
                 ·rw [if_pos c101] at H
                  have c101b0 : decide (t430 < 0) = true := decide_eq_true c101
                  clear c101
                  obtain rfl := Option.some.inj H
                  go_wp2_with (first | ((with_reducible refine gate_callee (f := 30) rfl ?_); refine goesL_ (some 111) rfl rfl Try.func30 (by kernel_rfl) rfl #[.slice Ao83 t414.length co83, .int .i64 1] rfl ls_ ?_; (with_reducible refine (laws_heldIntS.calls kj81 _ _ t414 1 t430 _ ?side1 ?side2 A100.out).mono ?_); (case side1 => exact ca_ (Kd.R_reads' HO_10.out).2.2); (case side2 => exact (Kd.R_reads' HO_10.out).2.1); rintro e w' ⟨rfl, ⟨nd, rfl⟩⟩; refine ⟨_, rfl, ?_⟩))
                  go_ret
                  exact ⟨er_, hb_⟩
                 ·rw [if_neg c101] at H
                  have c101b0 : decide (t430 < 0) = false := decide_eq_false c101
                  clear c101
                  by_cases c102 : t430 = t413
                  ·rw [if_pos c102] at H
                   have c102b0 : (t430 == t413) = true := beq_iff_eq.mpr c102
                   have c102b1 : (t430 != t413) = false := bne_eq_false_iff_eq.mpr c102
                   clear c102
                   obtain rfl := Option.some.inj H
                   go_wp2_with (first | ((with_reducible refine gate_callee (f := 30) rfl ?_); refine goesL_ (some 111) rfl rfl Try.func30 (by kernel_rfl) rfl #[.slice Ao83 t414.length co83, .int .i64 1] rfl ls_ ?_; (with_reducible refine (laws_heldIntS.calls kj81 _ _ t414 1 t430 _ ?side1 ?side2 A100.out).mono ?_); (case side1 => exact ca_ (Kd.R_reads' HO_10.out).2.2); (case side2 => exact (Kd.R_reads' HO_10.out).2.1); rintro e w' ⟨rfl, ⟨nd, rfl⟩⟩; refine ⟨_, rfl, ?_⟩))
                   go_ret
                   exact ⟨er_, hb_⟩
                  ·rw [if_neg c102] at H
                   have c102b0 : (t430 == t413) = false := beq_eq_false_iff_ne.mpr c102
                   have c102b1 : (t430 != t413) = true := bne_iff_ne.mpr c102
                   obtain rfl := Option.some.inj H
                   go_wp2_with (first | ((with_reducible refine gate_callee (f := 30) rfl ?_); refine goesL_ (some 111) rfl rfl Try.func30 (by kernel_rfl) rfl #[.slice Ao83 t414.length co83, .int .i64 1] rfl ls_ ?_; (with_reducible refine (laws_heldIntS.calls kj81 _ _ t414 1 t430 _ ?side1 ?side2 A100.out).mono ?_); (case side1 => exact ca_ (Kd.R_reads' HO_10.out).2.2); (case side2 => exact (Kd.R_reads' HO_10.out).2.1); rintro e w' ⟨rfl, ⟨nd, rfl⟩⟩; refine ⟨_, rfl, ?_⟩))
                   go_ret
                   exact ⟨er_, hb_⟩
             ·rw [if_neg c78] at H
              have c78b0 : (t415 == t413) = false := beq_eq_false_iff_ne.mpr c78
              have c78b1 : (t415 != t413) = true := bne_iff_ne.mpr c78
              obtain rfl := Option.some.inj H
              obtain ⟨Ao103, co103, eo103⟩ := Kd.R_slice HO_10.out
              subst eo103
              go_wp2_with (first | ((with_reducible refine gate_callee (f := 29) rfl ?_); refine goesL_ (some 83) rfl rfl Try.func29 (by kernel_rfl) rfl #[.slice Ao103 t391.length co103, .int .i64 1] rfl ls_ ?_; (with_reducible refine (laws_markIntS.calls kj52 (fun k_ => some k_ = (.slice Ao103 t391.length co103 : Value).ownBlock) (.slice Ao103 t391.length co103) t391 1 t413 t414 w _ ?side1 ?side2 A73.out).mono ?_); (case side1 => repeat (first | (with_reducible first | exact HB.out | apply below_alloc | apply pw_below_drewN | apply below_drew1 | refine below_set ?_ GE366.out | refine below_set ?_ GE387.out) | exact HB.out)); (case side2 => exact Kd.R_tight rfl HO_10.out); rintro e w104 ⟨rfl, hy0, hb, hkp⟩; refine ⟨_, rfl, ?_⟩; have n0_ := Aside0.mk (Kd.R_mono (ok' := fun k_ => some k_ ≠ (.slice Ao103 t391.length co103 : Value).ownBlock) (Kd.R_keptB (HO_6.out) hkp (fun k_ hk_ hs_ => (hk_) hs_)) (fun k_ hk_ => hk_.1)); have n1_ := Aside0.mk (Kd.R_reok rfl hy0 (fun k_ e_ => HO_10.out.1 k_ e_)); have n2_ := Aside0.mk (Kd.R_mono (ok' := fun k_ => True) (Kd.R_keptB ((Kd.R_apart' HO_388000.out (Kd.R_typed HO_10.out) (by decide))) hkp (fun k_ hk_ hs_ => (hk_.2) hs_)) (fun k_ hk_ => trivial)); have n3_ := Aside0.mk (Kd.R_mono (ok' := fun k_ => True) (Kd.R_keptB ((Kd.R_apart' HO_388001.out (Kd.R_typed HO_10.out) (by decide))) hkp (fun k_ hk_ hs_ => (hk_.2) hs_)) (fun k_ hk_ => trivial)); have n4_ := Aside0.mk (blk_kept (bk_ BK366.out) hkp (fun hs_ => (fun e_ => (Kd.R_ne HO_10.out BK366.out (by decide)) e_) hs_)); have n5_ := Aside0.mk (blk_kept (bk_ BK387.out) hkp (fun hs_ => (fun e_ => (Kd.R_ne HO_10.out BK387.out (by decide)) e_) hs_)); have n6_ := Aside0.mk (hb); clear HO_6; clear HO_10; clear HO_388000; clear HO_388001; clear BK366; clear BK387; clear HB; have HO_6 := n0_; have HO_10 := n1_; have HO_388000 := n2_; have HO_388001 := n3_; have BK366 := n4_; have BK387 := n5_; have HB := n6_; clear n0_ n1_ n2_ n3_ n4_ n5_ n6_; (try clear hb); (try clear hkp); (try clear hy0)) | ((with_reducible refine gate_callee (f := 30) rfl ?_); refine goesL_ (some 86) rfl rfl Try.func30 (by kernel_rfl) rfl #[.slice Ao103 t414.length co103, .int .i64 1] rfl (by (try simp only [List.map_toArray, List.map_cons, List.map_nil]); first | done | (rw [show t414.length = t391.length from (Kd.R_reads' HO_10.out).1.symm] <;> rfl) | rfl | (simp only [List.length_drop, List.length_take]; rfl)) ?_; (with_reducible refine (laws_heldIntS.calls kj52 _ _ t414 1 t415 _ ?side1 ?side2 A74.out).mono ?_); (case side1 => exact ca_ (Kd.R_reads' HO_10.out).2.2); (case side2 => rw [show t414.length = t391.length from (Kd.R_reads' HO_10.out).1.symm]; exact (Kd.R_reads' HO_10.out).2.1); rintro e w' ⟨rfl, ⟨nd, rfl⟩⟩; refine ⟨_, rfl, ?_⟩))
              go_ret
              exact ⟨er_, hb_⟩
        ·replace c50 := Bool.eq_false_iff.mpr c50
         subst c50
         rw [if_neg (show ¬ (false = true) by decide)] at H
         obtain rfl := Option.some.inj H
         try go_wp2
         have n0_ := Aside0.mk (Kd.R_drew HO_6.out)
         have n1_ := Aside0.mk (Kd.R_drew HO_9.out)
         have n2_ := Aside0.mk (Kd.R_drew HO_10.out)
         have n3_ := Aside0.mk (Kd.R_drew HO_388000.out)
         have n4_ := Aside0.mk (Kd.R_drew HO_388001.out)
         have n5_ := Aside0.mk (blk_drew BK366.out)
         have n6_ := Aside0.mk (blk_drew BK387.out)
         have n7_ := Aside0.mk (below_drew1 HB.out)
         clear HO_6
         clear HO_9
         clear HO_10
         clear HO_388000
         clear HO_388001
         clear BK366
         clear BK387
         clear HB
         have HO_6 := n0_
         have HO_9 := n1_
         have HO_10 := n2_
         have HO_388000 := n3_
         have HO_388001 := n4_
         have BK366 := n5_
         have BK387 := n6_
         have HB := n7_
         clear n0_ n1_ n2_ n3_ n4_ n5_ n6_ n7_
         refine start_ (n := 5) (S := fun w' => w'.cell? ⟨gb387, 0, none⟩ = some (.slice Ao30 t381.length co30) ∧ w'.cell? ⟨gb387, 1, none⟩ = some (.slice Ao33 t384.length co33) ∧ w'.cell? ⟨gb366, 0, none⟩ = some (.slice A0_0 l0_0.length c0_0) ∧ w'.cell? ⟨gb366, 1, none⟩ = some (.slice A0_1 l0_1.length c0_1)) (ds := []) #[false, false, false, false, false] (by kernel_rfl) rfl rfl ⟨(blk_cell BK387.out 0).trans rfl, (blk_cell BK387.out 1).trans rfl, (blk_cell BK366.out 0).trans rfl, (blk_cell BK366.out 1).trans rfl⟩ (fun hHeld => ?_)
         generalize wc.drew = w105 at HO_6 HO_9 HO_10 HO_388000 HO_388001 BK366 BK387 HB hHeld ⊢
         refine take_ (i := 0) (N := some 52) (v := ?_) (a' := ?_) #[true, false, false, false, false] rfl rfl (by kernel_rfl) (fun _ _ _ h => h) (Or.inl ⟨by rfl, ?_⟩) hHeld ?_ ?_
         rotate_left
         ·rintro w' ⟨s0, s1, s2, s3⟩
          go_simp
          with_reducible rfl
         rotate_left
         ·simp only [Act.put, List.setIfInBounds_toArray, List.set_cons_zero, List.set_cons_succ, i64_w, i32_w]
          rfl
         refine take_ (i := 1) (N := some 53) (v := ?_) (a' := ?_) #[true, true, false, false, false] rfl rfl (by kernel_rfl) (fun _ _ _ h => h) (Or.inl ⟨by rfl, ?_⟩) hHeld ?_ ?_
         rotate_left
         ·rintro w' ⟨s0, s1, s2, s3⟩
          go_simp
          with_reducible rfl
         rotate_left
         ·simp only [Act.put, List.setIfInBounds_toArray, List.set_cons_zero, List.set_cons_succ, i64_w, i32_w]
          rfl
         refine one_ (i := 2) (N := some 54) #[true, true, true, false, false] rfl rfl (by kernel_rfl) (by decide) (fun K hK => ?_)
         refine goes_ Try.func33 (by kernel_rfl) rfl #[.agg #[.slice A0_0 l0_0.length c0_0, .slice A0_1 l0_1.length c0_1]] (by rfl) rfl rfl ls_ ?_
         with_reducible refine (laws_toChart.calls kj15 _ _ l0_0 _ _ l0_1 t396 t399 _ ?side1 ?side2 ?side3 ?side4 A45.out).mono ?_
         (case side1 => exact cb_ HR0_0.out)
         (case side2 => exact HC0_0.out)
         (case side3 => exact cb_ HR0_1.out)
         (case side4 => exact HC0_1.out)
         rintro e w106 ⟨v397, v400, rfl, ho0, ho1, hb⟩
         refine ⟨_, rfl, ?_⟩
         have n0_ := Aside0.mk (Kd.R_below (ra_ HO_6.out) hb)
         have n1_ := Aside0.mk (Kd.R_below (ra_ HO_9.out) hb)
         have n2_ := Aside0.mk (Kd.R_below (ra_ HO_10.out) hb)
         have n3_ := Aside0.mk (Kd.R_elder' (ra_ HO_388000.out) (Kd.R_base ho0) hb)
         have n4_ := Aside0.mk (Kd.R_elder' (ra_ HO_388001.out) (Kd.R_base ho1) hb)
         have n5_ := Aside0.mk (Kd.R_lower (Kd.R_new' ho0 (Kd.R_lt (ra_ HO_388000.out))) (below_size hb_))
         have n6_ := Aside0.mk (Kd.R_lower (Kd.R_new' ho1 (Kd.R_lt (ra_ HO_388001.out))) (below_size hb_))
         have n7_ := bb_ BK366 hb
         have n8_ := bb_ BK387 hb
         have n9_ := Aside0.mk (below_step hb_ hb)
         clear HO_6
         clear HO_9
         clear HO_10
         clear HO_388000
         clear HO_388001
         clear BK366
         clear BK387
         clear HB
         have HO_6 := n0_
         have HO_9 := n1_
         have HO_10 := n2_
         have HO_388000 := n3_
         have HO_388001 := n4_
         have HO398 := n5_
         have HO401 := n6_
         have BK366 := n7_
         have BK387 := n8_
         have HB := n9_
         clear n0_ n1_ n2_ n3_ n4_ n5_ n6_ n7_ n8_ n9_
         (try clear hb)
         (try clear hb2)
         (try clear hk)
         (try clear hi)
         (try clear ho0)
         (try clear ho1)
         obtain ⟨Ao107, co107, eo107⟩ := Kd.R_slice HO398.out
         (first | subst eo107 | (injection eo107 with f1_ f2_ f3_; have f4_ := f1_.symm; have f5_ := f3_.symm; clear f1_ f2_ f3_; subst f4_; subst f5_))
         obtain ⟨Ao108, co108, eo108⟩ := Kd.R_slice HO401.out
         (first | subst eo108 | (injection eo108 with f1_ f2_ f3_; have f4_ := f1_.symm; have f5_ := f3_.symm; clear f1_ f2_ f3_; subst f4_; subst f5_))
         refine hK.out _ _ ⟨(blk_cell BK387.out 0).trans rfl, (blk_cell BK387.out 1).trans rfl, (blk_cell BK366.out 0).trans rfl, (blk_cell BK366.out 1).trans rfl⟩ (fun hHeld => ?_)
         clear hK K
         refine norm_ (a' := ?_) ?_ ?_
         rotate_left
         ·show Act.put _ (some 54) _ = _
          simp only [Act.put, List.setIfInBounds_toArray, List.set_cons_zero, List.set_cons_succ, i64_w, i32_w]
          rfl
         refine one_ (i := 3) (N := some 55) #[true, true, true, true, false] rfl rfl (by kernel_rfl) (by decide) (fun K hK => ?_)
         refine goes_ Try.func35 (by kernel_rfl) rfl #[.agg #[.slice Ao30 t381.length co30, .slice Ao33 t384.length co33], .agg #[.slice Ao107 t396.length co107, .slice Ao108 t399.length co108]] (by rfl) rfl rfl ls_ ?_
         with_reducible refine (laws_eqChart.calls kj15 _ _ t381 _ _ t384 _ _ t396 _ _ t399 true _ ?side1 ?side2 ?side3 ?side4 ?side5 ?side6 ?side7 ?side8 A46.out).mono ?_
         (case side1 => exact ca_ (Kd.R_reads' HO_388000.out).2.2)
         (case side2 => exact (Kd.R_reads' HO_388000.out).2.1)
         (case side3 => exact ca_ (Kd.R_reads' HO_388001.out).2.2)
         (case side4 => exact (Kd.R_reads' HO_388001.out).2.1)
         (case side5 => exact ca_ (Kd.R_reads' HO398.out).2.2)
         (case side6 => exact (Kd.R_reads' HO398.out).2.1)
         (case side7 => exact ca_ (Kd.R_reads' HO401.out).2.2)
         (case side8 => exact (Kd.R_reads' HO401.out).2.1)
         rintro e w109 ⟨rfl, hb⟩
         refine ⟨_, rfl, ?_⟩
         have n0_ := Aside0.mk (Kd.R_below (ra_ HO_6.out) hb)
         have n1_ := Aside0.mk (Kd.R_below (ra_ HO_9.out) hb)
         have n2_ := Aside0.mk (Kd.R_below (ra_ HO_10.out) hb)
         have n3_ := Aside0.mk (Kd.R_below (ra_ HO_388000.out) hb)
         have n4_ := Aside0.mk (Kd.R_below (ra_ HO_388001.out) hb)
         have n5_ := Aside0.mk (Kd.R_below (ra_ HO398.out) hb)
         have n6_ := Aside0.mk (Kd.R_below (ra_ HO401.out) hb)
         have n7_ := bb_ BK366 hb
         have n8_ := bb_ BK387 hb
         have n9_ := Aside0.mk (below_step hb_ hb)
         clear HO_6
         clear HO_9
         clear HO_10
         clear HO_388000
         clear HO_388001
         clear HO398
         clear HO401
         clear BK366
         clear BK387
         clear HB
         have HO_6 := n0_
         have HO_9 := n1_
         have HO_10 := n2_
         have HO_388000 := n3_
         have HO_388001 := n4_
         have HO398 := n5_
         have HO401 := n6_
         have BK366 := n7_
         have BK387 := n8_
         have HB := n9_
         clear n0_ n1_ n2_ n3_ n4_ n5_ n6_ n7_ n8_ n9_
         (try clear hb)
         (try clear hb2)
         (try clear hk)
         (try clear hi)
         refine hK.out _ _ ⟨(blk_cell BK387.out 0).trans rfl, (blk_cell BK387.out 1).trans rfl, (blk_cell BK366.out 0).trans rfl, (blk_cell BK366.out 1).trans rfl⟩ (fun hHeld => ?_)
         clear hK K
         refine norm_ (a' := ?_) ?_ ?_
         rotate_left
         ·show Act.put _ (some 55) _ = _
          simp only [Act.put, List.setIfInBounds_toArray, List.set_cons_zero, List.set_cons_succ, i64_w, i32_w]
          rfl
         refine pure_ (i := 4) (N := some 56) (v := ?_) (a' := ?_) #[true, true, true, true, true] rfl rfl (by kernel_rfl) (fun _ _ _ h => h) (Or.inl ⟨by rfl, ?_⟩) ?_ ?_
         rotate_left
         ·intro w'
          go_simp
          with_reducible rfl
         rotate_left
         ·simp only [Act.put, List.setIfInBounds_toArray, List.set_cons_zero, List.set_cons_succ, i64_w, i32_w]
          rfl
         refine done_ (by kernel_rfl) ?_
         try go_wp2_with (first | ((with_reducible refine gate_callee (f := 24) rfl ?_); refine goesL_ (some 59) rfl rfl Try.func24 (by kernel_rfl) rfl #[.slice A1 l1.length c1] rfl ls_ ?_; (with_reducible refine (laws_toIntS.calls kj15 _ _ l1 t403 _ ?side1 ?side2 A48.out).mono ?_); (case side1 => exact cb_ HR1.out); (case side2 => exact HC1.out); rintro e w110 ⟨v404, rfl, ho0, hb⟩; refine ⟨_, rfl, ?_⟩; have n0_ := Aside0.mk (Kd.R_elder' (ra_ HO_6.out) (Kd.R_base ho0) hb); have n1_ := Aside0.mk (Kd.R_elder' (ra_ HO_9.out) (Kd.R_base ho0) hb); have n2_ := Aside0.mk (Kd.R_elder' (ra_ HO_10.out) (Kd.R_base ho0) hb); have n3_ := Aside0.mk (Kd.R_below (ra_ HO_388000.out) hb); have n4_ := Aside0.mk (Kd.R_below (ra_ HO_388001.out) hb); have n5_ := Aside0.mk (Kd.R_below (ra_ HO398.out) hb); have n6_ := Aside0.mk (Kd.R_below (ra_ HO401.out) hb); have n7_ := Aside0.mk (Kd.R_lower (Kd.R_new' (Kd.R_new' (Kd.R_new' ho0 (Kd.R_lt (ra_ HO_6.out))) (Kd.R_lt (ra_ HO_9.out))) (Kd.R_lt (ra_ HO_10.out))) (below_size hb_)); have n8_ := bb_ BK366 hb; have n9_ := bb_ BK387 hb; have n10_ := Aside0.mk (below_step hb_ hb); clear HO_6; clear HO_9; clear HO_10; clear HO_388000; clear HO_388001; clear HO398; clear HO401; clear BK366; clear BK387; clear HB; have HO_6 := n0_; have HO_9 := n1_; have HO_10 := n2_; have HO_388000 := n3_; have HO_388001 := n4_; have HO398 := n5_; have HO401 := n6_; have HO405 := n7_; have BK366 := n8_; have BK387 := n9_; have HB := n10_; clear n0_ n1_ n2_ n3_ n4_ n5_ n6_ n7_ n8_ n9_ n10_; (try clear hb); (try clear hb2); (try clear hk); (try clear hi); (try clear ho0); obtain ⟨Ao111, co111, eo111⟩ := Kd.R_slice HO405.out; subst eo111) | ((with_reducible refine gate_callee (f := 26) rfl ?_); refine goesL_ (some 60) rfl rfl Try.func26 (by kernel_rfl) rfl #[.slice Ao36 t388.length co36, .slice Ao111 t403.length co111] rfl ls_ ?_; (with_reducible refine (laws_eqIntS.calls kj15 _ _ t388 _ _ t403 false _ ?side1 ?side2 ?side3 ?side4 A49.out).mono ?_); (case side1 => exact ca_ (Kd.R_reads' HO_9.out).2.2); (case side2 => exact (Kd.R_reads' HO_9.out).2.1); (case side3 => exact ca_ (Kd.R_reads' HO405.out).2.2); (case side4 => exact (Kd.R_reads' HO405.out).2.1); rintro e w' ⟨rfl, ⟨nd, rfl⟩⟩; refine ⟨_, rfl, ?_⟩))
         go_ret
         exact ⟨er_, hb_⟩
       ·replace c47 := Bool.eq_false_iff.mpr c47
        subst c47
        rw [if_neg (show ¬ (false = true) by decide)] at H
        obtain rfl := Option.some.inj H
        try go_wp2
        have n0_ := Aside0.mk (Kd.R_drew HO_6.out)
        have n1_ := Aside0.mk (Kd.R_drew HO_9.out)
        have n2_ := Aside0.mk (Kd.R_drew HO_10.out)
        have n3_ := Aside0.mk (Kd.R_drew HO_388000.out)
        have n4_ := Aside0.mk (Kd.R_drew HO_388001.out)
        have n5_ := Aside0.mk (blk_drew BK366.out)
        have n6_ := Aside0.mk (blk_drew BK387.out)
        have n7_ := Aside0.mk (below_drew1 HB.out)
        clear HO_6
        clear HO_9
        clear HO_10
        clear HO_388000
        clear HO_388001
        clear BK366
        clear BK387
        clear HB
        have HO_6 := n0_
        have HO_9 := n1_
        have HO_10 := n2_
        have HO_388000 := n3_
        have HO_388001 := n4_
        have BK366 := n5_
        have BK387 := n6_
        have HB := n7_
        clear n0_ n1_ n2_ n3_ n4_ n5_ n6_ n7_
        refine start_ (n := 5) (S := fun w' => w'.cell? ⟨gb387, 0, none⟩ = some (.slice Ao30 t381.length co30) ∧ w'.cell? ⟨gb387, 1, none⟩ = some (.slice Ao33 t384.length co33) ∧ w'.cell? ⟨gb366, 0, none⟩ = some (.slice A0_0 l0_0.length c0_0) ∧ w'.cell? ⟨gb366, 1, none⟩ = some (.slice A0_1 l0_1.length c0_1)) (ds := []) #[false, false, false, false, false] (by kernel_rfl) rfl rfl ⟨(blk_cell BK387.out 0).trans rfl, (blk_cell BK387.out 1).trans rfl, (blk_cell BK366.out 0).trans rfl, (blk_cell BK366.out 1).trans rfl⟩ (fun hHeld => ?_)
        generalize wc.drew = w112 at HO_6 HO_9 HO_10 HO_388000 HO_388001 BK366 BK387 HB hHeld ⊢
        refine take_ (i := 0) (N := some 52) (v := ?_) (a' := ?_) #[true, false, false, false, false] rfl rfl (by kernel_rfl) (fun _ _ _ h => h) (Or.inl ⟨by rfl, ?_⟩) hHeld ?_ ?_
        rotate_left
        ·rintro w' ⟨s0, s1, s2, s3⟩
         go_simp
         with_reducible rfl
        rotate_left
        ·simp only [Act.put, List.setIfInBounds_toArray, List.set_cons_zero, List.set_cons_succ, i64_w, i32_w]
         rfl
        refine take_ (i := 1) (N := some 53) (v := ?_) (a' := ?_) #[true, true, false, false, false] rfl rfl (by kernel_rfl) (fun _ _ _ h => h) (Or.inl ⟨by rfl, ?_⟩) hHeld ?_ ?_
        rotate_left
        ·rintro w' ⟨s0, s1, s2, s3⟩
         go_simp
         with_reducible rfl
        rotate_left
        ·simp only [Act.put, List.setIfInBounds_toArray, List.set_cons_zero, List.set_cons_succ, i64_w, i32_w]
         rfl
        refine one_ (i := 2) (N := some 54) #[true, true, true, false, false] rfl rfl (by kernel_rfl) (by decide) (fun K hK => ?_)
        refine goes_ Try.func33 (by kernel_rfl) rfl #[.agg #[.slice A0_0 l0_0.length c0_0, .slice A0_1 l0_1.length c0_1]] (by rfl) rfl rfl ls_ ?_
        with_reducible refine (laws_toChart.calls kj15 _ _ l0_0 _ _ l0_1 t396 t399 _ ?side1 ?side2 ?side3 ?side4 A45.out).mono ?_
        (case side1 => exact cb_ HR0_0.out)
        (case side2 => exact HC0_0.out)
        (case side3 => exact cb_ HR0_1.out)
        (case side4 => exact HC0_1.out)
        rintro e w113 ⟨v397, v400, rfl, ho0, ho1, hb⟩
        refine ⟨_, rfl, ?_⟩
        have n0_ := Aside0.mk (Kd.R_below (ra_ HO_6.out) hb)
        have n1_ := Aside0.mk (Kd.R_below (ra_ HO_9.out) hb)
        have n2_ := Aside0.mk (Kd.R_below (ra_ HO_10.out) hb)
        have n3_ := Aside0.mk (Kd.R_elder' (ra_ HO_388000.out) (Kd.R_base ho0) hb)
        have n4_ := Aside0.mk (Kd.R_elder' (ra_ HO_388001.out) (Kd.R_base ho1) hb)
        have n5_ := Aside0.mk (Kd.R_lower (Kd.R_new' ho0 (Kd.R_lt (ra_ HO_388000.out))) (below_size hb_))
        have n6_ := Aside0.mk (Kd.R_lower (Kd.R_new' ho1 (Kd.R_lt (ra_ HO_388001.out))) (below_size hb_))
        have n7_ := bb_ BK366 hb
        have n8_ := bb_ BK387 hb
        have n9_ := Aside0.mk (below_step hb_ hb)
        clear HO_6
        clear HO_9
        clear HO_10
        clear HO_388000
        clear HO_388001
        clear BK366
        clear BK387
        clear HB
        have HO_6 := n0_
        have HO_9 := n1_
        have HO_10 := n2_
        have HO_388000 := n3_
        have HO_388001 := n4_
        have HO398 := n5_
        have HO401 := n6_
        have BK366 := n7_
        have BK387 := n8_
        have HB := n9_
        clear n0_ n1_ n2_ n3_ n4_ n5_ n6_ n7_ n8_ n9_
        (try clear hb)
        (try clear hb2)
        (try clear hk)
        (try clear hi)
        (try clear ho0)
        (try clear ho1)
        obtain ⟨Ao114, co114, eo114⟩ := Kd.R_slice HO398.out
        (first | subst eo114 | (injection eo114 with f1_ f2_ f3_; have f4_ := f1_.symm; have f5_ := f3_.symm; clear f1_ f2_ f3_; subst f4_; subst f5_))
        obtain ⟨Ao115, co115, eo115⟩ := Kd.R_slice HO401.out
        (first | subst eo115 | (injection eo115 with f1_ f2_ f3_; have f4_ := f1_.symm; have f5_ := f3_.symm; clear f1_ f2_ f3_; subst f4_; subst f5_))
        refine hK.out _ _ ⟨(blk_cell BK387.out 0).trans rfl, (blk_cell BK387.out 1).trans rfl, (blk_cell BK366.out 0).trans rfl, (blk_cell BK366.out 1).trans rfl⟩ (fun hHeld => ?_)
        clear hK K
        refine norm_ (a' := ?_) ?_ ?_
        rotate_left
        ·show Act.put _ (some 54) _ = _
         simp only [Act.put, List.setIfInBounds_toArray, List.set_cons_zero, List.set_cons_succ, i64_w, i32_w]
         rfl
        refine one_ (i := 3) (N := some 55) #[true, true, true, true, false] rfl rfl (by kernel_rfl) (by decide) (fun K hK => ?_)
        refine goes_ Try.func35 (by kernel_rfl) rfl #[.agg #[.slice Ao30 t381.length co30, .slice Ao33 t384.length co33], .agg #[.slice Ao114 t396.length co114, .slice Ao115 t399.length co115]] (by rfl) rfl rfl ls_ ?_
        with_reducible refine (laws_eqChart.calls kj15 _ _ t381 _ _ t384 _ _ t396 _ _ t399 false _ ?side1 ?side2 ?side3 ?side4 ?side5 ?side6 ?side7 ?side8 A46.out).mono ?_
        (case side1 => exact ca_ (Kd.R_reads' HO_388000.out).2.2)
        (case side2 => exact (Kd.R_reads' HO_388000.out).2.1)
        (case side3 => exact ca_ (Kd.R_reads' HO_388001.out).2.2)
        (case side4 => exact (Kd.R_reads' HO_388001.out).2.1)
        (case side5 => exact ca_ (Kd.R_reads' HO398.out).2.2)
        (case side6 => exact (Kd.R_reads' HO398.out).2.1)
        (case side7 => exact ca_ (Kd.R_reads' HO401.out).2.2)
        (case side8 => exact (Kd.R_reads' HO401.out).2.1)
        rintro e w116 ⟨rfl, hb⟩
        refine ⟨_, rfl, ?_⟩
        have n0_ := Aside0.mk (Kd.R_below (ra_ HO_6.out) hb)
        have n1_ := Aside0.mk (Kd.R_below (ra_ HO_9.out) hb)
        have n2_ := Aside0.mk (Kd.R_below (ra_ HO_10.out) hb)
        have n3_ := Aside0.mk (Kd.R_below (ra_ HO_388000.out) hb)
        have n4_ := Aside0.mk (Kd.R_below (ra_ HO_388001.out) hb)
        have n5_ := Aside0.mk (Kd.R_below (ra_ HO398.out) hb)
        have n6_ := Aside0.mk (Kd.R_below (ra_ HO401.out) hb)
        have n7_ := bb_ BK366 hb
        have n8_ := bb_ BK387 hb
        have n9_ := Aside0.mk (below_step hb_ hb)
        clear HO_6
        clear HO_9
        clear HO_10
        clear HO_388000
        clear HO_388001
        clear HO398
        clear HO401
        clear BK366
        clear BK387
        clear HB
        have HO_6 := n0_
        have HO_9 := n1_
        have HO_10 := n2_
        have HO_388000 := n3_
        have HO_388001 := n4_
        have HO398 := n5_
        have HO401 := n6_
        have BK366 := n7_
        have BK387 := n8_
        have HB := n9_
        clear n0_ n1_ n2_ n3_ n4_ n5_ n6_ n7_ n8_ n9_
        (try clear hb)
        (try clear hb2)
        (try clear hk)
        (try clear hi)
        refine hK.out _ _ ⟨(blk_cell BK387.out 0).trans rfl, (blk_cell BK387.out 1).trans rfl, (blk_cell BK366.out 0).trans rfl, (blk_cell BK366.out 1).trans rfl⟩ (fun hHeld => ?_)
        clear hK K
        refine norm_ (a' := ?_) ?_ ?_
        rotate_left
        ·show Act.put _ (some 55) _ = _
         simp only [Act.put, List.setIfInBounds_toArray, List.set_cons_zero, List.set_cons_succ, i64_w, i32_w]
         rfl
        refine pure_ (i := 4) (N := some 56) (v := ?_) (a' := ?_) #[true, true, true, true, true] rfl rfl (by kernel_rfl) (fun _ _ _ h => h) (Or.inl ⟨by rfl, ?_⟩) ?_ ?_
        rotate_left
        ·intro w'
         go_simp
         with_reducible rfl
        rotate_left
        ·simp only [Act.put, List.setIfInBounds_toArray, List.set_cons_zero, List.set_cons_succ, i64_w, i32_w]
         rfl
        refine done_ (by kernel_rfl) ?_
        try go_wp2
        go_ret
        exact ⟨er_, hb_⟩

end Go.Proofs.Ytkhkgfihodljmaa.Pr
