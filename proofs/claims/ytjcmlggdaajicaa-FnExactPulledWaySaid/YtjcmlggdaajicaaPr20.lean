-- Written by this session's own print (wip/tools/mkmp.py) out of the translation. Lean checks it.
import Derived.Test.YtjcmlggdaajicaaPr0
import Derived.Test.YtjcmlggdaajicaaPr1
import Derived.Test.YtjcmlggdaajicaaPr2
import Derived.Test.YtjcmlggdaajicaaPr15
import Derived.Test.YtjcmlggdaajicaaPr16
import Derived.Test.YtjcmlggdaajicaaPr18
import Derived.Test.YtjcmlggdaajicaaPr19
import Derived.Test.YtjcmlggdaajicaaPrd1
import Derived.Test.YtjcmlggdaajicaaPrd2
namespace Go.Proofs.Ytjcmlggdaajicaa.Pr
open Go.RowKit Go.Proofs.YtjcmlggdaajicaaW.PrintWords Go.Proofs.YtjcmlggdaajicaaW.PrintLast Go.Proofs.YtjcmlggdaajicaaW.PrintMore
attribute [local go_sem] max2_int min2_int max_two min_two max_three min_three max_four min_four   -- for this text's walks alone
set_option linter.unusedVariables false
set_option linter.unusedSimpArgs false

set_option maxHeartbeats 8000000 in
set_option maxRecDepth 100000 in
theorem laws_FnExactPulledWay.calls (k : Nat) (a0_0 : Int) (A0_1 : Option Addr) (c0_1 : Nat) (l0_1 : List Int) (A1 : Option Addr) (c1 : Nat) (l1 : List Int) (r : Bool) (w : World) (hr0_1 : Kd.C (Kd.int .i64) w A0_1 l0_1.length l0_1) (hc0_1 : l0_1.length ≤ c0_1) (hr1 : Kd.C (Kd.int .i64) w A1 l1.length l1) (hc1 : l1.length ≤ c1) (h : laws_FnExactPulledWay.f k a0_0 l0_1 l1 = some r) :
   Calls Try.prog 6 #[.agg #[.int .i64 a0_0, .slice A0_1 l0_1.length c0_1], .slice A1 l1.length c1] w fun e w' => e = .returned (.bool r) ∧ Below w.heap.size w w' := by
  have hu24 := Try.underlying24
  have hu27 := Try.underlying27
  have HR0_1 := Aside0.mk hr0_1
  have HC0_1 := Aside0.mk hc0_1
  clear hr0_1 hc0_1
  have HR1 := Aside0.mk hr1
  have HC1 := Aside0.mk hc1
  clear hr1 hc1
  have HB := Aside0.mk (Below.refl w.heap.size w)
  have H : (if (l1.length : Int) > 1048576 then (some true) else ((laws_szCells.f a0_0 l0_1 1048576).bind fun t328 => (if t328 < 0 then (some true) else ((laws_toCells.f k a0_0 l0_1).bind fun bt329 => ((laws_toIntS.f k l1).bind fun t333 => ((spec_PulledWay.f k bt329.1 bt329.2 t333).bind fun bt336 => ((laws_toCells.f k a0_0 l0_1).bind fun bt340 => ((laws_toIntS.f k l1).bind fun t345 => ((impl_PulledWay.f k bt340.1 bt340.2 t345).bind fun bt348 => ((laws_eqIntS.f k bt348.1 bt336.1).bind fun t352 => (if t352 = true then (laws_FnExactPulledWay.j0 k l1 bt336.1 bt336.2 t345 bt348.1 bt348.2 (bt348.2 != bt336.2) a0_0 l0_1 bt340.1 bt340.2) else (laws_FnExactPulledWay.j0 k l1 bt336.1 bt336.2 t345 bt348.1 bt348.2 true a0_0 l0_1 bt340.1 bt340.2)))))))))))) = some r := h
  clear h
  by_cases c3 : (l1.length : Int) > 1048576
  ·rw [if_pos c3] at H
   have c3b0 : decide (1048576 < (l1.length : Int)) = true := decide_eq_true c3
   have c3b1 : decide (1048576 < l1.length) = true := decide_eq_true (by omega)
   clear c3
   obtain rfl := Option.some.inj H
   go_enter Try.func6, Try.ntmps6
   go_wp2_with (first | ((with_reducible refine gate_dst (N := 2) rfl ?_); refine box_event ?hg (N := 2) ?hd (cs := #[.int .i64 a0_0, .slice A0_1 l0_1.length c0_1]) (t := 24) ?hr ?_; (case hd => rfl); (case hg => rfl); (case hr => first | (go_simp; done) | (go_simp; rfl)); intro gb327 hg w4 hbox hb; have n0_ := Aside0.mk (below_step hb_ hb); have n1_ := Aside0.mk (hbox); have n2_ : Aside0 (w.heap.size ≤ gb327) := gz_; have n3_ : Aside0 (w.heap.size ≤ gb327) := gz_; clear HB; have HB := n0_; have BK327 := n1_; have GW327 := n2_; have GE327 := n3_; clear n0_ n1_ n2_ n3_; clear hb hbox hg))
   go_ret
   exact ⟨er_, hb_⟩
  ·rw [if_neg c3] at H
   have c3b0 : decide (1048576 < (l1.length : Int)) = false := decide_eq_false c3
   have c3b1 : decide (1048576 < l1.length) = false := decide_eq_false (by omega)
   clear c3
   replace H := Option.bind_eq_some_iff.mp H
   obtain ⟨t328, A50, H⟩ := H
   replace H : (if t328 < 0 then (some true) else ((laws_toCells.f k a0_0 l0_1).bind fun bt329 => ((laws_toIntS.f k l1).bind fun t333 => ((spec_PulledWay.f k bt329.1 bt329.2 t333).bind fun bt336 => ((laws_toCells.f k a0_0 l0_1).bind fun bt340 => ((laws_toIntS.f k l1).bind fun t345 => ((impl_PulledWay.f k bt340.1 bt340.2 t345).bind fun bt348 => ((laws_eqIntS.f k bt348.1 bt336.1).bind fun t352 => (if t352 = true then (laws_FnExactPulledWay.j0 k l1 bt336.1 bt336.2 t345 bt348.1 bt348.2 (bt348.2 != bt336.2) a0_0 l0_1 bt340.1 bt340.2) else (laws_FnExactPulledWay.j0 k l1 bt336.1 bt336.2 t345 bt348.1 bt348.2 true a0_0 l0_1 bt340.1 bt340.2)))))))))) = some r := H
   have A5 := Aside0.mk A50
   clear A50
   by_cases c6 : t328 < 0
   ·rw [if_pos c6] at H
    have c6b0 : decide (t328 < 0) = true := decide_eq_true c6
    clear c6
    obtain rfl := Option.some.inj H
    go_enter Try.func6, Try.ntmps6
    go_wp2_with (first | ((with_reducible refine gate_dst (N := 2) rfl ?_); refine box_event ?hg (N := 2) ?hd (cs := #[.int .i64 a0_0, .slice A0_1 l0_1.length c0_1]) (t := 24) ?hr ?_; (case hd => rfl); (case hg => rfl); (case hr => first | (go_simp; done) | (go_simp; rfl)); intro gb327 hg w7 hbox hb; have n0_ := Aside0.mk (below_step hb_ hb); have n1_ := Aside0.mk (hbox); have n2_ : Aside0 (w.heap.size ≤ gb327) := gz_; have n3_ : Aside0 (w.heap.size ≤ gb327) := gz_; clear HB; have HB := n0_; have BK327 := n1_; have GW327 := n2_; have GE327 := n3_; clear n0_ n1_ n2_ n3_; clear hb hbox hg; have hcz8_0 : w7.cell? ⟨gb327, 0, none⟩ = some (.int .i64 a0_0) := (blk_cell BK327.out 0).trans rfl; have hcz8_1 : w7.cell? ⟨gb327, 1, none⟩ = some (.slice A0_1 l0_1.length c0_1) := (blk_cell BK327.out 1).trans rfl; have hfz8_0 := blk_frozen BK327.out 0; have hfz8_1 := blk_frozen BK327.out 1) | ((with_reducible refine gate_callee (f := 10) rfl ?_); refine goesL_ (some 22) rfl rfl Try.func10 (by kernel_rfl) rfl #[.agg #[.int .i64 a0_0, .slice A0_1 l0_1.length c0_1], .int .i64 1048576] rfl ls_ ?_; (with_reducible refine (laws_szCells.calls a0_0 _ _ l0_1 1048576 t328 _ ?side1 ?side2 A5.out).mono ?_); (case side1 => exact cb_ HR0_1.out); (case side2 => exact HC0_1.out); rintro e w9 ⟨rfl, hb⟩; refine ⟨_, rfl, ?_⟩; have n0_ := bb_ BK327 hb; have n1_ := Aside0.mk (below_step hb_ hb); clear BK327; clear HB; have BK327 := n0_; have HB := n1_; clear n0_ n1_; (try clear hb); (try clear hb2); (try clear hk); (try clear hi)))
    go_ret
    exact ⟨er_, hb_⟩
   ·rw [if_neg c6] at H
    have c6b0 : decide (t328 < 0) = false := decide_eq_false c6
    clear c6
    replace H := Option.bind_eq_some_iff.mp H
    obtain ⟨⟨t329, t330⟩, A100, H⟩ := H
    replace H : ((laws_toIntS.f k l1).bind fun t333 => ((spec_PulledWay.f k t329 t330 t333).bind fun bt336 => ((laws_toCells.f k a0_0 l0_1).bind fun bt340 => ((laws_toIntS.f k l1).bind fun t345 => ((impl_PulledWay.f k bt340.1 bt340.2 t345).bind fun bt348 => ((laws_eqIntS.f k bt348.1 bt336.1).bind fun t352 => (if t352 = true then (laws_FnExactPulledWay.j0 k l1 bt336.1 bt336.2 t345 bt348.1 bt348.2 (bt348.2 != bt336.2) a0_0 l0_1 bt340.1 bt340.2) else (laws_FnExactPulledWay.j0 k l1 bt336.1 bt336.2 t345 bt348.1 bt348.2 true a0_0 l0_1 bt340.1 bt340.2)))))))) = some r := H
    have A10 := Aside0.mk A100
    clear A100
    replace H := Option.bind_eq_some_iff.mp H
    obtain ⟨t333, A110, H⟩ := H
    replace H : ((spec_PulledWay.f k t329 t330 t333).bind fun bt336 => ((laws_toCells.f k a0_0 l0_1).bind fun bt340 => ((laws_toIntS.f k l1).bind fun t345 => ((impl_PulledWay.f k bt340.1 bt340.2 t345).bind fun bt348 => ((laws_eqIntS.f k bt348.1 bt336.1).bind fun t352 => (if t352 = true then (laws_FnExactPulledWay.j0 k l1 bt336.1 bt336.2 t345 bt348.1 bt348.2 (bt348.2 != bt336.2) a0_0 l0_1 bt340.1 bt340.2) else (laws_FnExactPulledWay.j0 k l1 bt336.1 bt336.2 t345 bt348.1 bt348.2 true a0_0 l0_1 bt340.1 bt340.2))))))) = some r := H
    have A11 := Aside0.mk A110
    clear A110
    replace H := Option.bind_eq_some_iff.mp H
    obtain ⟨⟨t336, t339⟩, A120, H⟩ := H
    replace H : ((laws_toCells.f k a0_0 l0_1).bind fun bt340 => ((laws_toIntS.f k l1).bind fun t345 => ((impl_PulledWay.f k bt340.1 bt340.2 t345).bind fun bt348 => ((laws_eqIntS.f k bt348.1 t336).bind fun t352 => (if t352 = true then (laws_FnExactPulledWay.j0 k l1 t336 t339 t345 bt348.1 bt348.2 (bt348.2 != t339) a0_0 l0_1 bt340.1 bt340.2) else (laws_FnExactPulledWay.j0 k l1 t336 t339 t345 bt348.1 bt348.2 true a0_0 l0_1 bt340.1 bt340.2)))))) = some r := H
    have A12 := Aside0.mk A120
    clear A120
    replace H := Option.bind_eq_some_iff.mp H
    obtain ⟨⟨t340, t341⟩, A130, H⟩ := H
    replace H : ((laws_toIntS.f k l1).bind fun t345 => ((impl_PulledWay.f k t340 t341 t345).bind fun bt348 => ((laws_eqIntS.f k bt348.1 t336).bind fun t352 => (if t352 = true then (laws_FnExactPulledWay.j0 k l1 t336 t339 t345 bt348.1 bt348.2 (bt348.2 != t339) a0_0 l0_1 t340 t341) else (laws_FnExactPulledWay.j0 k l1 t336 t339 t345 bt348.1 bt348.2 true a0_0 l0_1 t340 t341))))) = some r := H
    have A13 := Aside0.mk A130
    clear A130
    replace H := Option.bind_eq_some_iff.mp H
    obtain ⟨t345, A140, H⟩ := H
    replace H : ((impl_PulledWay.f k t340 t341 t345).bind fun bt348 => ((laws_eqIntS.f k bt348.1 t336).bind fun t352 => (if t352 = true then (laws_FnExactPulledWay.j0 k l1 t336 t339 t345 bt348.1 bt348.2 (bt348.2 != t339) a0_0 l0_1 t340 t341) else (laws_FnExactPulledWay.j0 k l1 t336 t339 t345 bt348.1 bt348.2 true a0_0 l0_1 t340 t341)))) = some r := H
    have A14 := Aside0.mk A140
    clear A140
    replace H := Option.bind_eq_some_iff.mp H
    obtain ⟨⟨t348, t351⟩, A150, H⟩ := H
    replace H : ((laws_eqIntS.f k t348 t336).bind fun t352 => (if t352 = true then (laws_FnExactPulledWay.j0 k l1 t336 t339 t345 t348 t351 (t351 != t339) a0_0 l0_1 t340 t341) else (laws_FnExactPulledWay.j0 k l1 t336 t339 t345 t348 t351 true a0_0 l0_1 t340 t341))) = some r := H
    have A15 := Aside0.mk A150
    clear A150
    have HC16 := Aside0.mk H
    clear H
    go_enter Try.func6, Try.ntmps6
    go_upto_region 11 with (first | ((with_reducible refine gate_dst (N := 2) rfl ?_); refine box_event ?hg (N := 2) ?hd (cs := #[.int .i64 a0_0, .slice A0_1 l0_1.length c0_1]) (t := 24) ?hr ?_; (case hd => rfl); (case hg => rfl); (case hr => first | (go_simp; done) | (go_simp; rfl)); intro gb327 hg w17 hbox hb; have n0_ := Aside0.mk (below_step hb_ hb); have n1_ := Aside0.mk (hbox); have n2_ : Aside0 (w.heap.size ≤ gb327) := gz_; have n3_ : Aside0 (w.heap.size ≤ gb327) := gz_; clear HB; have HB := n0_; have BK327 := n1_; have GW327 := n2_; have GE327 := n3_; clear n0_ n1_ n2_ n3_; clear hb hbox hg; have hcz18_0 : w17.cell? ⟨gb327, 0, none⟩ = some (.int .i64 a0_0) := (blk_cell BK327.out 0).trans rfl; have hcz18_1 : w17.cell? ⟨gb327, 1, none⟩ = some (.slice A0_1 l0_1.length c0_1) := (blk_cell BK327.out 1).trans rfl; have hfz18_0 := blk_frozen BK327.out 0; have hfz18_1 := blk_frozen BK327.out 1) | ((with_reducible refine gate_callee (f := 10) rfl ?_); refine goesL_ (some 22) rfl rfl Try.func10 (by kernel_rfl) rfl #[.agg #[.int .i64 a0_0, .slice A0_1 l0_1.length c0_1], .int .i64 1048576] rfl ls_ ?_; (with_reducible refine (laws_szCells.calls a0_0 _ _ l0_1 1048576 t328 _ ?side1 ?side2 A5.out).mono ?_); (case side1 => exact cb_ HR0_1.out); (case side2 => exact HC0_1.out); rintro e w19 ⟨rfl, hb⟩; refine ⟨_, rfl, ?_⟩; have n0_ := bb_ BK327 hb; have n1_ := Aside0.mk (below_step hb_ hb); clear BK327; clear HB; have BK327 := n0_; have HB := n1_; clear n0_ n1_; (try clear hb); (try clear hb2); (try clear hk); (try clear hi); have hcz20_0 : w19.cell? ⟨gb327, 0, none⟩ = some (.int .i64 a0_0) := (blk_cell BK327.out 0).trans rfl; have hcz20_1 : w19.cell? ⟨gb327, 1, none⟩ = some (.slice A0_1 l0_1.length c0_1) := (blk_cell BK327.out 1).trans rfl; have hfz20_0 := blk_frozen BK327.out 0; have hfz20_1 := blk_frozen BK327.out 1) | ((with_reducible refine gate_callee (f := 12) rfl ?_); refine goesL_ (some 27) rfl rfl Try.func12 (by kernel_rfl) rfl #[.agg #[.int .i64 a0_0, .slice A0_1 l0_1.length c0_1]] rfl ls_ ?_; (with_reducible refine (laws_toCells.calls k a0_0 _ _ l0_1 t329 t330 _ ?side1 ?side2 A10.out).mono ?_); (case side1 => exact cb_ HR0_1.out); (case side2 => exact HC0_1.out); rintro e w21 ⟨v331, rfl, ho0, hb⟩; refine ⟨_, rfl, ?_⟩; have n0_ := Aside0.mk (Kd.R_lower ho0 (below_size hb_)); have n1_ := bb_ BK327 hb; have n2_ := Aside0.mk (below_step hb_ hb); clear BK327; clear HB; have HO332 := n0_; have BK327 := n1_; have HB := n2_; clear n0_ n1_ n2_; (try clear hb); (try clear hb2); (try clear hk); (try clear hi); (try clear ho0)) | ((with_reducible refine gate_callee (f := 16) rfl ?_); refine goesL_ (some 29) rfl rfl Try.func16 (by kernel_rfl) rfl #[.slice A1 l1.length c1] rfl ls_ ?_; (with_reducible refine (laws_toIntS.calls k _ _ l1 t333 _ ?side1 ?side2 A11.out).mono ?_); (case side1 => exact cb_ HR1.out); (case side2 => exact HC1.out); rintro e w22 ⟨v334, rfl, ho0, hb⟩; refine ⟨_, rfl, ?_⟩; have n0_ := Aside0.mk (Kd.R_elder' (ra_ HO332.out) (Kd.R_base ho0) hb); have n1_ := Aside0.mk (Kd.R_lower (Kd.R_new' ho0 (Kd.R_lt (ra_ HO332.out))) (below_size hb_)); have n2_ := bb_ BK327 hb; have n3_ := Aside0.mk (below_step hb_ hb); clear HO332; clear BK327; clear HB; have HO332 := n0_; have HO335 := n1_; have BK327 := n2_; have HB := n3_; clear n0_ n1_ n2_ n3_; (try clear hb); (try clear hb2); (try clear hk); (try clear hi); (try clear ho0); obtain ⟨Ao23, co23, eo23⟩ := Kd.R_slice HO332.out; subst eo23; obtain ⟨Ao24, co24, eo24⟩ := Kd.R_slice HO335.out; subst eo24) | ((with_reducible refine gate_callee (f := 24) rfl ?_); refine goesL_ (some 30) rfl rfl Try.func24 (by kernel_rfl) rfl #[.agg #[.int .i64 t329, .slice Ao23 t330.length co23], .slice Ao24 t333.length co24] rfl ls_ ?_; (with_reducible refine (spec_PulledWay.calls k t329 _ _ t330 _ _ t333 t336 t339 _ ?side1 ?side2 ?side3 ?side4 A12.out).mono ?_); (case side1 => exact ca_ (Kd.R_reads' HO332.out).2.2); (case side2 => exact (Kd.R_reads' HO332.out).2.1); (case side3 => exact ca_ (Kd.R_reads' HO335.out).2.2); (case side4 => exact (Kd.R_reads' HO335.out).2.1); rintro e w25 ⟨v337, rfl, ho0, hb⟩; refine ⟨_, rfl, ?_⟩; have n0_ := Aside0.mk (Kd.R_elder' (ra_ HO332.out) (Kd.R_base ho0) hb); have n1_ := Aside0.mk (Kd.R_elder' (ra_ HO335.out) (Kd.R_base ho0) hb); have n2_ := Aside0.mk (Kd.R_lower (Kd.R_new' (Kd.R_new' ho0 (Kd.R_lt (ra_ HO332.out))) (Kd.R_lt (ra_ HO335.out))) (below_size hb_)); have n3_ := bb_ BK327 hb; have n4_ := Aside0.mk (below_step hb_ hb); clear HO332; clear HO335; clear BK327; clear HB; have HO332 := n0_; have HO335 := n1_; have HO338 := n2_; have BK327 := n3_; have HB := n4_; clear n0_ n1_ n2_ n3_ n4_; (try clear hb); (try clear hb2); (try clear hk); (try clear hi); (try clear ho0); have hcz26_0 : w25.cell? ⟨gb327, 0, none⟩ = some (.int .i64 a0_0) := (blk_cell BK327.out 0).trans rfl; have hcz26_1 : w25.cell? ⟨gb327, 1, none⟩ = some (.slice A0_1 l0_1.length c0_1) := (blk_cell BK327.out 1).trans rfl; have hfz26_0 := blk_frozen BK327.out 0; have hfz26_1 := blk_frozen BK327.out 1) | ((with_reducible refine gate_callee (f := 12) rfl ?_); refine goesL_ (some 34) rfl rfl Try.func12 (by kernel_rfl) rfl #[.agg #[.int .i64 a0_0, .slice A0_1 l0_1.length c0_1]] rfl ls_ ?_; (with_reducible refine (laws_toCells.calls k a0_0 _ _ l0_1 t340 t341 _ ?side1 ?side2 A13.out).mono ?_); (case side1 => exact cb_ HR0_1.out); (case side2 => exact HC0_1.out); rintro e w27 ⟨v342, rfl, ho0, hb⟩; refine ⟨_, rfl, ?_⟩; have n0_ := Aside0.mk (Kd.R_elder' (ra_ HO332.out) (Kd.R_base ho0) hb); have n1_ := Aside0.mk (Kd.R_elder' (ra_ HO335.out) (Kd.R_base ho0) hb); have n2_ := Aside0.mk (Kd.R_elder' (ra_ HO338.out) (Kd.R_base ho0) hb); have n3_ := Aside0.mk (Kd.R_lower (Kd.R_new' (Kd.R_new' (Kd.R_new' ho0 (Kd.R_lt (ra_ HO332.out))) (Kd.R_lt (ra_ HO335.out))) (Kd.R_lt (ra_ HO338.out))) (below_size hb_)); have n4_ := bb_ BK327 hb; have n5_ := Aside0.mk (below_step hb_ hb); clear HO332; clear HO335; clear HO338; clear BK327; clear HB; have HO332 := n0_; have HO335 := n1_; have HO338 := n2_; have HO343 := n3_; have BK327 := n4_; have HB := n5_; clear n0_ n1_ n2_ n3_ n4_ n5_; (try clear hb); (try clear hb2); (try clear hk); (try clear hi); (try clear ho0)) | ((with_reducible refine gate_dst (N := 8) rfl ?_); refine box_event ?hg (N := 8) ?hd (cs := #[.int .i64 0, .slice none 0 0]) (t := 27) ?hr ?_; (case hd => rfl); (case hg => rfl); (case hr => first | (go_simp; done) | (go_simp; rfl)); intro gb344 hg w28 hbox hb; have n0_ := Aside0.mk (Kd.R_below (ra_ HO332.out) hb); have n1_ := Aside0.mk (Kd.R_below (ra_ HO335.out) hb); have n2_ := Aside0.mk (Kd.R_below (ra_ HO338.out) hb); have n3_ := Aside0.mk (Kd.R_below (ra_ HO343.out) hb); have n4_ := bb_ BK327 hb; have n5_ := Aside0.mk (below_step hb_ hb); have n6_ := Aside0.mk (hbox); have n7_ : Aside0 (w.heap.size ≤ gb344) := gz_; have n8_ : Aside0 (w.heap.size ≤ gb344) := gz_; have n9_ := Aside0.mk ((by rw [hg]; exact Nat.ne_of_lt (blk_lt (g := gb327) (o := .cells #[.int .i64 a0_0, .slice A0_1 l0_1.length c0_1] 24 (0, 0)) (bk_ BK327.out)) : gb327 ≠ gb344)); have n10_ := Aside0.mk ((by rw [hg]; exact Nat.ne_of_gt (blk_lt (g := gb327) (o := .cells #[.int .i64 a0_0, .slice A0_1 l0_1.length c0_1] 24 (0, 0)) (bk_ BK327.out)) : gb344 ≠ gb327)); clear HO332; clear HO335; clear HO338; clear HO343; clear BK327; clear HB; have HO332 := n0_; have HO335 := n1_; have HO338 := n2_; have HO343 := n3_; have BK327 := n4_; have HB := n5_; have BK344 := n6_; have GW344 := n7_; have GE344 := n8_; have NB327_344 := n9_; have NB344_327 := n10_; clear n0_ n1_ n2_ n3_ n4_ n5_ n6_ n7_ n8_ n9_ n10_; clear hb hbox hg; have hnb29 := NB344_327.out; have hnc29 := NB327_344.out; have hcz30_0 : w28.cell? ⟨gb344, 0, none⟩ = some (.int .i64 0) := (blk_cell BK344.out 0).trans rfl; have hcz30_1 : w28.cell? ⟨gb344, 1, none⟩ = some (.slice none 0 0) := (blk_cell BK344.out 1).trans rfl; have hfz30_0 := blk_frozen BK344.out 0; have hfz30_1 := blk_frozen BK344.out 1; obtain ⟨Ao31, co31, eo31⟩ := Kd.R_slice HO343.out; subst eo31) | ((with_reducible refine gate_callee (f := 16) rfl ?_); refine goesL_ (some 36) rfl rfl Try.func16 (by kernel_rfl) rfl #[.slice A1 l1.length c1] rfl ls_ ?_; (with_reducible refine (laws_toIntS.calls k _ _ l1 t345 _ ?side1 ?side2 A14.out).mono ?_); (case side1 => exact Kd.C_below HR1.out hb_); (case side2 => exact HC1.out); rintro e w32 ⟨v346, rfl, ho0, hb⟩; refine ⟨_, rfl, ?_⟩; have n0_ := Aside0.mk (Kd.R_elder' (by (with_reducible repeat (first | apply Kd.R_alloc | apply Kd.R_drewN | apply Kd.R_drew)); exact (Kd.R_mono (Kd.R_far (p := ⟨gb344, 1, none⟩) (Kd.R_far (p := ⟨gb344, 0, none⟩) (Kd.R_types HO332.out BK344.out (by decide)) (fun _ hk => hk.2) (.int .i64 t340)) (fun _ hk => hk.2) (.slice Ao31 t341.length co31)) (fun _ h_ => h_.1))) (Kd.R_base ho0) hb); have n1_ := Aside0.mk (Kd.R_elder' (by (with_reducible repeat (first | apply Kd.R_alloc | apply Kd.R_drewN | apply Kd.R_drew)); exact (Kd.R_mono (Kd.R_far (p := ⟨gb344, 1, none⟩) (Kd.R_far (p := ⟨gb344, 0, none⟩) (Kd.R_types HO335.out BK344.out (by decide)) (fun _ hk => hk.2) (.int .i64 t340)) (fun _ hk => hk.2) (.slice Ao31 t341.length co31)) (fun _ h_ => h_.1))) (Kd.R_base ho0) hb); have n2_ := Aside0.mk (Kd.R_elder' (by (with_reducible repeat (first | apply Kd.R_alloc | apply Kd.R_drewN | apply Kd.R_drew)); exact (Kd.R_mono (Kd.R_far (p := ⟨gb344, 1, none⟩) (Kd.R_far (p := ⟨gb344, 0, none⟩) (Kd.R_types HO338.out BK344.out (by decide)) (fun _ hk => hk.2) (.int .i64 t340)) (fun _ hk => hk.2) (.slice Ao31 t341.length co31)) (fun _ h_ => h_.1))) (Kd.R_base ho0) hb); have n3_ := Aside0.mk (Kd.R_elder' (by (with_reducible repeat (first | apply Kd.R_alloc | apply Kd.R_drewN | apply Kd.R_drew)); exact (Kd.R_mono (Kd.R_far (p := ⟨gb344, 1, none⟩) (Kd.R_far (p := ⟨gb344, 0, none⟩) (Kd.R_types HO343.out BK344.out (by decide)) (fun _ hk => hk.2) (.int .i64 t340)) (fun _ hk => hk.2) (.slice Ao31 t341.length co31)) (fun _ h_ => h_.1))) (Kd.R_base ho0) hb); have n4_ := Aside0.mk (Kd.R_lower (Kd.R_new' (Kd.R_new' (Kd.R_new' (Kd.R_new' ho0 (Kd.R_lt (by (with_reducible repeat (first | apply Kd.R_alloc | apply Kd.R_drewN | apply Kd.R_drew)); exact (Kd.R_mono (Kd.R_far (p := ⟨gb344, 1, none⟩) (Kd.R_far (p := ⟨gb344, 0, none⟩) (Kd.R_types HO332.out BK344.out (by decide)) (fun _ hk => hk.2) (.int .i64 t340)) (fun _ hk => hk.2) (.slice Ao31 t341.length co31)) (fun _ h_ => h_.1))))) (Kd.R_lt (by (with_reducible repeat (first | apply Kd.R_alloc | apply Kd.R_drewN | apply Kd.R_drew)); exact (Kd.R_mono (Kd.R_far (p := ⟨gb344, 1, none⟩) (Kd.R_far (p := ⟨gb344, 0, none⟩) (Kd.R_types HO335.out BK344.out (by decide)) (fun _ hk => hk.2) (.int .i64 t340)) (fun _ hk => hk.2) (.slice Ao31 t341.length co31)) (fun _ h_ => h_.1))))) (Kd.R_lt (by (with_reducible repeat (first | apply Kd.R_alloc | apply Kd.R_drewN | apply Kd.R_drew)); exact (Kd.R_mono (Kd.R_far (p := ⟨gb344, 1, none⟩) (Kd.R_far (p := ⟨gb344, 0, none⟩) (Kd.R_types HO338.out BK344.out (by decide)) (fun _ hk => hk.2) (.int .i64 t340)) (fun _ hk => hk.2) (.slice Ao31 t341.length co31)) (fun _ h_ => h_.1))))) (Kd.R_lt (by (with_reducible repeat (first | apply Kd.R_alloc | apply Kd.R_drewN | apply Kd.R_drew)); exact (Kd.R_mono (Kd.R_far (p := ⟨gb344, 1, none⟩) (Kd.R_far (p := ⟨gb344, 0, none⟩) (Kd.R_types HO343.out BK344.out (by decide)) (fun _ hk => hk.2) (.int .i64 t340)) (fun _ hk => hk.2) (.slice Ao31 t341.length co31)) (fun _ h_ => h_.1))))) (below_size hb_)); have n5_ := Aside0.mk (blk_below (g := gb327) (o := .cells #[.int .i64 a0_0, .slice A0_1 l0_1.length c0_1] 24 (0, 0)) (by (with_reducible repeat (first | refine blk_drewN ?_ _ | refine blk_drew ?_ | refine blk_alloc ?_ _)); refine blk_far ?_ NB327_344.out _; (with_reducible repeat (first | refine blk_drewN ?_ _ | refine blk_drew ?_ | refine blk_alloc ?_ _)); refine blk_far ?_ NB327_344.out _; (with_reducible repeat (first | refine blk_drewN ?_ _ | refine blk_drew ?_ | refine blk_alloc ?_ _)); exact BK327.out) hb); have n6_ := Aside0.mk (blk_below (g := gb344) (o := .cells #[.int .i64 t340, .slice Ao31 t341.length co31] 27 (0, 0)) (by (with_reducible repeat (first | refine blk_drewN ?_ _ | refine blk_drew ?_ | refine blk_alloc ?_ _)); refine blk_put (cs := #[.int .i64 t340, .slice none 0 0]) ?_ 1 _ rfl; (with_reducible repeat (first | refine blk_drewN ?_ _ | refine blk_drew ?_ | refine blk_alloc ?_ _)); refine blk_put (cs := #[.int .i64 0, .slice none 0 0]) ?_ 0 _ rfl; (with_reducible repeat (first | refine blk_drewN ?_ _ | refine blk_drew ?_ | refine blk_alloc ?_ _)); exact BK344.out) hb); have n7_ := Aside0.mk (below_step hb_ hb); clear HO332; clear HO335; clear HO338; clear HO343; clear BK327; clear BK344; clear HB; have HO332 := n0_; have HO335 := n1_; have HO338 := n2_; have HO343 := n3_; have HO347 := n4_; have BK327 := n5_; have BK344 := n6_; have HB := n7_; clear n0_ n1_ n2_ n3_ n4_ n5_ n6_ n7_; (try clear hb); (try clear hb2); (try clear hk); (try clear hi); (try clear ho0); have hcz33_0 : w32.cell? ⟨gb344, 0, none⟩ = some (.int .i64 t340) := (blk_cell BK344.out 0).trans rfl; have hcz33_1 : w32.cell? ⟨gb344, 1, none⟩ = some (.slice Ao31 t341.length co31) := (blk_cell BK344.out 1).trans rfl; have hfz33_0 := blk_frozen BK344.out 0; have hfz33_1 := blk_frozen BK344.out 1; obtain ⟨Ao34, co34, eo34⟩ := Kd.R_slice HO347.out; subst eo34) | ((with_reducible refine gate_callee (f := 25) rfl ?_); refine goesL_ (some 40) rfl rfl Try.func25 (by kernel_rfl) rfl #[.agg #[.int .i64 t340, .slice Ao31 t341.length co31], .slice Ao34 t345.length co34] rfl ls_ ?_; (with_reducible refine (impl_PulledWay.calls k t340 _ _ t341 _ _ t345 t348 t351 _ ?side1 ?side2 ?side3 ?side4 A15.out).mono ?_); (case side1 => exact ca_ (Kd.R_reads' HO343.out).2.2); (case side2 => exact (Kd.R_reads' HO343.out).2.1); (case side3 => exact ca_ (Kd.R_reads' HO347.out).2.2); (case side4 => exact (Kd.R_reads' HO347.out).2.1); rintro e w35 ⟨v349, rfl, ho0, hb⟩; refine ⟨_, rfl, ?_⟩; have n0_ := Aside0.mk (Kd.R_elder' (ra_ HO332.out) (Kd.R_base ho0) hb); have n1_ := Aside0.mk (Kd.R_elder' (ra_ HO335.out) (Kd.R_base ho0) hb); have n2_ := Aside0.mk (Kd.R_elder' (ra_ HO338.out) (Kd.R_base ho0) hb); have n3_ := Aside0.mk (Kd.R_elder' (ra_ HO343.out) (Kd.R_base ho0) hb); have n4_ := Aside0.mk (Kd.R_elder' (ra_ HO347.out) (Kd.R_base ho0) hb); have n5_ := Aside0.mk (Kd.R_lower (Kd.R_new' (Kd.R_new' (Kd.R_new' (Kd.R_new' (Kd.R_new' ho0 (Kd.R_lt (ra_ HO332.out))) (Kd.R_lt (ra_ HO335.out))) (Kd.R_lt (ra_ HO338.out))) (Kd.R_lt (ra_ HO343.out))) (Kd.R_lt (ra_ HO347.out))) (below_size hb_)); have n6_ := bb_ BK327 hb; have n7_ := bb_ BK344 hb; have n8_ := Aside0.mk (below_step hb_ hb); clear HO332; clear HO335; clear HO338; clear HO343; clear HO347; clear BK327; clear BK344; clear HB; have HO332 := n0_; have HO335 := n1_; have HO338 := n2_; have HO343 := n3_; have HO347 := n4_; have HO350 := n5_; have BK327 := n6_; have BK344 := n7_; have HB := n8_; clear n0_ n1_ n2_ n3_ n4_ n5_ n6_ n7_ n8_; (try clear hb); (try clear hb2); (try clear hk); (try clear hi); (try clear ho0)))
    (try simp only [Act.put, List.setIfInBounds_toArray, List.set_cons_zero, List.set_cons_succ])
    go_cut [51] (fun v51 wc => ∃ (kq : Nat) (x51_15 : Bool), v51 = .bool x51_15 ∧ Aside0 (laws_FnExactPulledWay.j0 kq l1 t336 t339 t345 t348 t351 x51_15 a0_0 l0_1 t340 t341 = some r) ∧ Aside0 (kq ≤ k) ∧ Aside0 (Kd.R (Kd.int .i64) 3 wc w.heap.size (fun k_ => some k_ ≠ ((.slice Ao34 t345.length co34) : Value).ownBlock ∧ some k_ ≠ (v349 : Value).ownBlock ∧ some k_ ≠ ((.slice Ao31 t341.length co31) : Value).ownBlock) v337 t336) ∧ Aside0 (Kd.R (Kd.int .i64) 3 wc w.heap.size (fun k_ => some k_ ≠ (v337 : Value).ownBlock ∧ some k_ ≠ (v349 : Value).ownBlock ∧ some k_ ≠ ((.slice Ao31 t341.length co31) : Value).ownBlock) (.slice Ao34 t345.length co34) t345) ∧ Aside0 (Kd.R (Kd.int .i64) 3 wc w.heap.size (fun k_ => some k_ ≠ (v337 : Value).ownBlock ∧ some k_ ≠ ((.slice Ao34 t345.length co34) : Value).ownBlock ∧ some k_ ≠ ((.slice Ao31 t341.length co31) : Value).ownBlock) v349 t348) ∧ Aside0 (Kd.R (Kd.int .i64) 3 wc w.heap.size (fun k_ => some k_ ≠ (v337 : Value).ownBlock ∧ some k_ ≠ ((.slice Ao34 t345.length co34) : Value).ownBlock ∧ some k_ ≠ (v349 : Value).ownBlock) (.slice Ao31 t341.length co31) t341) ∧ Aside0 (wc.heap[gb327]? = some (.cells #[.int .i64 a0_0, (.slice A0_1 l0_1.length c0_1)] 24 (0, 0))) ∧ Aside0 (wc.heap[gb344]? = some (.cells #[.int .i64 t340, (.slice Ao31 t341.length co31)] 27 (0, 0))) ∧ Aside0 (Below w.heap.size w wc))
    case first =>
     have H := HC16.out
     clear HC16
     replace H := Option.bind_eq_some_iff.mp H
     obtain ⟨t352, A360, H⟩ := H
     replace H : (if t352 = true then (laws_FnExactPulledWay.j0 k l1 t336 t339 t345 t348 t351 (t351 != t339) a0_0 l0_1 t340 t341) else (laws_FnExactPulledWay.j0 k l1 t336 t339 t345 t348 t351 true a0_0 l0_1 t340 t341)) = some r := H
     have A36 := Aside0.mk A360
     clear A360
     by_cases c37 : t352 = true
     ·subst c37
      rw [if_pos rfl] at H
      have H' := Aside0.mk H
      clear H
      obtain ⟨Ao38, co38, eo38⟩ := Kd.R_slice HO350.out
      subst eo38
      obtain ⟨Ao39, co39, eo39⟩ := Kd.R_slice HO338.out
      subst eo39
      go_wp2_with (first | ((with_reducible refine gate_callee (f := 18) rfl ?_); refine goesL_ (some 45) rfl rfl Try.func18 (by kernel_rfl) rfl #[.slice Ao38 t348.length co38, .slice Ao39 t336.length co39] rfl ls_ ?_; (with_reducible refine (laws_eqIntS.calls k _ _ t348 _ _ t336 true _ ?side1 ?side2 ?side3 ?side4 A36.out).mono ?_); (case side1 => exact ca_ (Kd.R_reads' HO350.out).2.2); (case side2 => exact (Kd.R_reads' HO350.out).2.1); (case side3 => exact ca_ (Kd.R_reads' HO338.out).2.2); (case side4 => exact (Kd.R_reads' HO338.out).2.1); rintro e w' ⟨rfl, ⟨nd, rfl⟩⟩; refine ⟨_, rfl, ?_⟩))
      go_meet
      case rel => exact ⟨_, ((t351 != t339)), es_, H', ⟨by first | omega | exact Nat.le_refl _⟩, ⟨by (with_reducible repeat (first | apply Kd.R_alloc | apply Kd.R_drewN | apply Kd.R_drew)); exact Kd.R_mono HO338.out (fun _ hk => ⟨hk.1.2, ⟨hk.2, hk.1.1.2⟩⟩)⟩, ⟨by (with_reducible repeat (first | apply Kd.R_alloc | apply Kd.R_drewN | apply Kd.R_drew)); exact Kd.R_mono HO347.out (fun _ hk => ⟨hk.1.1.2, ⟨hk.2, hk.1.2⟩⟩)⟩, ⟨by (with_reducible repeat (first | apply Kd.R_alloc | apply Kd.R_drewN | apply Kd.R_drew)); exact Kd.R_mono HO350.out (fun _ hk => ⟨hk.1.1.2, ⟨hk.2, hk.1.2⟩⟩)⟩, ⟨by (with_reducible repeat (first | apply Kd.R_alloc | apply Kd.R_drewN | apply Kd.R_drew)); exact Kd.R_mono HO343.out (fun _ hk => ⟨hk.1.1.2, ⟨hk.1.2, hk.2⟩⟩)⟩, ⟨bk_ BK327.out⟩, ⟨bk_ BK344.out⟩, ⟨hb_⟩⟩
     ·replace c37 := Bool.eq_false_iff.mpr c37
      subst c37
      rw [if_neg (show ¬ (false = true) by decide)] at H
      have H' := Aside0.mk H
      clear H
      obtain ⟨Ao40, co40, eo40⟩ := Kd.R_slice HO350.out
      subst eo40
      obtain ⟨Ao41, co41, eo41⟩ := Kd.R_slice HO338.out
      subst eo41
      go_wp2_with (first | ((with_reducible refine gate_callee (f := 18) rfl ?_); refine goesL_ (some 45) rfl rfl Try.func18 (by kernel_rfl) rfl #[.slice Ao40 t348.length co40, .slice Ao41 t336.length co41] rfl ls_ ?_; (with_reducible refine (laws_eqIntS.calls k _ _ t348 _ _ t336 false _ ?side1 ?side2 ?side3 ?side4 A36.out).mono ?_); (case side1 => exact ca_ (Kd.R_reads' HO350.out).2.2); (case side2 => exact (Kd.R_reads' HO350.out).2.1); (case side3 => exact ca_ (Kd.R_reads' HO338.out).2.2); (case side4 => exact (Kd.R_reads' HO338.out).2.1); rintro e w' ⟨rfl, ⟨nd, rfl⟩⟩; refine ⟨_, rfl, ?_⟩))
      go_meet
      case rel => exact ⟨_, (true), es_, H', ⟨by first | omega | exact Nat.le_refl _⟩, ⟨by (with_reducible repeat (first | apply Kd.R_alloc | apply Kd.R_drewN | apply Kd.R_drew)); exact Kd.R_mono HO338.out (fun _ hk => ⟨hk.1.2, ⟨hk.2, hk.1.1.2⟩⟩)⟩, ⟨by (with_reducible repeat (first | apply Kd.R_alloc | apply Kd.R_drewN | apply Kd.R_drew)); exact Kd.R_mono HO347.out (fun _ hk => ⟨hk.1.1.2, ⟨hk.2, hk.1.2⟩⟩)⟩, ⟨by (with_reducible repeat (first | apply Kd.R_alloc | apply Kd.R_drewN | apply Kd.R_drew)); exact Kd.R_mono HO350.out (fun _ hk => ⟨hk.1.1.2, ⟨hk.2, hk.1.2⟩⟩)⟩, ⟨by (with_reducible repeat (first | apply Kd.R_alloc | apply Kd.R_drewN | apply Kd.R_drew)); exact Kd.R_mono HO343.out (fun _ hk => ⟨hk.1.1.2, ⟨hk.1.2, hk.2⟩⟩)⟩, ⟨bk_ BK327.out⟩, ⟨bk_ BK344.out⟩, ⟨hb_⟩⟩
    case rest =>
     clear HC16
     try clear c1
     try clear c2
     try clear p2
     try clear c3
     try clear c3b0
     try clear c3b1
     try clear c6
     try clear c6b0
     try clear c10
     try clear c12
     try clear c16
     try clear c18
     try clear c24
     try clear c25
     try clear c29
     try clear c37
     try clear hcz18_0
     try clear hcz18_1
     try clear hcz20_0
     try clear hcz20_1
     try clear hcz26_0
     try clear hcz26_1
     try clear hcz30_0
     try clear hcz30_1
     try clear hcz33_0
     try clear hcz33_1
     try clear hcz8_0
     try clear hcz8_1
     try clear hfz18_0
     try clear hfz18_1
     try clear hfz20_0
     try clear hfz20_1
     try clear hfz26_0
     try clear hfz26_1
     try clear hfz30_0
     try clear hfz30_1
     try clear hfz33_0
     try clear hfz33_1
     try clear hfz8_0
     try clear hfz8_1
     obtain ⟨kq, x51_15, rfl, HA, HJ15, HO_6, HO_9, HO_10, HO_345001, BK327, BK344, HB⟩ := hcut
     cases kq with
     | zero => exact absurd HA.out (by simp [laws_FnExactPulledWay.j0])
     | succ kj15 =>
      have H := HA.out
      clear HA
      simp only [laws_FnExactPulledWay.j0] at H
      by_cases c42 : x51_15 = true
      ·subst c42
       rw [if_pos rfl] at H
       obtain rfl := Option.some.inj H
       go_wp2
       go_ret
       exact ⟨er_, hb_⟩
      ·replace c42 := Bool.eq_false_iff.mpr c42
       subst c42
       rw [if_neg (show ¬ (false = true) by decide)] at H
       replace H := Option.bind_eq_some_iff.mp H
       obtain ⟨⟨t353, t354⟩, A430, H⟩ := H
       replace H : ((laws_eqCells.f kj15 t340 t341 t353 t354).bind fun t357 => (if t357 = true then ((laws_toIntS.f kj15 l1).bind fun t358 => ((laws_eqIntS.f kj15 t345 t358).bind fun t361 => (if t361 = true then ((laws_markCells.f kj15 t340 t341 1).bind fun bt362 => ((laws_markIntS.f kj15 t345 bt362.1).bind fun bt364 => (if bt364.1 < 0 then (laws_FnExactPulledWay.j1 kj15 l1 t336 t339 t348 true a0_0 l0_1) else ((laws_eqIntS.f kj15 t348 t336).bind fun t366 => (if t366 = true then (laws_FnExactPulledWay.j1 kj15 l1 t336 t339 t348 (t351 != t339) a0_0 l0_1) else (laws_FnExactPulledWay.j1 kj15 l1 t336 t339 t348 true a0_0 l0_1)))))) else (some false)))) else (some false))) = some r := H
       have A43 := Aside0.mk A430
       clear A430
       replace H := Option.bind_eq_some_iff.mp H
       obtain ⟨t357, A440, H⟩ := H
       replace H : (if t357 = true then ((laws_toIntS.f kj15 l1).bind fun t358 => ((laws_eqIntS.f kj15 t345 t358).bind fun t361 => (if t361 = true then ((laws_markCells.f kj15 t340 t341 1).bind fun bt362 => ((laws_markIntS.f kj15 t345 bt362.1).bind fun bt364 => (if bt364.1 < 0 then (laws_FnExactPulledWay.j1 kj15 l1 t336 t339 t348 true a0_0 l0_1) else ((laws_eqIntS.f kj15 t348 t336).bind fun t366 => (if t366 = true then (laws_FnExactPulledWay.j1 kj15 l1 t336 t339 t348 (t351 != t339) a0_0 l0_1) else (laws_FnExactPulledWay.j1 kj15 l1 t336 t339 t348 true a0_0 l0_1)))))) else (some false)))) else (some false)) = some r := H
       have A44 := Aside0.mk A440
       clear A440
       by_cases c45 : t357 = true
       ·subst c45
        rw [if_pos rfl] at H
        replace H := Option.bind_eq_some_iff.mp H
        obtain ⟨t358, A460, H⟩ := H
        replace H : ((laws_eqIntS.f kj15 t345 t358).bind fun t361 => (if t361 = true then ((laws_markCells.f kj15 t340 t341 1).bind fun bt362 => ((laws_markIntS.f kj15 t345 bt362.1).bind fun bt364 => (if bt364.1 < 0 then (laws_FnExactPulledWay.j1 kj15 l1 t336 t339 t348 true a0_0 l0_1) else ((laws_eqIntS.f kj15 t348 t336).bind fun t366 => (if t366 = true then (laws_FnExactPulledWay.j1 kj15 l1 t336 t339 t348 (t351 != t339) a0_0 l0_1) else (laws_FnExactPulledWay.j1 kj15 l1 t336 t339 t348 true a0_0 l0_1)))))) else (some false))) = some r := H
        have A46 := Aside0.mk A460
        clear A460
        replace H := Option.bind_eq_some_iff.mp H
        obtain ⟨t361, A470, H⟩ := H
        replace H : (if t361 = true then ((laws_markCells.f kj15 t340 t341 1).bind fun bt362 => ((laws_markIntS.f kj15 t345 bt362.1).bind fun bt364 => (if bt364.1 < 0 then (laws_FnExactPulledWay.j1 kj15 l1 t336 t339 t348 true a0_0 l0_1) else ((laws_eqIntS.f kj15 t348 t336).bind fun t366 => (if t366 = true then (laws_FnExactPulledWay.j1 kj15 l1 t336 t339 t348 (t351 != t339) a0_0 l0_1) else (laws_FnExactPulledWay.j1 kj15 l1 t336 t339 t348 true a0_0 l0_1)))))) else (some false)) = some r := H
        have A47 := Aside0.mk A470
        clear A470
        by_cases c48 : t361 = true
        ·subst c48
         rw [if_pos rfl] at H
         replace H := Option.bind_eq_some_iff.mp H
         obtain ⟨⟨t362, t363⟩, A490, H⟩ := H
         replace H : ((laws_markIntS.f kj15 t345 t362).bind fun bt364 => (if bt364.1 < 0 then (laws_FnExactPulledWay.j1 kj15 l1 t336 t339 t348 true a0_0 l0_1) else ((laws_eqIntS.f kj15 t348 t336).bind fun t366 => (if t366 = true then (laws_FnExactPulledWay.j1 kj15 l1 t336 t339 t348 (t351 != t339) a0_0 l0_1) else (laws_FnExactPulledWay.j1 kj15 l1 t336 t339 t348 true a0_0 l0_1))))) = some r := H
         have A49 := Aside0.mk A490
         clear A490
         replace H := Option.bind_eq_some_iff.mp H
         obtain ⟨⟨t364, t365⟩, A500, H⟩ := H
         replace H : (if t364 < 0 then (laws_FnExactPulledWay.j1 kj15 l1 t336 t339 t348 true a0_0 l0_1) else ((laws_eqIntS.f kj15 t348 t336).bind fun t366 => (if t366 = true then (laws_FnExactPulledWay.j1 kj15 l1 t336 t339 t348 (t351 != t339) a0_0 l0_1) else (laws_FnExactPulledWay.j1 kj15 l1 t336 t339 t348 true a0_0 l0_1)))) = some r := H
         have A50 := Aside0.mk A500
         clear A500
         have HC51 := Aside0.mk H
         clear H
         try go_wp2
         have n0_ := Aside0.mk (Kd.R_drew HO_6.out)
         have n1_ := Aside0.mk (Kd.R_drew HO_9.out)
         have n2_ := Aside0.mk (Kd.R_drew HO_10.out)
         have n3_ := Aside0.mk (Kd.R_drew HO_345001.out)
         have n4_ := Aside0.mk (blk_drew BK327.out)
         have n5_ := Aside0.mk (blk_drew BK344.out)
         have n6_ := Aside0.mk (below_drew1 HB.out)
         clear HO_6
         clear HO_9
         clear HO_10
         clear HO_345001
         clear BK327
         clear BK344
         clear HB
         have HO_6 := n0_
         have HO_9 := n1_
         have HO_10 := n2_
         have HO_345001 := n3_
         have BK327 := n4_
         have BK344 := n5_
         have HB := n6_
         clear n0_ n1_ n2_ n3_ n4_ n5_ n6_
         refine start_ (n := 5) (S := fun w' => w'.cell? ⟨gb344, 0, none⟩ = some (.int .i64 t340) ∧ w'.cell? ⟨gb344, 1, none⟩ = some (.slice Ao31 t341.length co31) ∧ w'.cell? ⟨gb327, 0, none⟩ = some (.int .i64 a0_0) ∧ w'.cell? ⟨gb327, 1, none⟩ = some (.slice A0_1 l0_1.length c0_1)) (ds := []) #[false, false, false, false, false] (by kernel_rfl) rfl rfl ⟨(blk_cell BK344.out 0).trans rfl, (blk_cell BK344.out 1).trans rfl, (blk_cell BK327.out 0).trans rfl, (blk_cell BK327.out 1).trans rfl⟩ (fun hHeld => ?_)
         generalize wc.drew = w52 at HO_6 HO_9 HO_10 HO_345001 BK327 BK344 HB hHeld ⊢
         refine take_ (i := 0) (N := some 52) (v := ?_) (a' := ?_) #[true, false, false, false, false] rfl rfl (by kernel_rfl) (fun _ _ _ h => h) (Or.inl ⟨by rfl, ?_⟩) hHeld ?_ ?_
         rotate_left
         ·rintro w' ⟨s0, s1, s2, s3⟩
          go_simp
          with_reducible rfl
         rotate_left
         ·simp only [Act.put, List.setIfInBounds_toArray, List.set_cons_zero, List.set_cons_succ, i64_w, i32_w]
          rfl
         refine take_ (i := 1) (N := some 53) (v := ?_) (a' := ?_) #[true, true, false, false, false] rfl rfl (by kernel_rfl) (fun _ _ _ h => h) (Or.inl ⟨by rfl, ?_⟩) hHeld ?_ ?_
         rotate_left
         ·rintro w' ⟨s0, s1, s2, s3⟩
          go_simp
          with_reducible rfl
         rotate_left
         ·simp only [Act.put, List.setIfInBounds_toArray, List.set_cons_zero, List.set_cons_succ, i64_w, i32_w]
          rfl
         refine one_ (i := 2) (N := some 54) #[true, true, true, false, false] rfl rfl (by kernel_rfl) (by decide) (fun K hK => ?_)
         refine goes_ Try.func12 (by kernel_rfl) rfl #[.agg #[.int .i64 a0_0, .slice A0_1 l0_1.length c0_1]] (by rfl) rfl rfl ls_ ?_
         with_reducible refine (laws_toCells.calls kj15 a0_0 _ _ l0_1 t353 t354 _ ?side1 ?side2 A43.out).mono ?_
         (case side1 => exact cb_ HR0_1.out)
         (case side2 => exact HC0_1.out)
         rintro e w53 ⟨v355, rfl, ho0, hb⟩
         refine ⟨_, rfl, ?_⟩
         have n0_ := Aside0.mk (Kd.R_elder' (ra_ HO_6.out) (Kd.R_base ho0) hb)
         have n1_ := Aside0.mk (Kd.R_elder' (ra_ HO_9.out) (Kd.R_base ho0) hb)
         have n2_ := Aside0.mk (Kd.R_elder' (ra_ HO_10.out) (Kd.R_base ho0) hb)
         have n3_ := Aside0.mk (Kd.R_elder' (ra_ HO_345001.out) (Kd.R_base ho0) hb)
         have n4_ := Aside0.mk (Kd.R_lower (Kd.R_new' (Kd.R_new' (Kd.R_new' (Kd.R_new' ho0 (Kd.R_lt (ra_ HO_6.out))) (Kd.R_lt (ra_ HO_9.out))) (Kd.R_lt (ra_ HO_10.out))) (Kd.R_lt (ra_ HO_345001.out))) (below_size hb_))
         have n5_ := bb_ BK327 hb
         have n6_ := bb_ BK344 hb
         have n7_ := Aside0.mk (below_step hb_ hb)
         clear HO_6
         clear HO_9
         clear HO_10
         clear HO_345001
         clear BK327
         clear BK344
         clear HB
         have HO_6 := n0_
         have HO_9 := n1_
         have HO_10 := n2_
         have HO_345001 := n3_
         have HO356 := n4_
         have BK327 := n5_
         have BK344 := n6_
         have HB := n7_
         clear n0_ n1_ n2_ n3_ n4_ n5_ n6_ n7_
         (try clear hb)
         (try clear hb2)
         (try clear hk)
         (try clear hi)
         (try clear ho0)
         obtain ⟨Ao54, co54, eo54⟩ := Kd.R_slice HO356.out
         (first | subst eo54 | (injection eo54 with f1_ f2_ f3_; have f4_ := f1_.symm; have f5_ := f3_.symm; clear f1_ f2_ f3_; subst f4_; subst f5_))
         refine hK.out _ _ ⟨(blk_cell BK344.out 0).trans rfl, (blk_cell BK344.out 1).trans rfl, (blk_cell BK327.out 0).trans rfl, (blk_cell BK327.out 1).trans rfl⟩ (fun hHeld => ?_)
         clear hK K
         refine norm_ (a' := ?_) ?_ ?_
         rotate_left
         ·show Act.put _ (some 54) _ = _
          simp only [Act.put, List.setIfInBounds_toArray, List.set_cons_zero, List.set_cons_succ, i64_w, i32_w]
          rfl
         refine one_ (i := 3) (N := some 55) #[true, true, true, true, false] rfl rfl (by kernel_rfl) (by decide) (fun K hK => ?_)
         refine goes_ Try.func14 (by kernel_rfl) rfl #[.agg #[.int .i64 t340, .slice Ao31 t341.length co31], .agg #[.int .i64 t353, .slice Ao54 t354.length co54]] (by rfl) rfl rfl ls_ ?_
         with_reducible refine (laws_eqCells.calls kj15 t340 _ _ t341 t353 _ _ t354 true _ ?side1 ?side2 ?side3 ?side4 A44.out).mono ?_
         (case side1 => exact ca_ (Kd.R_reads' HO_345001.out).2.2)
         (case side2 => exact (Kd.R_reads' HO_345001.out).2.1)
         (case side3 => exact ca_ (Kd.R_reads' HO356.out).2.2)
         (case side4 => exact (Kd.R_reads' HO356.out).2.1)
         rintro e w55 ⟨rfl, hb⟩
         refine ⟨_, rfl, ?_⟩
         have n0_ := Aside0.mk (Kd.R_below (ra_ HO_6.out) hb)
         have n1_ := Aside0.mk (Kd.R_below (ra_ HO_9.out) hb)
         have n2_ := Aside0.mk (Kd.R_below (ra_ HO_10.out) hb)
         have n3_ := Aside0.mk (Kd.R_below (ra_ HO_345001.out) hb)
         have n4_ := Aside0.mk (Kd.R_below (ra_ HO356.out) hb)
         have n5_ := bb_ BK327 hb
         have n6_ := bb_ BK344 hb
         have n7_ := Aside0.mk (below_step hb_ hb)
         clear HO_6
         clear HO_9
         clear HO_10
         clear HO_345001
         clear HO356
         clear BK327
         clear BK344
         clear HB
         have HO_6 := n0_
         have HO_9 := n1_
         have HO_10 := n2_
         have HO_345001 := n3_
         have HO356 := n4_
         have BK327 := n5_
         have BK344 := n6_
         have HB := n7_
         clear n0_ n1_ n2_ n3_ n4_ n5_ n6_ n7_
         (try clear hb)
         (try clear hb2)
         (try clear hk)
         (try clear hi)
         refine hK.out _ _ ⟨(blk_cell BK344.out 0).trans rfl, (blk_cell BK344.out 1).trans rfl, (blk_cell BK327.out 0).trans rfl, (blk_cell BK327.out 1).trans rfl⟩ (fun hHeld => ?_)
         clear hK K
         refine norm_ (a' := ?_) ?_ ?_
         rotate_left
         ·show Act.put _ (some 55) _ = _
          simp only [Act.put, List.setIfInBounds_toArray, List.set_cons_zero, List.set_cons_succ, i64_w, i32_w]
          rfl
         refine pure_ (i := 4) (N := some 56) (v := ?_) (a' := ?_) #[true, true, true, true, true] rfl rfl (by kernel_rfl) (fun _ _ _ h => h) (Or.inl ⟨by rfl, ?_⟩) ?_ ?_
         rotate_left
         ·intro w'
          go_simp
          with_reducible rfl
         rotate_left
         ·simp only [Act.put, List.setIfInBounds_toArray, List.set_cons_zero, List.set_cons_succ, i64_w, i32_w]
          rfl
         refine done_ (by kernel_rfl) ?_
         go_upto_region 20 with (first | ((with_reducible refine gate_callee (f := 16) rfl ?_); refine goesL_ (some 59) rfl rfl Try.func16 (by kernel_rfl) rfl #[.slice A1 l1.length c1] rfl ls_ ?_; (with_reducible refine (laws_toIntS.calls kj15 _ _ l1 t358 _ ?side1 ?side2 A46.out).mono ?_); (case side1 => exact cb_ HR1.out); (case side2 => exact HC1.out); rintro e w56 ⟨v359, rfl, ho0, hb⟩; refine ⟨_, rfl, ?_⟩; have n0_ := Aside0.mk (Kd.R_elder' (ra_ HO_6.out) (Kd.R_base ho0) hb); have n1_ := Aside0.mk (Kd.R_elder' (ra_ HO_9.out) (Kd.R_base ho0) hb); have n2_ := Aside0.mk (Kd.R_elder' (ra_ HO_10.out) (Kd.R_base ho0) hb); have n3_ := Aside0.mk (Kd.R_elder' (ra_ HO_345001.out) (Kd.R_base ho0) hb); have n4_ := Aside0.mk (Kd.R_elder' (ra_ HO356.out) (Kd.R_base ho0) hb); have n5_ := Aside0.mk (Kd.R_lower (Kd.R_new' (Kd.R_new' (Kd.R_new' (Kd.R_new' (Kd.R_new' ho0 (Kd.R_lt (ra_ HO_6.out))) (Kd.R_lt (ra_ HO_9.out))) (Kd.R_lt (ra_ HO_10.out))) (Kd.R_lt (ra_ HO_345001.out))) (Kd.R_lt (ra_ HO356.out))) (below_size hb_)); have n6_ := bb_ BK327 hb; have n7_ := bb_ BK344 hb; have n8_ := Aside0.mk (below_step hb_ hb); clear HO_6; clear HO_9; clear HO_10; clear HO_345001; clear HO356; clear BK327; clear BK344; clear HB; have HO_6 := n0_; have HO_9 := n1_; have HO_10 := n2_; have HO_345001 := n3_; have HO356 := n4_; have HO360 := n5_; have BK327 := n6_; have BK344 := n7_; have HB := n8_; clear n0_ n1_ n2_ n3_ n4_ n5_ n6_ n7_ n8_; (try clear hb); (try clear hb2); (try clear hk); (try clear hi); (try clear ho0); obtain ⟨Ao57, co57, eo57⟩ := Kd.R_slice HO360.out; subst eo57) | ((with_reducible refine gate_callee (f := 18) rfl ?_); refine goesL_ (some 60) rfl rfl Try.func18 (by kernel_rfl) rfl #[.slice Ao34 t345.length co34, .slice Ao57 t358.length co57] rfl ls_ ?_; (with_reducible refine (laws_eqIntS.calls kj15 _ _ t345 _ _ t358 true _ ?side1 ?side2 ?side3 ?side4 A47.out).mono ?_); (case side1 => exact ca_ (Kd.R_reads' HO_9.out).2.2); (case side2 => exact (Kd.R_reads' HO_9.out).2.1); (case side3 => exact ca_ (Kd.R_reads' HO360.out).2.2); (case side4 => exact (Kd.R_reads' HO360.out).2.1); rintro e w' ⟨rfl, ⟨nd, rfl⟩⟩; refine ⟨_, rfl, ?_⟩; have hnb58 := NB344_327.out; have hnc58 := NB327_344.out; have hcz59_0 : w56.cell? ⟨gb344, 0, none⟩ = some (.int .i64 t340) := (blk_cell BK344.out 0).trans rfl; have hcz59_1 : w56.cell? ⟨gb344, 1, none⟩ = some (.slice Ao31 t341.length co31) := (blk_cell BK344.out 1).trans rfl; have hfz59_0 := blk_frozen BK344.out 0; have hfz59_1 := blk_frozen BK344.out 1) | ((with_reducible refine gate_callee (f := 21) rfl ?_); refine goesL_ (some 64) rfl rfl Try.func21 (by kernel_rfl) rfl #[.agg #[.int .i64 t340, .slice Ao31 t341.length co31], .int .i64 1] rfl ls_ ?_; (with_reducible refine (laws_markCells.calls kj15 t340 (fun k_ => some k_ = (.slice Ao31 t341.length co31 : Value).ownBlock) (.slice Ao31 t341.length co31) t341 1 t362 t363 w _ ?side1 ?side2 A49.out).mono ?_); (case side1 => repeat (first | (with_reducible first | exact HB.out | apply below_alloc | apply pw_below_drewN | apply below_drew1 | refine below_set ?_ GE327.out | refine below_set ?_ GE344.out) | exact HB.out)); (case side2 => exact Kd.R_tight rfl HO_345001.out); rintro e w60 ⟨rfl, hy0, hb, hkp⟩; refine ⟨_, rfl, ?_⟩; have n0_ := Aside0.mk (Kd.R_mono (ok' := fun k_ => some k_ ≠ (.slice Ao34 t345.length co34 : Value).ownBlock ∧ some k_ ≠ (v349 : Value).ownBlock ∧ some k_ ≠ (.slice Ao31 t341.length co31 : Value).ownBlock ∧ some k_ ≠ (.slice Ao54 t354.length co54 : Value).ownBlock ∧ some k_ ≠ (.slice Ao57 t358.length co57 : Value).ownBlock) (Kd.R_keptB (HO_6.out) hkp (fun k_ hk_ hs_ => (hk_.1.1.2.2) hs_)) (fun k_ hk_ => ⟨hk_.1.1.1.1, hk_.1.1.1.2.1, hk_.1.1.1.2.2, hk_.1.1.2, hk_.1.2⟩)); have n1_ := Aside0.mk (Kd.R_mono (ok' := fun k_ => some k_ ≠ (v337 : Value).ownBlock ∧ some k_ ≠ (v349 : Value).ownBlock ∧ some k_ ≠ (.slice Ao31 t341.length co31 : Value).ownBlock ∧ some k_ ≠ (.slice Ao54 t354.length co54 : Value).ownBlock ∧ some k_ ≠ (.slice Ao57 t358.length co57 : Value).ownBlock) (Kd.R_keptB (HO_9.out) hkp (fun k_ hk_ hs_ => (hk_.1.1.2.2) hs_)) (fun k_ hk_ => ⟨hk_.1.1.1.1, hk_.1.1.1.2.1, hk_.1.1.1.2.2, hk_.1.1.2, hk_.1.2⟩)); have n2_ := Aside0.mk (Kd.R_mono (ok' := fun k_ => some k_ ≠ (v337 : Value).ownBlock ∧ some k_ ≠ (.slice Ao34 t345.length co34 : Value).ownBlock ∧ some k_ ≠ (.slice Ao31 t341.length co31 : Value).ownBlock ∧ some k_ ≠ (.slice Ao54 t354.length co54 : Value).ownBlock ∧ some k_ ≠ (.slice Ao57 t358.length co57 : Value).ownBlock) (Kd.R_keptB (HO_10.out) hkp (fun k_ hk_ hs_ => (hk_.1.1.2.2) hs_)) (fun k_ hk_ => ⟨hk_.1.1.1.1, hk_.1.1.1.2.1, hk_.1.1.1.2.2, hk_.1.1.2, hk_.1.2⟩)); have n3_ := Aside0.mk (Kd.R_reok rfl hy0 (fun k_ e_ => HO_345001.out.1 k_ e_)); have n4_ := Aside0.mk (blk_kept (bk_ BK327.out) hkp (fun hs_ => (fun e_ => (Kd.R_ne HO_345001.out BK327.out (by decide)) e_) hs_)); have n5_ := Aside0.mk (blk_kept (bk_ BK344.out) hkp (fun hs_ => (fun e_ => (Kd.R_ne HO_345001.out BK344.out (by decide)) e_) hs_)); have n6_ := Aside0.mk (Kd.R_mono (ok' := fun k_ => some k_ ≠ (v337 : Value).ownBlock ∧ some k_ ≠ (.slice Ao34 t345.length co34 : Value).ownBlock ∧ some k_ ≠ (v349 : Value).ownBlock ∧ some k_ ≠ (.slice Ao31 t341.length co31 : Value).ownBlock ∧ some k_ ≠ (.slice Ao57 t358.length co57 : Value).ownBlock) (Kd.R_keptB (HO356.out) hkp (fun k_ hk_ hs_ => (hk_.1.2) hs_)) (fun k_ hk_ => ⟨hk_.1.1.1.1.1.2, hk_.1.1.1.1.2, hk_.1.1.1.2, hk_.1.1.2, hk_.1.2⟩)); have n7_ := Aside0.mk (Kd.R_mono (ok' := fun k_ => some k_ ≠ (v337 : Value).ownBlock ∧ some k_ ≠ (.slice Ao34 t345.length co34 : Value).ownBlock ∧ some k_ ≠ (v349 : Value).ownBlock ∧ some k_ ≠ (.slice Ao31 t341.length co31 : Value).ownBlock ∧ some k_ ≠ (.slice Ao54 t354.length co54 : Value).ownBlock) (Kd.R_keptB (HO360.out) hkp (fun k_ hk_ hs_ => (hk_.1.2) hs_)) (fun k_ hk_ => ⟨hk_.1.1.1.1.1.2, hk_.1.1.1.1.2, hk_.1.1.1.2, hk_.1.1.2, hk_.1.2⟩)); have n8_ := Aside0.mk (hb); clear HO_6; clear HO_9; clear HO_10; clear HO_345001; clear BK327; clear BK344; clear HO356; clear HO360; clear HB; have HO_6 := n0_; have HO_9 := n1_; have HO_10 := n2_; have HO_345001 := n3_; have BK327 := n4_; have BK344 := n5_; have HO356 := n6_; have HO360 := n7_; have HB := n8_; clear n0_ n1_ n2_ n3_ n4_ n5_ n6_ n7_ n8_; (try clear hb); (try clear hkp); (try clear hy0)) | ((with_reducible refine gate_callee (f := 22) rfl ?_); refine goesL_ (some 67) rfl rfl Try.func22 (by kernel_rfl) rfl #[.slice Ao34 t345.length co34, .int .i64 t362] rfl ls_ ?_; (with_reducible refine (laws_markIntS.calls kj15 (fun k_ => some k_ = (.slice Ao34 t345.length co34 : Value).ownBlock) (.slice Ao34 t345.length co34) t345 t362 t364 t365 w _ ?side1 ?side2 A50.out).mono ?_); (case side1 => repeat (first | (with_reducible first | exact HB.out | apply below_alloc | apply pw_below_drewN | apply below_drew1 | refine below_set ?_ GE327.out | refine below_set ?_ GE344.out) | exact HB.out)); (case side2 => exact Kd.R_tight rfl HO_9.out); rintro e w61 ⟨rfl, hy0, hb, hkp⟩; refine ⟨_, rfl, ?_⟩; have n0_ := Aside0.mk (Kd.R_mono (ok' := fun k_ => some k_ ≠ (.slice Ao34 t345.length co34 : Value).ownBlock ∧ some k_ ≠ (v349 : Value).ownBlock ∧ some k_ ≠ (.slice Ao31 t341.length co31 : Value).ownBlock ∧ some k_ ≠ (.slice Ao54 t354.length co54 : Value).ownBlock ∧ some k_ ≠ (.slice Ao57 t358.length co57 : Value).ownBlock) (Kd.R_keptB (HO_6.out) hkp (fun k_ hk_ hs_ => (hk_.1) hs_)) (fun k_ hk_ => ⟨hk_.1.1, hk_.1.2.1, hk_.1.2.2.1, hk_.1.2.2.2.1, hk_.1.2.2.2.2⟩)); have n1_ := Aside0.mk (Kd.R_reok rfl hy0 (fun k_ e_ => HO_9.out.1 k_ e_)); have n2_ := Aside0.mk (Kd.R_mono (ok' := fun k_ => some k_ ≠ (v337 : Value).ownBlock ∧ some k_ ≠ (.slice Ao34 t345.length co34 : Value).ownBlock ∧ some k_ ≠ (.slice Ao31 t341.length co31 : Value).ownBlock ∧ some k_ ≠ (.slice Ao54 t354.length co54 : Value).ownBlock ∧ some k_ ≠ (.slice Ao57 t358.length co57 : Value).ownBlock) (Kd.R_keptB (HO_10.out) hkp (fun k_ hk_ hs_ => (hk_.2.1) hs_)) (fun k_ hk_ => ⟨hk_.1.1, hk_.1.2.1, hk_.1.2.2.1, hk_.1.2.2.2.1, hk_.1.2.2.2.2⟩)); have n3_ := Aside0.mk (Kd.R_mono (ok' := fun k_ => some k_ ≠ (v337 : Value).ownBlock ∧ some k_ ≠ (.slice Ao34 t345.length co34 : Value).ownBlock ∧ some k_ ≠ (v349 : Value).ownBlock ∧ some k_ ≠ (.slice Ao54 t354.length co54 : Value).ownBlock ∧ some k_ ≠ (.slice Ao57 t358.length co57 : Value).ownBlock) (Kd.R_keptB (HO_345001.out) hkp (fun k_ hk_ hs_ => (hk_.1.1.2.1) hs_)) (fun k_ hk_ => ⟨hk_.1.1.1.1, hk_.1.1.1.2.1, hk_.1.1.1.2.2, hk_.1.1.2, hk_.1.2⟩)); have n4_ := Aside0.mk (blk_kept (bk_ BK327.out) hkp (fun hs_ => (fun e_ => (Kd.R_ne HO_9.out BK327.out (by decide)) e_) hs_)); have n5_ := Aside0.mk (blk_kept (bk_ BK344.out) hkp (fun hs_ => (fun e_ => (Kd.R_ne HO_9.out BK344.out (by decide)) e_) hs_)); have n6_ := Aside0.mk (Kd.R_mono (ok' := fun k_ => some k_ ≠ (v337 : Value).ownBlock ∧ some k_ ≠ (.slice Ao34 t345.length co34 : Value).ownBlock ∧ some k_ ≠ (v349 : Value).ownBlock ∧ some k_ ≠ (.slice Ao31 t341.length co31 : Value).ownBlock ∧ some k_ ≠ (.slice Ao57 t358.length co57 : Value).ownBlock) (Kd.R_keptB (HO356.out) hkp (fun k_ hk_ hs_ => (hk_.2.1) hs_)) (fun k_ hk_ => ⟨hk_.1.1, hk_.1.2.1, hk_.1.2.2.1, hk_.1.2.2.2.1, hk_.1.2.2.2.2⟩)); have n7_ := Aside0.mk (Kd.R_mono (ok' := fun k_ => some k_ ≠ (v337 : Value).ownBlock ∧ some k_ ≠ (.slice Ao34 t345.length co34 : Value).ownBlock ∧ some k_ ≠ (v349 : Value).ownBlock ∧ some k_ ≠ (.slice Ao31 t341.length co31 : Value).ownBlock ∧ some k_ ≠ (.slice Ao54 t354.length co54 : Value).ownBlock) (Kd.R_keptB (HO360.out) hkp (fun k_ hk_ hs_ => (hk_.2.1) hs_)) (fun k_ hk_ => ⟨hk_.1.1, hk_.1.2.1, hk_.1.2.2.1, hk_.1.2.2.2.1, hk_.1.2.2.2.2⟩)); have n8_ := Aside0.mk (hb); clear HO_6; clear HO_9; clear HO_10; clear HO_345001; clear BK327; clear BK344; clear HO356; clear HO360; clear HB; have HO_6 := n0_; have HO_9 := n1_; have HO_10 := n2_; have HO_345001 := n3_; have BK327 := n4_; have BK344 := n5_; have HO356 := n6_; have HO360 := n7_; have HB := n8_; clear n0_ n1_ n2_ n3_ n4_ n5_ n6_ n7_ n8_; (try clear hb); (try clear hkp); (try clear hy0)))
         (try simp only [Act.put, List.setIfInBounds_toArray, List.set_cons_zero, List.set_cons_succ])
         go_cut [80] (fun v80 wc => ∃ (kq : Nat) (x80_50 : Bool), v80 = .bool x80_50 ∧ Aside0 (laws_FnExactPulledWay.j1 kq l1 t336 t339 t348 x80_50 a0_0 l0_1 = some r) ∧ Aside0 (kq ≤ kj15) ∧ Aside0 (Kd.R (Kd.int .i64) 3 wc w.heap.size (fun k_ => some k_ ≠ (v349 : Value).ownBlock ∧ some k_ ≠ ((.slice Ao31 t341.length co31) : Value).ownBlock) v337 t336) ∧ Aside0 (Kd.R (Kd.int .i64) 3 wc w.heap.size (fun k_ => some k_ ≠ (v337 : Value).ownBlock ∧ some k_ ≠ ((.slice Ao31 t341.length co31) : Value).ownBlock) v349 t348) ∧ Aside0 (Kd.R (Kd.int .i64) 3 wc w.heap.size (fun k_ => some k_ ≠ (v337 : Value).ownBlock ∧ some k_ ≠ (v349 : Value).ownBlock) (.slice Ao31 t341.length co31) t363) ∧ Aside0 (wc.heap[gb327]? = some (.cells #[.int .i64 a0_0, (.slice A0_1 l0_1.length c0_1)] 24 (0, 0))) ∧ Aside0 (wc.heap[gb344]? = some (.cells #[.int .i64 t340, (.slice Ao31 t341.length co31)] 27 (0, 0))) ∧ Aside0 (Below w.heap.size w wc))
         case first =>
          have H := HC51.out
          clear HC51
          by_cases c62 : t364 < 0
          ·rw [if_pos c62] at H
           have c62b0 : decide (t364 < 0) = true := decide_eq_true c62
           clear c62
           (first | rw [c62b0] | (simp only [i64_w, i32_w]; rw [c62b0]) | skip)
           have H' := Aside0.mk H
           clear H
           go_wp2
           go_meet
           case rel => exact ⟨_, (true), es_, H', ⟨by have := HJ15.out; first | omega | exact Nat.le_refl _⟩, ⟨by (with_reducible repeat (first | apply Kd.R_alloc | apply Kd.R_drewN | apply Kd.R_drew)); exact Kd.R_mono HO_6.out (fun _ hk => ⟨hk.2.1, hk.2.2.1⟩)⟩, ⟨by (with_reducible repeat (first | apply Kd.R_alloc | apply Kd.R_drewN | apply Kd.R_drew)); exact Kd.R_mono HO_10.out (fun _ hk => ⟨hk.1, hk.2.2.1⟩)⟩, ⟨by (with_reducible repeat (first | apply Kd.R_alloc | apply Kd.R_drewN | apply Kd.R_drew)); exact Kd.R_mono HO_345001.out (fun _ hk => ⟨hk.1, hk.2.2.1⟩)⟩, ⟨bk_ BK327.out⟩, ⟨bk_ BK344.out⟩, ⟨hb_⟩⟩
          ·rw [if_neg c62] at H
           have c62b0 : decide (t364 < 0) = false := decide_eq_false c62
           clear c62
           (first | rw [c62b0] | (simp only [i64_w, i32_w]; rw [c62b0]) | skip)
           replace H := Option.bind_eq_some_iff.mp H
           obtain ⟨t366, A630, H⟩ := H
           replace H : (if t366 = true then (laws_FnExactPulledWay.j1 kj15 l1 t336 t339 t348 (t351 != t339) a0_0 l0_1) else (laws_FnExactPulledWay.j1 kj15 l1 t336 t339 t348 true a0_0 l0_1)) = some r := H
           have A63 := Aside0.mk A630
           clear A630
           by_cases c64 : t366 = true
           ·subst c64
            rw [if_pos rfl] at H
            have H' := Aside0.mk H
            clear H
            obtain ⟨Ao65, co65, eo65⟩ := Kd.R_slice HO_10.out
            subst eo65
            obtain ⟨Ao66, co66, eo66⟩ := Kd.R_slice HO_6.out
            subst eo66
            go_wp2_with (first | (go_at_call 18; (with_reducible refine (laws_eqIntS.calls kj15 _ _ t348 _ _ t336 true _ ?side1 ?side2 ?side3 ?side4 A63.out).mono ?_); (case side1 => exact ca_ (Kd.R_reads' HO_10.out).2.2); (case side2 => exact (Kd.R_reads' HO_10.out).2.1); (case side3 => exact ca_ (Kd.R_reads' HO_6.out).2.2); (case side4 => exact (Kd.R_reads' HO_6.out).2.1); rintro e w' ⟨rfl, ⟨nd, rfl⟩⟩))
            go_meet
            case rel => exact ⟨_, ((t351 != t339)), es_, H', ⟨by have := HJ15.out; first | omega | exact Nat.le_refl _⟩, ⟨by (with_reducible repeat (first | apply Kd.R_alloc | apply Kd.R_drewN | apply Kd.R_drew)); exact Kd.R_mono HO_6.out (fun _ hk => ⟨hk.2.1, hk.2.2.1⟩)⟩, ⟨by (with_reducible repeat (first | apply Kd.R_alloc | apply Kd.R_drewN | apply Kd.R_drew)); exact Kd.R_mono HO_10.out (fun _ hk => ⟨hk.1, hk.2.2.1⟩)⟩, ⟨by (with_reducible repeat (first | apply Kd.R_alloc | apply Kd.R_drewN | apply Kd.R_drew)); exact Kd.R_mono HO_345001.out (fun _ hk => ⟨hk.1, hk.2.2.1⟩)⟩, ⟨bk_ BK327.out⟩, ⟨bk_ BK344.out⟩, ⟨hb_⟩⟩
           ·replace c64 := Bool.eq_false_iff.mpr c64
            subst c64
            rw [if_neg (show ¬ (false = true) by decide)] at H
            have H' := Aside0.mk H
            clear H
            obtain ⟨Ao67, co67, eo67⟩ := Kd.R_slice HO_10.out
            subst eo67
            obtain ⟨Ao68, co68, eo68⟩ := Kd.R_slice HO_6.out
            subst eo68
            go_wp2_with (first | (go_at_call 18; (with_reducible refine (laws_eqIntS.calls kj15 _ _ t348 _ _ t336 false _ ?side1 ?side2 ?side3 ?side4 A63.out).mono ?_); (case side1 => exact ca_ (Kd.R_reads' HO_10.out).2.2); (case side2 => exact (Kd.R_reads' HO_10.out).2.1); (case side3 => exact ca_ (Kd.R_reads' HO_6.out).2.2); (case side4 => exact (Kd.R_reads' HO_6.out).2.1); rintro e w' ⟨rfl, ⟨nd, rfl⟩⟩))
            go_meet
            case rel => exact ⟨_, (true), es_, H', ⟨by have := HJ15.out; first | omega | exact Nat.le_refl _⟩, ⟨by (with_reducible repeat (first | apply Kd.R_alloc | apply Kd.R_drewN | apply Kd.R_drew)); exact Kd.R_mono HO_6.out (fun _ hk => ⟨hk.2.1, hk.2.2.1⟩)⟩, ⟨by (with_reducible repeat (first | apply Kd.R_alloc | apply Kd.R_drewN | apply Kd.R_drew)); exact Kd.R_mono HO_10.out (fun _ hk => ⟨hk.1, hk.2.2.1⟩)⟩, ⟨by (with_reducible repeat (first | apply Kd.R_alloc | apply Kd.R_drewN | apply Kd.R_drew)); exact Kd.R_mono HO_345001.out (fun _ hk => ⟨hk.1, hk.2.2.1⟩)⟩, ⟨bk_ BK327.out⟩, ⟨bk_ BK344.out⟩, ⟨hb_⟩⟩
         case rest =>
          clear HC51
          try clear c1
          try clear c2
          try clear p2
          try clear c3
          try clear c3b0
          try clear c3b1
          try clear c4
          try clear c5
          try clear c6
          try clear c6b0
          try clear c10
          try clear c12
          try clear c14
          try clear c16
          try clear c18
          try clear c21
          try clear c22
          try clear c24
          try clear c25
          try clear c29
          try clear c37
          try clear c42
          try clear c45
          try clear c48
          try clear c58
          try clear c62
          try clear c62b0
          try clear c64
          try clear hcz18_0
          try clear hcz18_1
          try clear hcz20_0
          try clear hcz20_1
          try clear hcz26_0
          try clear hcz26_1
          try clear hcz30_0
          try clear hcz30_1
          try clear hcz33_0
          try clear hcz33_1
          try clear hcz59_0
          try clear hcz59_1
          try clear hcz8_0
          try clear hcz8_1
          try clear hfz18_0
          try clear hfz18_1
          try clear hfz20_0
          try clear hfz20_1
          try clear hfz26_0
          try clear hfz26_1
          try clear hfz30_0
          try clear hfz30_1
          try clear hfz33_0
          try clear hfz33_1
          try clear hfz59_0
          try clear hfz59_1
          try clear hfz8_0
          try clear hfz8_1
          try clear p2
          obtain ⟨kq, x80_50, rfl, HA, HJ50, HO_6, HO_10, HO_345001, BK327, BK344, HB⟩ := hcut
          have hl345001_50 := (Kd.R_reads' HO_345001.out).1
          rw [hl345001_50] at HO_345001
          (try simp only [hl345001_50])
          (try simp only [hl345001_50] at BK327)
          (try simp only [hl345001_50] at BK344)
          (try simp only [hl345001_50] at HO_6)
          (try simp only [hl345001_50] at HO_10)
          cases kq with
          | zero => exact absurd HA.out (by simp [laws_FnExactPulledWay.j1])
          | succ kj50 =>
           have H := HA.out
           clear HA
           simp only [laws_FnExactPulledWay.j1] at H
           by_cases c69 : x80_50 = true
           ·subst c69
            rw [if_pos rfl] at H
            obtain rfl := Option.some.inj H
            go_wp2
            go_ret
            exact ⟨er_, hb_⟩
           ·replace c69 := Bool.eq_false_iff.mpr c69
            subst c69
            rw [if_neg (show ¬ (false = true) by decide)] at H
            replace H := Option.bind_eq_some_iff.mp H
            obtain ⟨⟨t367, t368⟩, A700, H⟩ := H
            replace H : ((laws_heldIntS.f kj50 t368 1).bind fun t369 => (if t369 < 0 then (some false) else (if t369 = t367 then ((laws_toCells.f kj50 a0_0 l0_1).bind fun bt370 => ((laws_toIntS.f kj50 l1).bind fun t374 => ((impl_PulledWay.f kj50 bt370.1 bt370.2 t374).bind fun bt377 => ((laws_eqIntS.f kj50 bt377.1 t336).bind fun t381 => (if t381 = true then (laws_FnExactPulledWay.j2 kj50 t368 t367 (bt377.2 != t339)) else (laws_FnExactPulledWay.j2 kj50 t368 t367 true)))))) else (some false)))) = some r := H
            have A70 := Aside0.mk A700
            clear A700
            replace H := Option.bind_eq_some_iff.mp H
            obtain ⟨t369, A710, H⟩ := H
            replace H : (if t369 < 0 then (some false) else (if t369 = t367 then ((laws_toCells.f kj50 a0_0 l0_1).bind fun bt370 => ((laws_toIntS.f kj50 l1).bind fun t374 => ((impl_PulledWay.f kj50 bt370.1 bt370.2 t374).bind fun bt377 => ((laws_eqIntS.f kj50 bt377.1 t336).bind fun t381 => (if t381 = true then (laws_FnExactPulledWay.j2 kj50 t368 t367 (bt377.2 != t339)) else (laws_FnExactPulledWay.j2 kj50 t368 t367 true)))))) else (some false))) = some r := H
            have A71 := Aside0.mk A710
            clear A710
            by_cases c72 : t369 < 0
            ·rw [if_pos c72] at H
             have c72b0 : decide (t369 < 0) = true := decide_eq_true c72
             clear c72
             obtain rfl := Option.some.inj H
             obtain ⟨Ao73, co73, eo73⟩ := Kd.R_slice HO_10.out
             subst eo73
             go_wp2_with (first | ((with_reducible refine gate_callee (f := 22) rfl ?_); refine goesL_ (some 83) rfl rfl Try.func22 (by kernel_rfl) rfl #[.slice Ao73 t348.length co73, .int .i64 1] rfl ls_ ?_; (with_reducible refine (laws_markIntS.calls kj50 (fun k_ => some k_ = (.slice Ao73 t348.length co73 : Value).ownBlock) (.slice Ao73 t348.length co73) t348 1 t367 t368 w _ ?side1 ?side2 A70.out).mono ?_); (case side1 => repeat (first | (with_reducible first | exact HB.out | apply below_alloc | apply pw_below_drewN | apply below_drew1 | refine below_set ?_ GE327.out | refine below_set ?_ GE344.out) | exact HB.out)); (case side2 => exact Kd.R_tight rfl HO_10.out); rintro e w74 ⟨rfl, hy0, hb, hkp⟩; refine ⟨_, rfl, ?_⟩; have n0_ := Aside0.mk (Kd.R_mono (ok' := fun k_ => some k_ ≠ (.slice Ao73 t348.length co73 : Value).ownBlock ∧ some k_ ≠ (.slice Ao31 t363.length co31 : Value).ownBlock) (Kd.R_keptB (HO_6.out) hkp (fun k_ hk_ hs_ => (hk_.1) hs_)) (fun k_ hk_ => ⟨hk_.1.1, hk_.1.2⟩)); have n1_ := Aside0.mk (Kd.R_reok rfl hy0 (fun k_ e_ => HO_10.out.1 k_ e_)); have n2_ := Aside0.mk (Kd.R_mono (ok' := fun k_ => some k_ ≠ (v337 : Value).ownBlock ∧ some k_ ≠ (.slice Ao73 t348.length co73 : Value).ownBlock) (Kd.R_keptB (HO_345001.out) hkp (fun k_ hk_ hs_ => (hk_.2) hs_)) (fun k_ hk_ => ⟨hk_.1.1, hk_.1.2⟩)); have n3_ := Aside0.mk (blk_kept (bk_ BK327.out) hkp (fun hs_ => (fun e_ => (Kd.R_ne HO_10.out BK327.out (by decide)) e_) hs_)); have n4_ := Aside0.mk (blk_kept (bk_ BK344.out) hkp (fun hs_ => (fun e_ => (Kd.R_ne HO_10.out BK344.out (by decide)) e_) hs_)); have n5_ := Aside0.mk (hb); clear HO_6; clear HO_10; clear HO_345001; clear BK327; clear BK344; clear HB; have HO_6 := n0_; have HO_10 := n1_; have HO_345001 := n2_; have BK327 := n3_; have BK344 := n4_; have HB := n5_; clear n0_ n1_ n2_ n3_ n4_ n5_; (try clear hb); (try clear hkp); (try clear hy0)) | ((with_reducible refine gate_callee (f := 23) rfl ?_); refine goesL_ (some 86) rfl rfl Try.func23 (by kernel_rfl) rfl #[.slice Ao73 t368.length co73, .int .i64 1] rfl (by (try simp only [List.map_toArray, List.map_cons, List.map_nil]); first | done | (rw [show t368.length = t348.length from (Kd.R_reads' HO_10.out).1.symm] <;> rfl) | rfl | (simp only [List.length_drop, List.length_take]; rfl)) ?_; (with_reducible refine (laws_heldIntS.calls kj50 _ _ t368 1 t369 _ ?side1 ?side2 A71.out).mono ?_); (case side1 => exact ca_ (Kd.R_reads' HO_10.out).2.2); (case side2 => rw [show t368.length = t348.length from (Kd.R_reads' HO_10.out).1.symm]; exact (Kd.R_reads' HO_10.out).2.1); rintro e w' ⟨rfl, ⟨nd, rfl⟩⟩; refine ⟨_, rfl, ?_⟩))
             go_ret
             exact ⟨er_, hb_⟩
            ·rw [if_neg c72] at H
             have c72b0 : decide (t369 < 0) = false := decide_eq_false c72
             clear c72
             by_cases c75 : t369 = t367
             ·rw [if_pos c75] at H
              have c75b0 : (t369 == t367) = true := beq_iff_eq.mpr c75
              have c75b1 : (t369 != t367) = false := bne_eq_false_iff_eq.mpr c75
              clear c75
              replace H := Option.bind_eq_some_iff.mp H
              obtain ⟨⟨t370, t371⟩, A760, H⟩ := H
              replace H : ((laws_toIntS.f kj50 l1).bind fun t374 => ((impl_PulledWay.f kj50 t370 t371 t374).bind fun bt377 => ((laws_eqIntS.f kj50 bt377.1 t336).bind fun t381 => (if t381 = true then (laws_FnExactPulledWay.j2 kj50 t368 t367 (bt377.2 != t339)) else (laws_FnExactPulledWay.j2 kj50 t368 t367 true))))) = some r := H
              have A76 := Aside0.mk A760
              clear A760
              replace H := Option.bind_eq_some_iff.mp H
              obtain ⟨t374, A770, H⟩ := H
              replace H : ((impl_PulledWay.f kj50 t370 t371 t374).bind fun bt377 => ((laws_eqIntS.f kj50 bt377.1 t336).bind fun t381 => (if t381 = true then (laws_FnExactPulledWay.j2 kj50 t368 t367 (bt377.2 != t339)) else (laws_FnExactPulledWay.j2 kj50 t368 t367 true)))) = some r := H
              have A77 := Aside0.mk A770
              clear A770
              replace H := Option.bind_eq_some_iff.mp H
              obtain ⟨⟨t377, t380⟩, A780, H⟩ := H
              replace H : ((laws_eqIntS.f kj50 t377 t336).bind fun t381 => (if t381 = true then (laws_FnExactPulledWay.j2 kj50 t368 t367 (t380 != t339)) else (laws_FnExactPulledWay.j2 kj50 t368 t367 true))) = some r := H
              have A78 := Aside0.mk A780
              clear A780
              have HC79 := Aside0.mk H
              clear H
              obtain ⟨Ao80, co80, eo80⟩ := Kd.R_slice HO_10.out
              subst eo80
              go_upto_region 31 with (first | ((with_reducible refine gate_callee (f := 22) rfl ?_); refine goesL_ (some 83) rfl rfl Try.func22 (by kernel_rfl) rfl #[.slice Ao80 t348.length co80, .int .i64 1] rfl ls_ ?_; (with_reducible refine (laws_markIntS.calls kj50 (fun k_ => some k_ = (.slice Ao80 t348.length co80 : Value).ownBlock) (.slice Ao80 t348.length co80) t348 1 t367 t368 w _ ?side1 ?side2 A70.out).mono ?_); (case side1 => repeat (first | (with_reducible first | exact HB.out | apply below_alloc | apply pw_below_drewN | apply below_drew1 | refine below_set ?_ GE327.out | refine below_set ?_ GE344.out) | exact HB.out)); (case side2 => exact Kd.R_tight rfl HO_10.out); rintro e w81 ⟨rfl, hy0, hb, hkp⟩; refine ⟨_, rfl, ?_⟩; have n0_ := Aside0.mk (Kd.R_mono (ok' := fun k_ => some k_ ≠ (.slice Ao80 t348.length co80 : Value).ownBlock ∧ some k_ ≠ (.slice Ao31 t363.length co31 : Value).ownBlock) (Kd.R_keptB (HO_6.out) hkp (fun k_ hk_ hs_ => (hk_.1) hs_)) (fun k_ hk_ => ⟨hk_.1.1, hk_.1.2⟩)); have n1_ := Aside0.mk (Kd.R_reok rfl hy0 (fun k_ e_ => HO_10.out.1 k_ e_)); have n2_ := Aside0.mk (Kd.R_mono (ok' := fun k_ => some k_ ≠ (v337 : Value).ownBlock ∧ some k_ ≠ (.slice Ao80 t348.length co80 : Value).ownBlock) (Kd.R_keptB (HO_345001.out) hkp (fun k_ hk_ hs_ => (hk_.2) hs_)) (fun k_ hk_ => ⟨hk_.1.1, hk_.1.2⟩)); have n3_ := Aside0.mk (blk_kept (bk_ BK327.out) hkp (fun hs_ => (fun e_ => (Kd.R_ne HO_10.out BK327.out (by decide)) e_) hs_)); have n4_ := Aside0.mk (blk_kept (bk_ BK344.out) hkp (fun hs_ => (fun e_ => (Kd.R_ne HO_10.out BK344.out (by decide)) e_) hs_)); have n5_ := Aside0.mk (hb); clear HO_6; clear HO_10; clear HO_345001; clear BK327; clear BK344; clear HB; have HO_6 := n0_; have HO_10 := n1_; have HO_345001 := n2_; have BK327 := n3_; have BK344 := n4_; have HB := n5_; clear n0_ n1_ n2_ n3_ n4_ n5_; (try clear hb); (try clear hkp); (try clear hy0)) | ((with_reducible refine gate_callee (f := 23) rfl ?_); refine goesL_ (some 86) rfl rfl Try.func23 (by kernel_rfl) rfl #[.slice Ao80 t368.length co80, .int .i64 1] rfl (by (try simp only [List.map_toArray, List.map_cons, List.map_nil]); first | done | (rw [show t368.length = t348.length from (Kd.R_reads' HO_10.out).1.symm] <;> rfl) | rfl | (simp only [List.length_drop, List.length_take]; rfl)) ?_; (with_reducible refine (laws_heldIntS.calls kj50 _ _ t368 1 t369 _ ?side1 ?side2 A71.out).mono ?_); (case side1 => exact ca_ (Kd.R_reads' HO_10.out).2.2); (case side2 => rw [show t368.length = t348.length from (Kd.R_reads' HO_10.out).1.symm]; exact (Kd.R_reads' HO_10.out).2.1); rintro e w' ⟨rfl, ⟨nd, rfl⟩⟩; refine ⟨_, rfl, ?_⟩; have hnb82 := NB327_344.out; have hnc82 := NB344_327.out; have hcz83_0 : w81.cell? ⟨gb327, 0, none⟩ = some (.int .i64 a0_0) := (blk_cell BK327.out 0).trans rfl; have hcz83_1 : w81.cell? ⟨gb327, 1, none⟩ = some (.slice A0_1 l0_1.length c0_1) := (blk_cell BK327.out 1).trans rfl; have hfz83_0 := blk_frozen BK327.out 0; have hfz83_1 := blk_frozen BK327.out 1) | ((with_reducible refine gate_callee (f := 12) rfl ?_); refine goesL_ (some 94) rfl rfl Try.func12 (by kernel_rfl) rfl #[.agg #[.int .i64 a0_0, .slice A0_1 l0_1.length c0_1]] rfl ls_ ?_; (with_reducible refine (laws_toCells.calls kj50 a0_0 _ _ l0_1 t370 t371 _ ?side1 ?side2 A76.out).mono ?_); (case side1 => repeat (first | exact (Kd.C_below HR0_1.out hb_) | (with_reducible refine Kd.C_alloc ?_ _) | (with_reducible refine Kd.C_drewN ?_ _) | (with_reducible refine Kd.C_drew ?_))); (case side2 => exact HC0_1.out); rintro e w84 ⟨v372, rfl, ho0, hb⟩; refine ⟨_, rfl, ?_⟩; have n0_ := Aside0.mk (Kd.R_elder' (ra_ HO_6.out) (Kd.R_base ho0) hb); have n1_ := Aside0.mk (Kd.R_elder' (ra_ HO_10.out) (Kd.R_base ho0) hb); have n2_ := Aside0.mk (Kd.R_elder' (ra_ HO_345001.out) (Kd.R_base ho0) hb); have n3_ := Aside0.mk (Kd.R_lower (Kd.R_new' (Kd.R_new' (Kd.R_new' ho0 (Kd.R_lt (ra_ HO_6.out))) (Kd.R_lt (ra_ HO_10.out))) (Kd.R_lt (ra_ HO_345001.out))) (below_size hb_)); have n4_ := bb_ BK327 hb; have n5_ := bb_ BK344 hb; have n6_ := Aside0.mk (below_step hb_ hb); clear HO_6; clear HO_10; clear HO_345001; clear BK327; clear BK344; clear HB; have HO_6 := n0_; have HO_10 := n1_; have HO_345001 := n2_; have HO373 := n3_; have BK327 := n4_; have BK344 := n5_; have HB := n6_; clear n0_ n1_ n2_ n3_ n4_ n5_ n6_; (try clear hb); (try clear hb2); (try clear hk); (try clear hi); (try clear ho0)) | ((with_reducible refine gate_callee (f := 16) rfl ?_); refine goesL_ (some 96) rfl rfl Try.func16 (by kernel_rfl) rfl #[.slice A1 l1.length c1] rfl ls_ ?_; (with_reducible refine (laws_toIntS.calls kj50 _ _ l1 t374 _ ?side1 ?side2 A77.out).mono ?_); (case side1 => exact cb_ HR1.out); (case side2 => exact HC1.out); rintro e w85 ⟨v375, rfl, ho0, hb⟩; refine ⟨_, rfl, ?_⟩; have n0_ := Aside0.mk (Kd.R_elder' (ra_ HO_6.out) (Kd.R_base ho0) hb); have n1_ := Aside0.mk (Kd.R_elder' (ra_ HO_10.out) (Kd.R_base ho0) hb); have n2_ := Aside0.mk (Kd.R_elder' (ra_ HO_345001.out) (Kd.R_base ho0) hb); have n3_ := Aside0.mk (Kd.R_elder' (ra_ HO373.out) (Kd.R_base ho0) hb); have n4_ := Aside0.mk (Kd.R_lower (Kd.R_new' (Kd.R_new' (Kd.R_new' (Kd.R_new' ho0 (Kd.R_lt (ra_ HO_6.out))) (Kd.R_lt (ra_ HO_10.out))) (Kd.R_lt (ra_ HO_345001.out))) (Kd.R_lt (ra_ HO373.out))) (below_size hb_)); have n5_ := bb_ BK327 hb; have n6_ := bb_ BK344 hb; have n7_ := Aside0.mk (below_step hb_ hb); clear HO_6; clear HO_10; clear HO_345001; clear HO373; clear BK327; clear BK344; clear HB; have HO_6 := n0_; have HO_10 := n1_; have HO_345001 := n2_; have HO373 := n3_; have HO376 := n4_; have BK327 := n5_; have BK344 := n6_; have HB := n7_; clear n0_ n1_ n2_ n3_ n4_ n5_ n6_ n7_; (try clear hb); (try clear hb2); (try clear hk); (try clear hi); (try clear ho0); obtain ⟨Ao86, co86, eo86⟩ := Kd.R_slice HO373.out; subst eo86; obtain ⟨Ao87, co87, eo87⟩ := Kd.R_slice HO376.out; subst eo87) | ((with_reducible refine gate_callee (f := 25) rfl ?_); refine goesL_ (some 97) rfl rfl Try.func25 (by kernel_rfl) rfl #[.agg #[.int .i64 t370, .slice Ao86 t371.length co86], .slice Ao87 t374.length co87] rfl ls_ ?_; (with_reducible refine (impl_PulledWay.calls kj50 t370 _ _ t371 _ _ t374 t377 t380 _ ?side1 ?side2 ?side3 ?side4 A78.out).mono ?_); (case side1 => exact ca_ (Kd.R_reads' HO373.out).2.2); (case side2 => exact (Kd.R_reads' HO373.out).2.1); (case side3 => exact ca_ (Kd.R_reads' HO376.out).2.2); (case side4 => exact (Kd.R_reads' HO376.out).2.1); rintro e w88 ⟨v378, rfl, ho0, hb⟩; refine ⟨_, rfl, ?_⟩; have n0_ := Aside0.mk (Kd.R_elder' (ra_ HO_6.out) (Kd.R_base ho0) hb); have n1_ := Aside0.mk (Kd.R_elder' (ra_ HO_10.out) (Kd.R_base ho0) hb); have n2_ := Aside0.mk (Kd.R_elder' (ra_ HO_345001.out) (Kd.R_base ho0) hb); have n3_ := Aside0.mk (Kd.R_elder' (ra_ HO373.out) (Kd.R_base ho0) hb); have n4_ := Aside0.mk (Kd.R_elder' (ra_ HO376.out) (Kd.R_base ho0) hb); have n5_ := Aside0.mk (Kd.R_lower (Kd.R_new' (Kd.R_new' (Kd.R_new' (Kd.R_new' (Kd.R_new' ho0 (Kd.R_lt (ra_ HO_6.out))) (Kd.R_lt (ra_ HO_10.out))) (Kd.R_lt (ra_ HO_345001.out))) (Kd.R_lt (ra_ HO373.out))) (Kd.R_lt (ra_ HO376.out))) (below_size hb_)); have n6_ := bb_ BK327 hb; have n7_ := bb_ BK344 hb; have n8_ := Aside0.mk (below_step hb_ hb); clear HO_6; clear HO_10; clear HO_345001; clear HO373; clear HO376; clear BK327; clear BK344; clear HB; have HO_6 := n0_; have HO_10 := n1_; have HO_345001 := n2_; have HO373 := n3_; have HO376 := n4_; have HO379 := n5_; have BK327 := n6_; have BK344 := n7_; have HB := n8_; clear n0_ n1_ n2_ n3_ n4_ n5_ n6_ n7_ n8_; (try clear hb); (try clear hb2); (try clear hk); (try clear hi); (try clear ho0)))
              (try simp only [Act.put, List.setIfInBounds_toArray, List.set_cons_zero, List.set_cons_succ])
              go_cut [108] (fun v108 wc => ∃ (kq : Nat) (x108_78 : Bool), v108 = .bool x108_78 ∧ Aside0 (laws_FnExactPulledWay.j2 kq t368 t367 x108_78 = some r) ∧ Aside0 (kq ≤ kj50) ∧ Aside0 (Kd.R (Kd.int .i64) 3 wc w.heap.size (fun k_ => some k_ ≠ ((.slice Ao31 t363.length co31) : Value).ownBlock) (.slice Ao80 t348.length co80) t368) ∧ Aside0 (Kd.R (Kd.int .i64) 3 wc w.heap.size (fun k_ => some k_ ≠ ((.slice Ao80 t348.length co80) : Value).ownBlock) (.slice Ao31 t363.length co31) t363) ∧ Aside0 (wc.heap[gb327]? = some (.cells #[.int .i64 a0_0, (.slice A0_1 l0_1.length c0_1)] 24 (0, 0))) ∧ Aside0 (wc.heap[gb344]? = some (.cells #[.int .i64 t340, (.slice Ao31 t363.length co31)] 27 (0, 0))) ∧ Aside0 (Below w.heap.size w wc))
              case first =>
               have H := HC79.out
               clear HC79
               replace H := Option.bind_eq_some_iff.mp H
               obtain ⟨t381, A890, H⟩ := H
               replace H : (if t381 = true then (laws_FnExactPulledWay.j2 kj50 t368 t367 (t380 != t339)) else (laws_FnExactPulledWay.j2 kj50 t368 t367 true)) = some r := H
               have A89 := Aside0.mk A890
               clear A890
               by_cases c90 : t381 = true
               ·subst c90
                rw [if_pos rfl] at H
                have H' := Aside0.mk H
                clear H
                obtain ⟨Ao91, co91, eo91⟩ := Kd.R_slice HO379.out
                subst eo91
                obtain ⟨Ao92, co92, eo92⟩ := Kd.R_slice HO_6.out
                subst eo92
                go_wp2_with (first | ((with_reducible refine gate_callee (f := 18) rfl ?_); refine goesL_ (some 102) rfl rfl Try.func18 (by kernel_rfl) rfl #[.slice Ao91 t377.length co91, .slice Ao92 t336.length co92] rfl ls_ ?_; (with_reducible refine (laws_eqIntS.calls kj50 _ _ t377 _ _ t336 true _ ?side1 ?side2 ?side3 ?side4 A89.out).mono ?_); (case side1 => exact ca_ (Kd.R_reads' HO379.out).2.2); (case side2 => exact (Kd.R_reads' HO379.out).2.1); (case side3 => exact ca_ (Kd.R_reads' HO_6.out).2.2); (case side4 => exact (Kd.R_reads' HO_6.out).2.1); rintro e w' ⟨rfl, ⟨nd, rfl⟩⟩; refine ⟨_, rfl, ?_⟩))
                go_meet
                case rel => exact ⟨_, ((t380 != t339)), es_, H', ⟨by have := HJ15.out; have := HJ50.out; first | omega | exact Nat.le_refl _⟩, ⟨by (try simp only [hl345001_50]); (with_reducible repeat (first | apply Kd.R_alloc | apply Kd.R_drewN | apply Kd.R_drew)); exact Kd.R_mono HO_10.out (fun _ hk => hk.1.1.1.2)⟩, ⟨by (try simp only [hl345001_50]); (with_reducible repeat (first | apply Kd.R_alloc | apply Kd.R_drewN | apply Kd.R_drew)); exact Kd.R_mono HO_345001.out (fun _ hk => hk.1.1.1.2)⟩, ⟨by (try simp only [hl345001_50]); (with_reducible repeat (first | refine blk_drewN ?_ _ | refine blk_drew ?_ | refine blk_alloc ?_ _)); exact BK327.out⟩, ⟨by (try simp only [hl345001_50]); (with_reducible repeat (first | refine blk_drewN ?_ _ | refine blk_drew ?_ | refine blk_alloc ?_ _)); exact BK344.out⟩, ⟨hb_⟩⟩
               ·replace c90 := Bool.eq_false_iff.mpr c90
                subst c90
                rw [if_neg (show ¬ (false = true) by decide)] at H
                have H' := Aside0.mk H
                clear H
                obtain ⟨Ao93, co93, eo93⟩ := Kd.R_slice HO379.out
                subst eo93
                obtain ⟨Ao94, co94, eo94⟩ := Kd.R_slice HO_6.out
                subst eo94
                go_wp2_with (first | ((with_reducible refine gate_callee (f := 18) rfl ?_); refine goesL_ (some 102) rfl rfl Try.func18 (by kernel_rfl) rfl #[.slice Ao93 t377.length co93, .slice Ao94 t336.length co94] rfl ls_ ?_; (with_reducible refine (laws_eqIntS.calls kj50 _ _ t377 _ _ t336 false _ ?side1 ?side2 ?side3 ?side4 A89.out).mono ?_); (case side1 => exact ca_ (Kd.R_reads' HO379.out).2.2); (case side2 => exact (Kd.R_reads' HO379.out).2.1); (case side3 => exact ca_ (Kd.R_reads' HO_6.out).2.2); (case side4 => exact (Kd.R_reads' HO_6.out).2.1); rintro e w' ⟨rfl, ⟨nd, rfl⟩⟩; refine ⟨_, rfl, ?_⟩))
                go_meet
                case rel => exact ⟨_, (true), es_, H', ⟨by have := HJ15.out; have := HJ50.out; first | omega | exact Nat.le_refl _⟩, ⟨by (try simp only [hl345001_50]); (with_reducible repeat (first | apply Kd.R_alloc | apply Kd.R_drewN | apply Kd.R_drew)); exact Kd.R_mono HO_10.out (fun _ hk => hk.1.1.1.2)⟩, ⟨by (try simp only [hl345001_50]); (with_reducible repeat (first | apply Kd.R_alloc | apply Kd.R_drewN | apply Kd.R_drew)); exact Kd.R_mono HO_345001.out (fun _ hk => hk.1.1.1.2)⟩, ⟨by (try simp only [hl345001_50]); (with_reducible repeat (first | refine blk_drewN ?_ _ | refine blk_drew ?_ | refine blk_alloc ?_ _)); exact BK327.out⟩, ⟨by (try simp only [hl345001_50]); (with_reducible repeat (first | refine blk_drewN ?_ _ | refine blk_drew ?_ | refine blk_alloc ?_ _)); exact BK344.out⟩, ⟨hb_⟩⟩
              case rest =>
               clear HC79
               try clear c1
               try clear c2
               try clear p2
               try clear c3
               try clear c3b0
               try clear c3b1
               try clear c4
               try clear c5
               try clear c6
               try clear c6b0
               try clear c7
               try clear c8
               try clear c9
               try clear c10
               try clear c12
               try clear c14
               try clear c16
               try clear c18
               try clear c21
               try clear c22
               try clear c23
               try clear c24
               try clear c25
               try clear c29
               try clear c37
               try clear c42
               try clear c45
               try clear c48
               try clear c58
               try clear c62
               try clear c62b0
               try clear c64
               try clear c69
               try clear c72
               try clear c72b0
               try clear c75
               try clear c75b0
               try clear c75b1
               try clear c82
               try clear c90
               try clear hcz18_0
               try clear hcz18_1
               try clear hcz20_0
               try clear hcz20_1
               try clear hcz26_0
               try clear hcz26_1
               try clear hcz30_0
               try clear hcz30_1
               try clear hcz33_0
               try clear hcz33_1
               try clear hcz59_0
               try clear hcz59_1
               try clear hcz83_0
               try clear hcz83_1
               try clear hcz8_0
               try clear hcz8_1
               try clear hfz18_0
               try clear hfz18_1
               try clear hfz20_0
               try clear hfz20_1
               try clear hfz26_0
               try clear hfz26_1
               try clear hfz30_0
               try clear hfz30_1
               try clear hfz33_0
               try clear hfz33_1
               try clear hfz59_0
               try clear hfz59_1
               try clear hfz83_0
               try clear hfz83_1
               try clear hfz8_0
               try clear hfz8_1
               try clear p2
               obtain ⟨kq, x108_78, rfl, HA, HJ78, HO_10, HO_345001, BK327, BK344, HB⟩ := hcut
               have hl10_78 := (Kd.R_reads' HO_10.out).1
               rw [hl10_78] at HO_10
               (try simp only [hl10_78])
               (try simp only [hl10_78] at BK327)
               (try simp only [hl10_78] at BK344)
               (try simp only [hl10_78] at HO_345001)
               cases kq with
               | zero => exact absurd HA.out (by simp [laws_FnExactPulledWay.j2])
               | succ kj78 =>
                have H := HA.out
                clear HA
                simp only [laws_FnExactPulledWay.j2] at H
                by_cases c95 : x108_78 = true
                ·subst c95
                 rw [if_pos rfl] at H
                 obtain rfl := Option.some.inj H
                 go_wp2
                 go_ret
                 exact ⟨er_, hb_⟩
                ·replace c95 := Bool.eq_false_iff.mpr c95
                 subst c95
                 rw [if_neg (show ¬ (false = true) by decide)] at H
                 replace H := Option.bind_eq_some_iff.mp H
                 obtain ⟨t382, A960, H⟩ := H
                 replace H : (if t382 < 0 then (some false) else (if t382 = t367 then (some true) else (some false))) = some r := H
                 have A96 := Aside0.mk A960
                 clear A960
                 by_cases c97 : t382 < 0
                 ·rw [if_pos c97] at H
                  have c97b0 : decide (t382 < 0) = true := decide_eq_true c97
                  clear c97
                  obtain rfl := Option.some.inj H
                  go_wp2_with (first | ((with_reducible refine gate_callee (f := 23) rfl ?_); refine goesL_ (some 111) rfl rfl Try.func23 (by kernel_rfl) rfl #[.slice Ao80 t368.length co80, .int .i64 1] rfl ls_ ?_; (with_reducible refine (laws_heldIntS.calls kj78 _ _ t368 1 t382 _ ?side1 ?side2 A96.out).mono ?_); (case side1 => exact ca_ (Kd.R_reads' HO_10.out).2.2); (case side2 => exact (Kd.R_reads' HO_10.out).2.1); rintro e w' ⟨rfl, ⟨nd, rfl⟩⟩; refine ⟨_, rfl, ?_⟩))
                  go_ret
                  exact ⟨er_, hb_⟩
                 ·rw [if_neg c97] at H
                  have c97b0 : decide (t382 < 0) = false := decide_eq_false c97
                  clear c97
                  by_cases c98 : t382 = t367
                  ·rw [if_pos c98] at H
                   have c98b0 : (t382 == t367) = true := beq_iff_eq.mpr c98
                   have c98b1 : (t382 != t367) = false := bne_eq_false_iff_eq.mpr c98
                   clear c98
                   obtain rfl := Option.some.inj H
                   go_wp2_with (first | ((with_reducible refine gate_callee (f := 23) rfl ?_); refine goesL_ (some 111) rfl rfl Try.func23 (by kernel_rfl) rfl #[.slice Ao80 t368.length co80, .int .i64 1] rfl ls_ ?_; (with_reducible refine (laws_heldIntS.calls kj78 _ _ t368 1 t382 _ ?side1 ?side2 A96.out).mono ?_); (case side1 => exact ca_ (Kd.R_reads' HO_10.out).2.2); (case side2 => exact (Kd.R_reads' HO_10.out).2.1); rintro e w' ⟨rfl, ⟨nd, rfl⟩⟩; refine ⟨_, rfl, ?_⟩))
                   go_ret
                   exact ⟨er_, hb_⟩
                  ·rw [if_neg c98] at H
                   have c98b0 : (t382 == t367) = false := beq_eq_false_iff_ne.mpr c98
                   have c98b1 : (t382 != t367) = true := bne_iff_ne.mpr c98
                   obtain rfl := Option.some.inj H
                   go_wp2_with (first | ((with_reducible refine gate_callee (f := 23) rfl ?_); refine goesL_ (some 111) rfl rfl Try.func23 (by kernel_rfl) rfl #[.slice Ao80 t368.length co80, .int .i64 1] rfl ls_ ?_; (with_reducible refine (laws_heldIntS.calls kj78 _ _ t368 1 t382 _ ?side1 ?side2 A96.out).mono ?_); (case side1 => exact ca_ (Kd.R_reads' HO_10.out).2.2); (case side2 => exact (Kd.R_reads' HO_10.out).2.1); rintro e w' ⟨rfl, ⟨nd, rfl⟩⟩; refine ⟨_, rfl, ?_⟩))
                   go_ret
                   exact ⟨er_, hb_⟩
             ·rw [if_neg c75] at H
              have c75b0 : (t369 == t367) = false := beq_eq_false_iff_ne.mpr c75
              have c75b1 : (t369 != t367) = true := bne_iff_ne.mpr c75
              obtain rfl := Option.some.inj H
              obtain ⟨Ao99, co99, eo99⟩ := Kd.R_slice HO_10.out
              subst eo99
              go_wp2_with (first | ((with_reducible refine gate_callee (f := 22) rfl ?_); refine goesL_ (some 83) rfl rfl Try.func22 (by kernel_rfl) rfl #[.slice Ao99 t348.length co99, .int .i64 1] rfl ls_ ?_; (with_reducible refine (laws_markIntS.calls kj50 (fun k_ => some k_ = (.slice Ao99 t348.length co99 : Value).ownBlock) (.slice Ao99 t348.length co99) t348 1 t367 t368 w _ ?side1 ?side2 A70.out).mono ?_); (case side1 => repeat (first | (with_reducible first | exact HB.out | apply below_alloc | apply pw_below_drewN | apply below_drew1 | refine below_set ?_ GE327.out | refine below_set ?_ GE344.out) | exact HB.out)); (case side2 => exact Kd.R_tight rfl HO_10.out); rintro e w100 ⟨rfl, hy0, hb, hkp⟩; refine ⟨_, rfl, ?_⟩; have n0_ := Aside0.mk (Kd.R_mono (ok' := fun k_ => some k_ ≠ (.slice Ao99 t348.length co99 : Value).ownBlock ∧ some k_ ≠ (.slice Ao31 t363.length co31 : Value).ownBlock) (Kd.R_keptB (HO_6.out) hkp (fun k_ hk_ hs_ => (hk_.1) hs_)) (fun k_ hk_ => ⟨hk_.1.1, hk_.1.2⟩)); have n1_ := Aside0.mk (Kd.R_reok rfl hy0 (fun k_ e_ => HO_10.out.1 k_ e_)); have n2_ := Aside0.mk (Kd.R_mono (ok' := fun k_ => some k_ ≠ (v337 : Value).ownBlock ∧ some k_ ≠ (.slice Ao99 t348.length co99 : Value).ownBlock) (Kd.R_keptB (HO_345001.out) hkp (fun k_ hk_ hs_ => (hk_.2) hs_)) (fun k_ hk_ => ⟨hk_.1.1, hk_.1.2⟩)); have n3_ := Aside0.mk (blk_kept (bk_ BK327.out) hkp (fun hs_ => (fun e_ => (Kd.R_ne HO_10.out BK327.out (by decide)) e_) hs_)); have n4_ := Aside0.mk (blk_kept (bk_ BK344.out) hkp (fun hs_ => (fun e_ => (Kd.R_ne HO_10.out BK344.out (by decide)) e_) hs_)); have n5_ := Aside0.mk (hb); clear HO_6; clear HO_10; clear HO_345001; clear BK327; clear BK344; clear HB; have HO_6 := n0_; have HO_10 := n1_; have HO_345001 := n2_; have BK327 := n3_; have BK344 := n4_; have HB := n5_; clear n0_ n1_ n2_ n3_ n4_ n5_; (try clear hb); (try clear hkp); (try clear hy0)) | ((with_reducible refine gate_callee (f := 23) rfl ?_); refine goesL_ (some 86) rfl rfl Try.func23 (by kernel_rfl) rfl #[.slice Ao99 t368.length co99, .int .i64 1] rfl (by (try simp only [List.map_toArray, List.map_cons, List.map_nil]); first | done | (rw [show t368.length = t348.length from (Kd.R_reads' HO_10.out).1.symm] <;> rfl) | rfl | (simp only [List.length_drop, List.length_take]; rfl)) ?_; (with_reducible refine (laws_heldIntS.calls kj50 _ _ t368 1 t369 _ ?side1 ?side2 A71.out).mono ?_); (case side1 => exact ca_ (Kd.R_reads' HO_10.out).2.2); (case side2 => rw [show t368.length = t348.length from (Kd.R_reads' HO_10.out).1.symm]; exact (Kd.R_reads' HO_10.out).2.1); rintro e w' ⟨rfl, ⟨nd, rfl⟩⟩; refine ⟨_, rfl, ?_⟩))
              go_ret
              exact ⟨er_, hb_⟩
        ·replace c48 := Bool.eq_false_iff.mpr c48
         subst c48
         rw [if_neg (show ¬ (false = true) by decide)] at H
         obtain rfl := Option.some.inj H
         try go_wp2
         have n0_ := Aside0.mk (Kd.R_drew HO_6.out)
         have n1_ := Aside0.mk (Kd.R_drew HO_9.out)
         have n2_ := Aside0.mk (Kd.R_drew HO_10.out)
         have n3_ := Aside0.mk (Kd.R_drew HO_345001.out)
         have n4_ := Aside0.mk (blk_drew BK327.out)
         have n5_ := Aside0.mk (blk_drew BK344.out)
         have n6_ := Aside0.mk (below_drew1 HB.out)
         clear HO_6
         clear HO_9
         clear HO_10
         clear HO_345001
         clear BK327
         clear BK344
         clear HB
         have HO_6 := n0_
         have HO_9 := n1_
         have HO_10 := n2_
         have HO_345001 := n3_
         have BK327 := n4_
         have BK344 := n5_
         have HB := n6_
         clear n0_ n1_ n2_ n3_ n4_ n5_ n6_
         refine start_ (n := 5) (S := fun w' => w'.cell? ⟨gb344, 0, none⟩ = some (.int .i64 t340) ∧ w'.cell? ⟨gb344, 1, none⟩ = some (.slice Ao31 t341.length co31) ∧ w'.cell? ⟨gb327, 0, none⟩ = some (.int .i64 a0_0) ∧ w'.cell? ⟨gb327, 1, none⟩ = some (.slice A0_1 l0_1.length c0_1)) (ds := []) #[false, false, false, false, false] (by kernel_rfl) rfl rfl ⟨(blk_cell BK344.out 0).trans rfl, (blk_cell BK344.out 1).trans rfl, (blk_cell BK327.out 0).trans rfl, (blk_cell BK327.out 1).trans rfl⟩ (fun hHeld => ?_)
         generalize wc.drew = w101 at HO_6 HO_9 HO_10 HO_345001 BK327 BK344 HB hHeld ⊢
         refine take_ (i := 0) (N := some 52) (v := ?_) (a' := ?_) #[true, false, false, false, false] rfl rfl (by kernel_rfl) (fun _ _ _ h => h) (Or.inl ⟨by rfl, ?_⟩) hHeld ?_ ?_
         rotate_left
         ·rintro w' ⟨s0, s1, s2, s3⟩
          go_simp
          with_reducible rfl
         rotate_left
         ·simp only [Act.put, List.setIfInBounds_toArray, List.set_cons_zero, List.set_cons_succ, i64_w, i32_w]
          rfl
         refine take_ (i := 1) (N := some 53) (v := ?_) (a' := ?_) #[true, true, false, false, false] rfl rfl (by kernel_rfl) (fun _ _ _ h => h) (Or.inl ⟨by rfl, ?_⟩) hHeld ?_ ?_
         rotate_left
         ·rintro w' ⟨s0, s1, s2, s3⟩
          go_simp
          with_reducible rfl
         rotate_left
         ·simp only [Act.put, List.setIfInBounds_toArray, List.set_cons_zero, List.set_cons_succ, i64_w, i32_w]
          rfl
         refine one_ (i := 2) (N := some 54) #[true, true, true, false, false] rfl rfl (by kernel_rfl) (by decide) (fun K hK => ?_)
         refine goes_ Try.func12 (by kernel_rfl) rfl #[.agg #[.int .i64 a0_0, .slice A0_1 l0_1.length c0_1]] (by rfl) rfl rfl ls_ ?_
         with_reducible refine (laws_toCells.calls kj15 a0_0 _ _ l0_1 t353 t354 _ ?side1 ?side2 A43.out).mono ?_
         (case side1 => exact cb_ HR0_1.out)
         (case side2 => exact HC0_1.out)
         rintro e w102 ⟨v355, rfl, ho0, hb⟩
         refine ⟨_, rfl, ?_⟩
         have n0_ := Aside0.mk (Kd.R_elder' (ra_ HO_6.out) (Kd.R_base ho0) hb)
         have n1_ := Aside0.mk (Kd.R_elder' (ra_ HO_9.out) (Kd.R_base ho0) hb)
         have n2_ := Aside0.mk (Kd.R_elder' (ra_ HO_10.out) (Kd.R_base ho0) hb)
         have n3_ := Aside0.mk (Kd.R_elder' (ra_ HO_345001.out) (Kd.R_base ho0) hb)
         have n4_ := Aside0.mk (Kd.R_lower (Kd.R_new' (Kd.R_new' (Kd.R_new' (Kd.R_new' ho0 (Kd.R_lt (ra_ HO_6.out))) (Kd.R_lt (ra_ HO_9.out))) (Kd.R_lt (ra_ HO_10.out))) (Kd.R_lt (ra_ HO_345001.out))) (below_size hb_))
         have n5_ := bb_ BK327 hb
         have n6_ := bb_ BK344 hb
         have n7_ := Aside0.mk (below_step hb_ hb)
         clear HO_6
         clear HO_9
         clear HO_10
         clear HO_345001
         clear BK327
         clear BK344
         clear HB
         have HO_6 := n0_
         have HO_9 := n1_
         have HO_10 := n2_
         have HO_345001 := n3_
         have HO356 := n4_
         have BK327 := n5_
         have BK344 := n6_
         have HB := n7_
         clear n0_ n1_ n2_ n3_ n4_ n5_ n6_ n7_
         (try clear hb)
         (try clear hb2)
         (try clear hk)
         (try clear hi)
         (try clear ho0)
         obtain ⟨Ao103, co103, eo103⟩ := Kd.R_slice HO356.out
         (first | subst eo103 | (injection eo103 with f1_ f2_ f3_; have f4_ := f1_.symm; have f5_ := f3_.symm; clear f1_ f2_ f3_; subst f4_; subst f5_))
         refine hK.out _ _ ⟨(blk_cell BK344.out 0).trans rfl, (blk_cell BK344.out 1).trans rfl, (blk_cell BK327.out 0).trans rfl, (blk_cell BK327.out 1).trans rfl⟩ (fun hHeld => ?_)
         clear hK K
         refine norm_ (a' := ?_) ?_ ?_
         rotate_left
         ·show Act.put _ (some 54) _ = _
          simp only [Act.put, List.setIfInBounds_toArray, List.set_cons_zero, List.set_cons_succ, i64_w, i32_w]
          rfl
         refine one_ (i := 3) (N := some 55) #[true, true, true, true, false] rfl rfl (by kernel_rfl) (by decide) (fun K hK => ?_)
         refine goes_ Try.func14 (by kernel_rfl) rfl #[.agg #[.int .i64 t340, .slice Ao31 t341.length co31], .agg #[.int .i64 t353, .slice Ao103 t354.length co103]] (by rfl) rfl rfl ls_ ?_
         with_reducible refine (laws_eqCells.calls kj15 t340 _ _ t341 t353 _ _ t354 true _ ?side1 ?side2 ?side3 ?side4 A44.out).mono ?_
         (case side1 => exact ca_ (Kd.R_reads' HO_345001.out).2.2)
         (case side2 => exact (Kd.R_reads' HO_345001.out).2.1)
         (case side3 => exact ca_ (Kd.R_reads' HO356.out).2.2)
         (case side4 => exact (Kd.R_reads' HO356.out).2.1)
         rintro e w104 ⟨rfl, hb⟩
         refine ⟨_, rfl, ?_⟩
         have n0_ := Aside0.mk (Kd.R_below (ra_ HO_6.out) hb)
         have n1_ := Aside0.mk (Kd.R_below (ra_ HO_9.out) hb)
         have n2_ := Aside0.mk (Kd.R_below (ra_ HO_10.out) hb)
         have n3_ := Aside0.mk (Kd.R_below (ra_ HO_345001.out) hb)
         have n4_ := Aside0.mk (Kd.R_below (ra_ HO356.out) hb)
         have n5_ := bb_ BK327 hb
         have n6_ := bb_ BK344 hb
         have n7_ := Aside0.mk (below_step hb_ hb)
         clear HO_6
         clear HO_9
         clear HO_10
         clear HO_345001
         clear HO356
         clear BK327
         clear BK344
         clear HB
         have HO_6 := n0_
         have HO_9 := n1_
         have HO_10 := n2_
         have HO_345001 := n3_
         have HO356 := n4_
         have BK327 := n5_
         have BK344 := n6_
         have HB := n7_
         clear n0_ n1_ n2_ n3_ n4_ n5_ n6_ n7_
         (try clear hb)
         (try clear hb2)
         (try clear hk)
         (try clear hi)
         refine hK.out _ _ ⟨(blk_cell BK344.out 0).trans rfl, (blk_cell BK344.out 1).trans rfl, (blk_cell BK327.out 0).trans rfl, (blk_cell BK327.out 1).trans rfl⟩ (fun hHeld => ?_)
         clear hK K
         refine norm_ (a' := ?_) ?_ ?_
         rotate_left
         ·show Act.put _ (some 55) _ = _
          simp only [Act.put, List.setIfInBounds_toArray, List.set_cons_zero, List.set_cons_succ, i64_w, i32_w]
          rfl
         refine pure_ (i := 4) (N := some 56) (v := ?_) (a' := ?_) #[true, true, true, true, true] rfl rfl (by kernel_rfl) (fun _ _ _ h => h) (Or.inl ⟨by rfl, ?_⟩) ?_ ?_
         rotate_left
         ·intro w'
          go_simp
          with_reducible rfl
         rotate_left
         ·simp only [Act.put, List.setIfInBounds_toArray, List.set_cons_zero, List.set_cons_succ, i64_w, i32_w]
          rfl
         refine done_ (by kernel_rfl) ?_
         try go_wp2_with (first | ((with_reducible refine gate_callee (f := 16) rfl ?_); refine goesL_ (some 59) rfl rfl Try.func16 (by kernel_rfl) rfl #[.slice A1 l1.length c1] rfl ls_ ?_; (with_reducible refine (laws_toIntS.calls kj15 _ _ l1 t358 _ ?side1 ?side2 A46.out).mono ?_); (case side1 => exact cb_ HR1.out); (case side2 => exact HC1.out); rintro e w105 ⟨v359, rfl, ho0, hb⟩; refine ⟨_, rfl, ?_⟩; have n0_ := Aside0.mk (Kd.R_elder' (ra_ HO_6.out) (Kd.R_base ho0) hb); have n1_ := Aside0.mk (Kd.R_elder' (ra_ HO_9.out) (Kd.R_base ho0) hb); have n2_ := Aside0.mk (Kd.R_elder' (ra_ HO_10.out) (Kd.R_base ho0) hb); have n3_ := Aside0.mk (Kd.R_elder' (ra_ HO_345001.out) (Kd.R_base ho0) hb); have n4_ := Aside0.mk (Kd.R_elder' (ra_ HO356.out) (Kd.R_base ho0) hb); have n5_ := Aside0.mk (Kd.R_lower (Kd.R_new' (Kd.R_new' (Kd.R_new' (Kd.R_new' (Kd.R_new' ho0 (Kd.R_lt (ra_ HO_6.out))) (Kd.R_lt (ra_ HO_9.out))) (Kd.R_lt (ra_ HO_10.out))) (Kd.R_lt (ra_ HO_345001.out))) (Kd.R_lt (ra_ HO356.out))) (below_size hb_)); have n6_ := bb_ BK327 hb; have n7_ := bb_ BK344 hb; have n8_ := Aside0.mk (below_step hb_ hb); clear HO_6; clear HO_9; clear HO_10; clear HO_345001; clear HO356; clear BK327; clear BK344; clear HB; have HO_6 := n0_; have HO_9 := n1_; have HO_10 := n2_; have HO_345001 := n3_; have HO356 := n4_; have HO360 := n5_; have BK327 := n6_; have BK344 := n7_; have HB := n8_; clear n0_ n1_ n2_ n3_ n4_ n5_ n6_ n7_ n8_; (try clear hb); (try clear hb2); (try clear hk); (try clear hi); (try clear ho0); obtain ⟨Ao106, co106, eo106⟩ := Kd.R_slice HO360.out; subst eo106) | ((with_reducible refine gate_callee (f := 18) rfl ?_); refine goesL_ (some 60) rfl rfl Try.func18 (by kernel_rfl) rfl #[.slice Ao34 t345.length co34, .slice Ao106 t358.length co106] rfl ls_ ?_; (with_reducible refine (laws_eqIntS.calls kj15 _ _ t345 _ _ t358 false _ ?side1 ?side2 ?side3 ?side4 A47.out).mono ?_); (case side1 => exact ca_ (Kd.R_reads' HO_9.out).2.2); (case side2 => exact (Kd.R_reads' HO_9.out).2.1); (case side3 => exact ca_ (Kd.R_reads' HO360.out).2.2); (case side4 => exact (Kd.R_reads' HO360.out).2.1); rintro e w' ⟨rfl, ⟨nd, rfl⟩⟩; refine ⟨_, rfl, ?_⟩))
         go_ret
         exact ⟨er_, hb_⟩
       ·replace c45 := Bool.eq_false_iff.mpr c45
        subst c45
        rw [if_neg (show ¬ (false = true) by decide)] at H
        obtain rfl := Option.some.inj H
        try go_wp2
        have n0_ := Aside0.mk (Kd.R_drew HO_6.out)
        have n1_ := Aside0.mk (Kd.R_drew HO_9.out)
        have n2_ := Aside0.mk (Kd.R_drew HO_10.out)
        have n3_ := Aside0.mk (Kd.R_drew HO_345001.out)
        have n4_ := Aside0.mk (blk_drew BK327.out)
        have n5_ := Aside0.mk (blk_drew BK344.out)
        have n6_ := Aside0.mk (below_drew1 HB.out)
        clear HO_6
        clear HO_9
        clear HO_10
        clear HO_345001
        clear BK327
        clear BK344
        clear HB
        have HO_6 := n0_
        have HO_9 := n1_
        have HO_10 := n2_
        have HO_345001 := n3_
        have BK327 := n4_
        have BK344 := n5_
        have HB := n6_
        clear n0_ n1_ n2_ n3_ n4_ n5_ n6_
        refine start_ (n := 5) (S := fun w' => w'.cell? ⟨gb344, 0, none⟩ = some (.int .i64 t340) ∧ w'.cell? ⟨gb344, 1, none⟩ = some (.slice Ao31 t341.length co31) ∧ w'.cell? ⟨gb327, 0, none⟩ = some (.int .i64 a0_0) ∧ w'.cell? ⟨gb327, 1, none⟩ = some (.slice A0_1 l0_1.length c0_1)) (ds := []) #[false, false, false, false, false] (by kernel_rfl) rfl rfl ⟨(blk_cell BK344.out 0).trans rfl, (blk_cell BK344.out 1).trans rfl, (blk_cell BK327.out 0).trans rfl, (blk_cell BK327.out 1).trans rfl⟩ (fun hHeld => ?_)
        generalize wc.drew = w107 at HO_6 HO_9 HO_10 HO_345001 BK327 BK344 HB hHeld ⊢
        refine take_ (i := 0) (N := some 52) (v := ?_) (a' := ?_) #[true, false, false, false, false] rfl rfl (by kernel_rfl) (fun _ _ _ h => h) (Or.inl ⟨by rfl, ?_⟩) hHeld ?_ ?_
        rotate_left
        ·rintro w' ⟨s0, s1, s2, s3⟩
         go_simp
         with_reducible rfl
        rotate_left
        ·simp only [Act.put, List.setIfInBounds_toArray, List.set_cons_zero, List.set_cons_succ, i64_w, i32_w]
         rfl
        refine take_ (i := 1) (N := some 53) (v := ?_) (a' := ?_) #[true, true, false, false, false] rfl rfl (by kernel_rfl) (fun _ _ _ h => h) (Or.inl ⟨by rfl, ?_⟩) hHeld ?_ ?_
        rotate_left
        ·rintro w' ⟨s0, s1, s2, s3⟩
         go_simp
         with_reducible rfl
        rotate_left
        ·simp only [Act.put, List.setIfInBounds_toArray, List.set_cons_zero, List.set_cons_succ, i64_w, i32_w]
         rfl
        refine one_ (i := 2) (N := some 54) #[true, true, true, false, false] rfl rfl (by kernel_rfl) (by decide) (fun K hK => ?_)
        refine goes_ Try.func12 (by kernel_rfl) rfl #[.agg #[.int .i64 a0_0, .slice A0_1 l0_1.length c0_1]] (by rfl) rfl rfl ls_ ?_
        with_reducible refine (laws_toCells.calls kj15 a0_0 _ _ l0_1 t353 t354 _ ?side1 ?side2 A43.out).mono ?_
        (case side1 => exact cb_ HR0_1.out)
        (case side2 => exact HC0_1.out)
        rintro e w108 ⟨v355, rfl, ho0, hb⟩
        refine ⟨_, rfl, ?_⟩
        have n0_ := Aside0.mk (Kd.R_elder' (ra_ HO_6.out) (Kd.R_base ho0) hb)
        have n1_ := Aside0.mk (Kd.R_elder' (ra_ HO_9.out) (Kd.R_base ho0) hb)
        have n2_ := Aside0.mk (Kd.R_elder' (ra_ HO_10.out) (Kd.R_base ho0) hb)
        have n3_ := Aside0.mk (Kd.R_elder' (ra_ HO_345001.out) (Kd.R_base ho0) hb)
        have n4_ := Aside0.mk (Kd.R_lower (Kd.R_new' (Kd.R_new' (Kd.R_new' (Kd.R_new' ho0 (Kd.R_lt (ra_ HO_6.out))) (Kd.R_lt (ra_ HO_9.out))) (Kd.R_lt (ra_ HO_10.out))) (Kd.R_lt (ra_ HO_345001.out))) (below_size hb_))
        have n5_ := bb_ BK327 hb
        have n6_ := bb_ BK344 hb
        have n7_ := Aside0.mk (below_step hb_ hb)
        clear HO_6
        clear HO_9
        clear HO_10
        clear HO_345001
        clear BK327
        clear BK344
        clear HB
        have HO_6 := n0_
        have HO_9 := n1_
        have HO_10 := n2_
        have HO_345001 := n3_
        have HO356 := n4_
        have BK327 := n5_
        have BK344 := n6_
        have HB := n7_
        clear n0_ n1_ n2_ n3_ n4_ n5_ n6_ n7_
        (try clear hb)
        (try clear hb2)
        (try clear hk)
        (try clear hi)
        (try clear ho0)
        obtain ⟨Ao109, co109, eo109⟩ := Kd.R_slice HO356.out
        (first | subst eo109 | (injection eo109 with f1_ f2_ f3_; have f4_ := f1_.symm; have f5_ := f3_.symm; clear f1_ f2_ f3_; subst f4_; subst f5_))
        refine hK.out _ _ ⟨(blk_cell BK344.out 0).trans rfl, (blk_cell BK344.out 1).trans rfl, (blk_cell BK327.out 0).trans rfl, (blk_cell BK327.out 1).trans rfl⟩ (fun hHeld => ?_)
        clear hK K
        refine norm_ (a' := ?_) ?_ ?_
        rotate_left
        ·show Act.put _ (some 54) _ = _
         simp only [Act.put, List.setIfInBounds_toArray, List.set_cons_zero, List.set_cons_succ, i64_w, i32_w]
         rfl
        refine one_ (i := 3) (N := some 55) #[true, true, true, true, false] rfl rfl (by kernel_rfl) (by decide) (fun K hK => ?_)
        refine goes_ Try.func14 (by kernel_rfl) rfl #[.agg #[.int .i64 t340, .slice Ao31 t341.length co31], .agg #[.int .i64 t353, .slice Ao109 t354.length co109]] (by rfl) rfl rfl ls_ ?_
        with_reducible refine (laws_eqCells.calls kj15 t340 _ _ t341 t353 _ _ t354 false _ ?side1 ?side2 ?side3 ?side4 A44.out).mono ?_
        (case side1 => exact ca_ (Kd.R_reads' HO_345001.out).2.2)
        (case side2 => exact (Kd.R_reads' HO_345001.out).2.1)
        (case side3 => exact ca_ (Kd.R_reads' HO356.out).2.2)
        (case side4 => exact (Kd.R_reads' HO356.out).2.1)
        rintro e w110 ⟨rfl, hb⟩
        refine ⟨_, rfl, ?_⟩
        have n0_ := Aside0.mk (Kd.R_below (ra_ HO_6.out) hb)
        have n1_ := Aside0.mk (Kd.R_below (ra_ HO_9.out) hb)
        have n2_ := Aside0.mk (Kd.R_below (ra_ HO_10.out) hb)
        have n3_ := Aside0.mk (Kd.R_below (ra_ HO_345001.out) hb)
        have n4_ := Aside0.mk (Kd.R_below (ra_ HO356.out) hb)
        have n5_ := bb_ BK327 hb
        have n6_ := bb_ BK344 hb
        have n7_ := Aside0.mk (below_step hb_ hb)
        clear HO_6
        clear HO_9
        clear HO_10
        clear HO_345001
        clear HO356
        clear BK327
        clear BK344
        clear HB
        have HO_6 := n0_
        have HO_9 := n1_
        have HO_10 := n2_
        have HO_345001 := n3_
        have HO356 := n4_
        have BK327 := n5_
        have BK344 := n6_
        have HB := n7_
        clear n0_ n1_ n2_ n3_ n4_ n5_ n6_ n7_
        (try clear hb)
        (try clear hb2)
        (try clear hk)
        (try clear hi)
        refine hK.out _ _ ⟨(blk_cell BK344.out 0).trans rfl, (blk_cell BK344.out 1).trans rfl, (blk_cell BK327.out 0).trans rfl, (blk_cell BK327.out 1).trans rfl⟩ (fun hHeld => ?_)
        clear hK K
        refine norm_ (a' := ?_) ?_ ?_
        rotate_left
        ·show Act.put _ (some 55) _ = _
         simp only [Act.put, List.setIfInBounds_toArray, List.set_cons_zero, List.set_cons_succ, i64_w, i32_w]
         rfl
        refine pure_ (i := 4) (N := some 56) (v := ?_) (a' := ?_) #[true, true, true, true, true] rfl rfl (by kernel_rfl) (fun _ _ _ h => h) (Or.inl ⟨by rfl, ?_⟩) ?_ ?_
        rotate_left
        ·intro w'
         go_simp
         with_reducible rfl
        rotate_left
        ·simp only [Act.put, List.setIfInBounds_toArray, List.set_cons_zero, List.set_cons_succ, i64_w, i32_w]
         rfl
        refine done_ (by kernel_rfl) ?_
        try go_wp2
        go_ret
        exact ⟨er_, hb_⟩

end Go.Proofs.Ytjcmlggdaajicaa.Pr
