-- Written by this session's own print (wip/tools/mkmp.py) out of the translation. Lean checks it.
import Derived.Test.YtcldlljnaijmhaaPr0
import Derived.Test.YtcldlljnaijmhaaPr10
import Derived.Test.YtcldlljnaijmhaaPr12
import Derived.Test.YtcldlljnaijmhaaPr13
import Derived.Test.YtcldlljnaijmhaaPr15
import Derived.Test.YtcldlljnaijmhaaPr16
import Derived.Test.YtcldlljnaijmhaaPr17
import Derived.Test.YtcldlljnaijmhaaPrd1
namespace Go.Proofs.Ytcldlljnaijmhaa.Pr
open Go.RowKit Go.Proofs.YtcldlljnaijmhaaW.PrintWords Go.Proofs.YtcldlljnaijmhaaW.PrintLast Go.Proofs.YtcldlljnaijmhaaW.PrintMore
attribute [local go_sem] max2_int min2_int max_two min_two max_three min_three max_four min_four   -- for this text's walks alone
set_option linter.unusedVariables false
set_option linter.unusedSimpArgs false

set_option maxHeartbeats 8000000 in
set_option maxRecDepth 100000 in
theorem laws_FnExactGoodTrips.calls (k : Nat) (a0_0 : Int) (A0_1 : Option Addr) (c0_1 : Nat) (l0_1 : List Int) (A1 : Option Addr) (c1 : Nat) (l1 : List (S47)) (r : Bool) (w : World) (hr0_1 : Kd.C (Kd.int .i64) w A0_1 l0_1.length l0_1) (hc0_1 : l0_1.length ≤ c0_1) (hr1 : Kd.C k47 w A1 l1.length l1) (hc1 : l1.length ≤ c1) (h : laws_FnExactGoodTrips.f k a0_0 l0_1 l1 = some r) :
   Calls Try.prog 5 #[.agg #[.int .i64 a0_0, .slice A0_1 l0_1.length c0_1], .slice A1 l1.length c1] w fun e w' => e = .returned (.bool r) ∧ Below w.heap.size w w' := by
  have hu34 := Try.underlying34
  have hu39 := Try.underlying39
  have HR0_1 := Aside0.mk hr0_1
  have HC0_1 := Aside0.mk hc0_1
  clear hr0_1 hc0_1
  have HR1 := Aside0.mk hr1
  have HC1 := Aside0.mk hc1
  clear hr1 hc1
  have HB := Aside0.mk (Below.refl w.heap.size w)
  have H : ((laws_szCells.f a0_0 l0_1 1048576).bind fun t278 => (if t278 < 0 then (some true) else ((laws_szTripS.f l1 t278).bind fun t279 => (if t279 < 0 then (some true) else ((laws_toCells.f k a0_0 l0_1).bind fun bt280 => ((laws_toTripS.f k l1).bind fun t284 => ((spec_GoodTrips.f k bt280.1 bt280.2 t284).bind fun t287 => ((laws_toCells.f k a0_0 l0_1).bind fun bt288 => ((laws_toTripS.f k l1).bind fun t293 => ((impl_GoodTrips.f k bt288.1 bt288.2 t293).bind fun t296 => (if (t296 != t287) = true then (some false) else ((laws_toCells.f k a0_0 l0_1).bind fun bt297 => ((laws_eqCells.f k bt288.1 bt288.2 bt297.1 bt297.2).bind fun t301 => (if t301 = true then ((laws_toTripS.f k l1).bind fun t302 => ((laws_eqTripS.f k t293 t302).bind fun t305 => (if t305 = true then (some true) else (some false)))) else (some false))))))))))))))) = some r := h
  clear h
  replace H := Option.bind_eq_some_iff.mp H
  obtain ⟨t278, A30, H⟩ := H
  replace H : (if t278 < 0 then (some true) else ((laws_szTripS.f l1 t278).bind fun t279 => (if t279 < 0 then (some true) else ((laws_toCells.f k a0_0 l0_1).bind fun bt280 => ((laws_toTripS.f k l1).bind fun t284 => ((spec_GoodTrips.f k bt280.1 bt280.2 t284).bind fun t287 => ((laws_toCells.f k a0_0 l0_1).bind fun bt288 => ((laws_toTripS.f k l1).bind fun t293 => ((impl_GoodTrips.f k bt288.1 bt288.2 t293).bind fun t296 => (if (t296 != t287) = true then (some false) else ((laws_toCells.f k a0_0 l0_1).bind fun bt297 => ((laws_eqCells.f k bt288.1 bt288.2 bt297.1 bt297.2).bind fun t301 => (if t301 = true then ((laws_toTripS.f k l1).bind fun t302 => ((laws_eqTripS.f k t293 t302).bind fun t305 => (if t305 = true then (some true) else (some false)))) else (some false)))))))))))))) = some r := H
  have A3 := Aside0.mk A30
  clear A30
  by_cases c4 : t278 < 0
  ·rw [if_pos c4] at H
   have c4b0 : decide (t278 < 0) = true := decide_eq_true c4
   clear c4
   obtain rfl := Option.some.inj H
   go_enter Try.func5, Try.ntmps5
   go_wp2_with (first | ((with_reducible refine gate_dst (N := 2) rfl ?_); refine box_event ?hg (N := 2) ?hd (cs := #[.int .i64 a0_0, .slice A0_1 l0_1.length c0_1]) (t := 34) ?hr ?_; (case hd => rfl); (case hg => rfl); (case hr => first | (go_simp; done) | (go_simp; rfl)); intro gb277 hg w5 hbox hb; have n0_ := Aside0.mk (below_step hb_ hb); have n1_ := Aside0.mk (hbox); have n2_ : Aside0 (w.heap.size ≤ gb277) := gz_; have n3_ : Aside0 (w.heap.size ≤ gb277) := gz_; clear HB; have HB := n0_; have BK277 := n1_; have GW277 := n2_; have GE277 := n3_; clear n0_ n1_ n2_ n3_; clear hb hbox hg; have hcz6_0 : w5.cell? ⟨gb277, 0, none⟩ = some (.int .i64 a0_0) := (blk_cell BK277.out 0).trans rfl; have hcz6_1 : w5.cell? ⟨gb277, 1, none⟩ = some (.slice A0_1 l0_1.length c0_1) := (blk_cell BK277.out 1).trans rfl; have hfz6_0 := blk_frozen BK277.out 0; have hfz6_1 := blk_frozen BK277.out 1) | ((with_reducible refine gate_callee (f := 23) rfl ?_); refine goesL_ (some 12) rfl rfl Try.func23 (by kernel_rfl) rfl #[.agg #[.int .i64 a0_0, .slice A0_1 l0_1.length c0_1], .int .i64 1048576] rfl ls_ ?_; (with_reducible refine (laws_szCells.calls a0_0 _ _ l0_1 1048576 t278 _ ?side1 ?side2 A3.out).mono ?_); (case side1 => exact cb_ HR0_1.out); (case side2 => exact HC0_1.out); rintro e w7 ⟨rfl, hb⟩; refine ⟨_, rfl, ?_⟩; have n0_ := bb_ BK277 hb; have n1_ := Aside0.mk (below_step hb_ hb); clear BK277; clear HB; have BK277 := n0_; have HB := n1_; clear n0_ n1_; (try clear hb); (try clear hb2); (try clear hk); (try clear hi)))
   go_ret
   exact ⟨er_, hb_⟩
  ·rw [if_neg c4] at H
   have c4b0 : decide (t278 < 0) = false := decide_eq_false c4
   clear c4
   replace H := Option.bind_eq_some_iff.mp H
   obtain ⟨t279, A80, H⟩ := H
   replace H : (if t279 < 0 then (some true) else ((laws_toCells.f k a0_0 l0_1).bind fun bt280 => ((laws_toTripS.f k l1).bind fun t284 => ((spec_GoodTrips.f k bt280.1 bt280.2 t284).bind fun t287 => ((laws_toCells.f k a0_0 l0_1).bind fun bt288 => ((laws_toTripS.f k l1).bind fun t293 => ((impl_GoodTrips.f k bt288.1 bt288.2 t293).bind fun t296 => (if (t296 != t287) = true then (some false) else ((laws_toCells.f k a0_0 l0_1).bind fun bt297 => ((laws_eqCells.f k bt288.1 bt288.2 bt297.1 bt297.2).bind fun t301 => (if t301 = true then ((laws_toTripS.f k l1).bind fun t302 => ((laws_eqTripS.f k t293 t302).bind fun t305 => (if t305 = true then (some true) else (some false)))) else (some false)))))))))))) = some r := H
   have A8 := Aside0.mk A80
   clear A80
   by_cases c9 : t279 < 0
   ·rw [if_pos c9] at H
    have c9b0 : decide (t279 < 0) = true := decide_eq_true c9
    clear c9
    obtain rfl := Option.some.inj H
    go_enter Try.func5, Try.ntmps5
    go_wp2_with (first | ((with_reducible refine gate_dst (N := 2) rfl ?_); refine box_event ?hg (N := 2) ?hd (cs := #[.int .i64 a0_0, .slice A0_1 l0_1.length c0_1]) (t := 34) ?hr ?_; (case hd => rfl); (case hg => rfl); (case hr => first | (go_simp; done) | (go_simp; rfl)); intro gb277 hg w10 hbox hb; have n0_ := Aside0.mk (below_step hb_ hb); have n1_ := Aside0.mk (hbox); have n2_ : Aside0 (w.heap.size ≤ gb277) := gz_; have n3_ : Aside0 (w.heap.size ≤ gb277) := gz_; clear HB; have HB := n0_; have BK277 := n1_; have GW277 := n2_; have GE277 := n3_; clear n0_ n1_ n2_ n3_; clear hb hbox hg; have hcz11_0 : w10.cell? ⟨gb277, 0, none⟩ = some (.int .i64 a0_0) := (blk_cell BK277.out 0).trans rfl; have hcz11_1 : w10.cell? ⟨gb277, 1, none⟩ = some (.slice A0_1 l0_1.length c0_1) := (blk_cell BK277.out 1).trans rfl; have hfz11_0 := blk_frozen BK277.out 0; have hfz11_1 := blk_frozen BK277.out 1) | ((with_reducible refine gate_callee (f := 23) rfl ?_); refine goesL_ (some 12) rfl rfl Try.func23 (by kernel_rfl) rfl #[.agg #[.int .i64 a0_0, .slice A0_1 l0_1.length c0_1], .int .i64 1048576] rfl ls_ ?_; (with_reducible refine (laws_szCells.calls a0_0 _ _ l0_1 1048576 t278 _ ?side1 ?side2 A3.out).mono ?_); (case side1 => exact cb_ HR0_1.out); (case side2 => exact HC0_1.out); rintro e w12 ⟨rfl, hb⟩; refine ⟨_, rfl, ?_⟩; have n0_ := bb_ BK277 hb; have n1_ := Aside0.mk (below_step hb_ hb); clear BK277; clear HB; have BK277 := n0_; have HB := n1_; clear n0_ n1_; (try clear hb); (try clear hb2); (try clear hk); (try clear hi)) | ((with_reducible refine gate_callee (f := 24) rfl ?_); refine goesL_ (some 17) rfl rfl Try.func24 (by kernel_rfl) rfl #[.slice A1 l1.length c1, .int .i64 t278] rfl ls_ ?_; (with_reducible refine (laws_szTripS.calls _ _ l1 t278 t279 _ ?side1 ?side2 A8.out).mono ?_); (case side1 => exact cb_ HR1.out); (case side2 => exact HC1.out); rintro e w' ⟨rfl, ⟨nd, rfl⟩⟩; refine ⟨_, rfl, ?_⟩))
    go_ret
    exact ⟨er_, hb_⟩
   ·rw [if_neg c9] at H
    have c9b0 : decide (t279 < 0) = false := decide_eq_false c9
    clear c9
    replace H := Option.bind_eq_some_iff.mp H
    obtain ⟨⟨t280, t281⟩, A130, H⟩ := H
    replace H : ((laws_toTripS.f k l1).bind fun t284 => ((spec_GoodTrips.f k t280 t281 t284).bind fun t287 => ((laws_toCells.f k a0_0 l0_1).bind fun bt288 => ((laws_toTripS.f k l1).bind fun t293 => ((impl_GoodTrips.f k bt288.1 bt288.2 t293).bind fun t296 => (if (t296 != t287) = true then (some false) else ((laws_toCells.f k a0_0 l0_1).bind fun bt297 => ((laws_eqCells.f k bt288.1 bt288.2 bt297.1 bt297.2).bind fun t301 => (if t301 = true then ((laws_toTripS.f k l1).bind fun t302 => ((laws_eqTripS.f k t293 t302).bind fun t305 => (if t305 = true then (some true) else (some false)))) else (some false)))))))))) = some r := H
    have A13 := Aside0.mk A130
    clear A130
    replace H := Option.bind_eq_some_iff.mp H
    obtain ⟨t284, A140, H⟩ := H
    replace H : ((spec_GoodTrips.f k t280 t281 t284).bind fun t287 => ((laws_toCells.f k a0_0 l0_1).bind fun bt288 => ((laws_toTripS.f k l1).bind fun t293 => ((impl_GoodTrips.f k bt288.1 bt288.2 t293).bind fun t296 => (if (t296 != t287) = true then (some false) else ((laws_toCells.f k a0_0 l0_1).bind fun bt297 => ((laws_eqCells.f k bt288.1 bt288.2 bt297.1 bt297.2).bind fun t301 => (if t301 = true then ((laws_toTripS.f k l1).bind fun t302 => ((laws_eqTripS.f k t293 t302).bind fun t305 => (if t305 = true then (some true) else (some false)))) else (some false))))))))) = some r := H
    have A14 := Aside0.mk A140
    clear A140
    replace H := Option.bind_eq_some_iff.mp H
    obtain ⟨t287, A150, H⟩ := H
    replace H : ((laws_toCells.f k a0_0 l0_1).bind fun bt288 => ((laws_toTripS.f k l1).bind fun t293 => ((impl_GoodTrips.f k bt288.1 bt288.2 t293).bind fun t296 => (if (t296 != t287) = true then (some false) else ((laws_toCells.f k a0_0 l0_1).bind fun bt297 => ((laws_eqCells.f k bt288.1 bt288.2 bt297.1 bt297.2).bind fun t301 => (if t301 = true then ((laws_toTripS.f k l1).bind fun t302 => ((laws_eqTripS.f k t293 t302).bind fun t305 => (if t305 = true then (some true) else (some false)))) else (some false)))))))) = some r := H
    have A15 := Aside0.mk A150
    clear A150
    replace H := Option.bind_eq_some_iff.mp H
    obtain ⟨⟨t288, t289⟩, A160, H⟩ := H
    replace H : ((laws_toTripS.f k l1).bind fun t293 => ((impl_GoodTrips.f k t288 t289 t293).bind fun t296 => (if (t296 != t287) = true then (some false) else ((laws_toCells.f k a0_0 l0_1).bind fun bt297 => ((laws_eqCells.f k t288 t289 bt297.1 bt297.2).bind fun t301 => (if t301 = true then ((laws_toTripS.f k l1).bind fun t302 => ((laws_eqTripS.f k t293 t302).bind fun t305 => (if t305 = true then (some true) else (some false)))) else (some false))))))) = some r := H
    have A16 := Aside0.mk A160
    clear A160
    replace H := Option.bind_eq_some_iff.mp H
    obtain ⟨t293, A170, H⟩ := H
    replace H : ((impl_GoodTrips.f k t288 t289 t293).bind fun t296 => (if (t296 != t287) = true then (some false) else ((laws_toCells.f k a0_0 l0_1).bind fun bt297 => ((laws_eqCells.f k t288 t289 bt297.1 bt297.2).bind fun t301 => (if t301 = true then ((laws_toTripS.f k l1).bind fun t302 => ((laws_eqTripS.f k t293 t302).bind fun t305 => (if t305 = true then (some true) else (some false)))) else (some false)))))) = some r := H
    have A17 := Aside0.mk A170
    clear A170
    replace H := Option.bind_eq_some_iff.mp H
    obtain ⟨t296, A180, H⟩ := H
    replace H : (if (t296 != t287) = true then (some false) else ((laws_toCells.f k a0_0 l0_1).bind fun bt297 => ((laws_eqCells.f k t288 t289 bt297.1 bt297.2).bind fun t301 => (if t301 = true then ((laws_toTripS.f k l1).bind fun t302 => ((laws_eqTripS.f k t293 t302).bind fun t305 => (if t305 = true then (some true) else (some false)))) else (some false))))) = some r := H
    have A18 := Aside0.mk A180
    clear A180
    by_cases c19 : (t296 != t287) = true
    ·rw [if_pos c19] at H
     have c19b0 : (t296 != t287) = true := c19
     (try (have c19b1 : decide (t296 = t287) = false := by simpa using c19))
     (try (have c19b2 : (t296 == t287) = false := by simpa using c19))
     (try (have c19b3 : ¬ (t296 = t287) := by simpa using c19))
     clear c19
     obtain rfl := Option.some.inj H
     go_enter Try.func5, Try.ntmps5
     go_wp2_with (first | ((with_reducible refine gate_dst (N := 2) rfl ?_); refine box_event ?hg (N := 2) ?hd (cs := #[.int .i64 a0_0, .slice A0_1 l0_1.length c0_1]) (t := 34) ?hr ?_; (case hd => rfl); (case hg => rfl); (case hr => first | (go_simp; done) | (go_simp; rfl)); intro gb277 hg w20 hbox hb; have n0_ := Aside0.mk (below_step hb_ hb); have n1_ := Aside0.mk (hbox); have n2_ : Aside0 (w.heap.size ≤ gb277) := gz_; have n3_ : Aside0 (w.heap.size ≤ gb277) := gz_; clear HB; have HB := n0_; have BK277 := n1_; have GW277 := n2_; have GE277 := n3_; clear n0_ n1_ n2_ n3_; clear hb hbox hg; have hcz21_0 : w20.cell? ⟨gb277, 0, none⟩ = some (.int .i64 a0_0) := (blk_cell BK277.out 0).trans rfl; have hcz21_1 : w20.cell? ⟨gb277, 1, none⟩ = some (.slice A0_1 l0_1.length c0_1) := (blk_cell BK277.out 1).trans rfl; have hfz21_0 := blk_frozen BK277.out 0; have hfz21_1 := blk_frozen BK277.out 1) | ((with_reducible refine gate_callee (f := 23) rfl ?_); refine goesL_ (some 12) rfl rfl Try.func23 (by kernel_rfl) rfl #[.agg #[.int .i64 a0_0, .slice A0_1 l0_1.length c0_1], .int .i64 1048576] rfl ls_ ?_; (with_reducible refine (laws_szCells.calls a0_0 _ _ l0_1 1048576 t278 _ ?side1 ?side2 A3.out).mono ?_); (case side1 => exact cb_ HR0_1.out); (case side2 => exact HC0_1.out); rintro e w22 ⟨rfl, hb⟩; refine ⟨_, rfl, ?_⟩; have n0_ := bb_ BK277 hb; have n1_ := Aside0.mk (below_step hb_ hb); clear BK277; clear HB; have BK277 := n0_; have HB := n1_; clear n0_ n1_; (try clear hb); (try clear hb2); (try clear hk); (try clear hi)) | ((with_reducible refine gate_callee (f := 24) rfl ?_); refine goesL_ (some 17) rfl rfl Try.func24 (by kernel_rfl) rfl #[.slice A1 l1.length c1, .int .i64 t278] rfl ls_ ?_; (with_reducible refine (laws_szTripS.calls _ _ l1 t278 t279 _ ?side1 ?side2 A8.out).mono ?_); (case side1 => exact cb_ HR1.out); (case side2 => exact HC1.out); rintro e w' ⟨rfl, ⟨nd, rfl⟩⟩; refine ⟨_, rfl, ?_⟩; (try (rw [drewN_self w22]; generalize hq_ : World.drewN w22 _ = w22; have n0_ : Aside0 (w22.heap[gb277]? = some (.cells #[.int .i64 a0_0, .slice A0_1 l0_1.length c0_1] 34 (0, 0))) := ⟨by rw [← hq_]; exact (bk_ BK277.out)⟩; have n1_ : Aside0 (Below w.heap.size w w22) := ⟨by rw [← hq_]; exact hb_⟩; clear BK277 HB hq_; have BK277 := n0_; have HB := n1_; clear n0_ n1_)); have hcz23_0 : w22.cell? ⟨gb277, 0, none⟩ = some (.int .i64 a0_0) := (blk_cell BK277.out 0).trans rfl; have hcz23_1 : w22.cell? ⟨gb277, 1, none⟩ = some (.slice A0_1 l0_1.length c0_1) := (blk_cell BK277.out 1).trans rfl; have hfz23_0 := blk_frozen BK277.out 0; have hfz23_1 := blk_frozen BK277.out 1) | ((with_reducible refine gate_callee (f := 26) rfl ?_); refine goesL_ (some 21) rfl rfl Try.func26 (by kernel_rfl) rfl #[.agg #[.int .i64 a0_0, .slice A0_1 l0_1.length c0_1]] rfl ls_ ?_; (with_reducible refine (laws_toCells.calls k a0_0 _ _ l0_1 t280 t281 _ ?side1 ?side2 A13.out).mono ?_); (case side1 => exact cb_ HR0_1.out); (case side2 => exact HC0_1.out); rintro e w24 ⟨v282, rfl, ho0, hb⟩; refine ⟨_, rfl, ?_⟩; have n0_ := Aside0.mk (Kd.R_lower ho0 (below_size hb_)); have n1_ := bb_ BK277 hb; have n2_ := Aside0.mk (below_step hb_ hb); clear BK277; clear HB; have HO283 := n0_; have BK277 := n1_; have HB := n2_; clear n0_ n1_ n2_; (try clear hb); (try clear hb2); (try clear hk); (try clear hi); (try clear ho0)) | ((with_reducible refine gate_callee (f := 27) rfl ?_); refine goesL_ (some 23) rfl rfl Try.func27 (by kernel_rfl) rfl #[.slice A1 l1.length c1] rfl ls_ ?_; (with_reducible refine (laws_toTripS.calls k _ _ l1 t284 _ ?side1 ?side2 A14.out).mono ?_); (case side1 => exact cb_ HR1.out); (case side2 => exact HC1.out); rintro e w25 ⟨v285, rfl, ho0, hb⟩; refine ⟨_, rfl, ?_⟩; have n0_ := Aside0.mk (Kd.R_below (ra_ HO283.out) hb); have n1_ := Aside0.mk (Kd.R_lower ho0 (below_size hb_)); have n2_ := bb_ BK277 hb; have n3_ := Aside0.mk (below_step hb_ hb); clear HO283; clear BK277; clear HB; have HO283 := n0_; have HO286 := n1_; have BK277 := n2_; have HB := n3_; clear n0_ n1_ n2_ n3_; (try clear hb); (try clear hb2); (try clear hk); (try clear hi); (try clear ho0); obtain ⟨Ao26, co26, eo26⟩ := Kd.R_slice HO283.out; subst eo26; obtain ⟨Ao27, co27, eo27⟩ := Kd.R_slice HO286.out; subst eo27) | ((with_reducible refine gate_callee (f := 25) rfl ?_); refine goesL_ (some 24) rfl rfl Try.func25 (by kernel_rfl) rfl #[.agg #[.int .i64 t280, .slice Ao26 t281.length co26], .slice Ao27 t284.length co27] rfl ls_ ?_; (with_reducible refine (spec_GoodTrips.calls k t280 _ _ t281 _ _ t284 t287 _ ?side1 ?side2 ?side3 ?side4 A15.out).mono ?_); (case side1 => exact ca_ (Kd.R_reads' HO283.out).2.2); (case side2 => exact (Kd.R_reads' HO283.out).2.1); (case side3 => exact ca_ (Kd.R_reads' HO286.out).2.2); (case side4 => exact (Kd.R_reads' HO286.out).2.1); rintro e w28 ⟨rfl, hb⟩; refine ⟨_, rfl, ?_⟩; have n0_ := Aside0.mk (Kd.R_below (ra_ HO283.out) hb); have n1_ := Aside0.mk (Kd.R_below (ra_ HO286.out) hb); have n2_ := bb_ BK277 hb; have n3_ := Aside0.mk (below_step hb_ hb); clear HO283; clear HO286; clear BK277; clear HB; have HO283 := n0_; have HO286 := n1_; have BK277 := n2_; have HB := n3_; clear n0_ n1_ n2_ n3_; (try clear hb); (try clear hb2); (try clear hk); (try clear hi); have hcz29_0 : w28.cell? ⟨gb277, 0, none⟩ = some (.int .i64 a0_0) := (blk_cell BK277.out 0).trans rfl; have hcz29_1 : w28.cell? ⟨gb277, 1, none⟩ = some (.slice A0_1 l0_1.length c0_1) := (blk_cell BK277.out 1).trans rfl; have hfz29_0 := blk_frozen BK277.out 0; have hfz29_1 := blk_frozen BK277.out 1) | ((with_reducible refine gate_callee (f := 26) rfl ?_); refine goesL_ (some 26) rfl rfl Try.func26 (by kernel_rfl) rfl #[.agg #[.int .i64 a0_0, .slice A0_1 l0_1.length c0_1]] rfl ls_ ?_; (with_reducible refine (laws_toCells.calls k a0_0 _ _ l0_1 t288 t289 _ ?side1 ?side2 A16.out).mono ?_); (case side1 => exact cb_ HR0_1.out); (case side2 => exact HC0_1.out); rintro e w30 ⟨v290, rfl, ho0, hb⟩; refine ⟨_, rfl, ?_⟩; have n0_ := Aside0.mk (Kd.R_elder' (ra_ HO283.out) (Kd.R_base ho0) hb); have n1_ := Aside0.mk (Kd.R_below (ra_ HO286.out) hb); have n2_ := Aside0.mk (Kd.R_lower (Kd.R_new' ho0 (Kd.R_lt (ra_ HO283.out))) (below_size hb_)); have n3_ := bb_ BK277 hb; have n4_ := Aside0.mk (below_step hb_ hb); clear HO283; clear HO286; clear BK277; clear HB; have HO283 := n0_; have HO286 := n1_; have HO291 := n2_; have BK277 := n3_; have HB := n4_; clear n0_ n1_ n2_ n3_ n4_; (try clear hb); (try clear hb2); (try clear hk); (try clear hi); (try clear ho0)) | ((with_reducible refine gate_dst (N := 7) rfl ?_); refine box_event ?hg (N := 7) ?hd (cs := #[.int .i64 0, .slice none 0 0]) (t := 39) ?hr ?_; (case hd => rfl); (case hg => rfl); (case hr => first | (go_simp; done) | (go_simp; rfl)); intro gb292 hg w31 hbox hb; have n0_ := Aside0.mk (Kd.R_below (ra_ HO283.out) hb); have n1_ := Aside0.mk (Kd.R_below (ra_ HO286.out) hb); have n2_ := Aside0.mk (Kd.R_below (ra_ HO291.out) hb); have n3_ := bb_ BK277 hb; have n4_ := Aside0.mk (below_step hb_ hb); have n5_ := Aside0.mk (hbox); have n6_ : Aside0 (w.heap.size ≤ gb292) := gz_; have n7_ : Aside0 (w.heap.size ≤ gb292) := gz_; have n8_ := Aside0.mk ((by rw [hg]; exact Nat.ne_of_lt (blk_lt (g := gb277) (o := .cells #[.int .i64 a0_0, .slice A0_1 l0_1.length c0_1] 34 (0, 0)) (bk_ BK277.out)) : gb277 ≠ gb292)); have n9_ := Aside0.mk ((by rw [hg]; exact Nat.ne_of_gt (blk_lt (g := gb277) (o := .cells #[.int .i64 a0_0, .slice A0_1 l0_1.length c0_1] 34 (0, 0)) (bk_ BK277.out)) : gb292 ≠ gb277)); clear HO283; clear HO286; clear HO291; clear BK277; clear HB; have HO283 := n0_; have HO286 := n1_; have HO291 := n2_; have BK277 := n3_; have HB := n4_; have BK292 := n5_; have GW292 := n6_; have GE292 := n7_; have NB277_292 := n8_; have NB292_277 := n9_; clear n0_ n1_ n2_ n3_ n4_ n5_ n6_ n7_ n8_ n9_; clear hb hbox hg; have hnb32 := NB292_277.out; have hnc32 := NB277_292.out; have hcz33_0 : w31.cell? ⟨gb292, 0, none⟩ = some (.int .i64 0) := (blk_cell BK292.out 0).trans rfl; have hcz33_1 : w31.cell? ⟨gb292, 1, none⟩ = some (.slice none 0 0) := (blk_cell BK292.out 1).trans rfl; have hfz33_0 := blk_frozen BK292.out 0; have hfz33_1 := blk_frozen BK292.out 1; obtain ⟨Ao34, co34, eo34⟩ := Kd.R_slice HO291.out; subst eo34) | ((with_reducible refine gate_callee (f := 27) rfl ?_); refine goesL_ (some 28) rfl rfl Try.func27 (by kernel_rfl) rfl #[.slice A1 l1.length c1] rfl ls_ ?_; (with_reducible refine (laws_toTripS.calls k _ _ l1 t293 _ ?side1 ?side2 A17.out).mono ?_); (case side1 => exact Kd.C_below HR1.out hb_); (case side2 => exact HC1.out); rintro e w35 ⟨v294, rfl, ho0, hb⟩; refine ⟨_, rfl, ?_⟩; have n0_ := Aside0.mk (Kd.R_below (by (with_reducible repeat (first | apply Kd.R_alloc | apply Kd.R_drewN | apply Kd.R_drew)); exact (Kd.R_mono (Kd.R_far (p := ⟨gb292, 1, none⟩) (Kd.R_far (p := ⟨gb292, 0, none⟩) (Kd.R_types HO283.out BK292.out (by decide)) (fun _ hk => hk.2) (.int .i64 t288)) (fun _ hk => hk.2) (.slice Ao34 t289.length co34)) (fun _ h_ => h_.1))) hb); have n1_ := Aside0.mk (Kd.R_elder' (by (with_reducible repeat (first | apply Kd.R_alloc | apply Kd.R_drewN | apply Kd.R_drew)); exact (Kd.R_mono (Kd.R_far (p := ⟨gb292, 1, none⟩) (Kd.R_far (p := ⟨gb292, 0, none⟩) (Kd.R_types HO286.out BK292.out (by decide)) (fun _ hk => hk.2) (.int .i64 t288)) (fun _ hk => hk.2) (.slice Ao34 t289.length co34)) (fun _ h_ => h_.1))) (Kd.R_base ho0) hb); have n2_ := Aside0.mk (Kd.R_below (by (with_reducible repeat (first | apply Kd.R_alloc | apply Kd.R_drewN | apply Kd.R_drew)); exact (Kd.R_mono (Kd.R_far (p := ⟨gb292, 1, none⟩) (Kd.R_far (p := ⟨gb292, 0, none⟩) (Kd.R_types HO291.out BK292.out (by decide)) (fun _ hk => hk.2) (.int .i64 t288)) (fun _ hk => hk.2) (.slice Ao34 t289.length co34)) (fun _ h_ => h_.1))) hb); have n3_ := Aside0.mk (Kd.R_lower (Kd.R_new' ho0 (Kd.R_lt (by (with_reducible repeat (first | apply Kd.R_alloc | apply Kd.R_drewN | apply Kd.R_drew)); exact (Kd.R_mono (Kd.R_far (p := ⟨gb292, 1, none⟩) (Kd.R_far (p := ⟨gb292, 0, none⟩) (Kd.R_types HO286.out BK292.out (by decide)) (fun _ hk => hk.2) (.int .i64 t288)) (fun _ hk => hk.2) (.slice Ao34 t289.length co34)) (fun _ h_ => h_.1))))) (below_size hb_)); have n4_ := Aside0.mk (blk_below (g := gb277) (o := .cells #[.int .i64 a0_0, .slice A0_1 l0_1.length c0_1] 34 (0, 0)) (by (with_reducible repeat (first | refine blk_drewN ?_ _ | refine blk_drew ?_ | refine blk_alloc ?_ _)); refine blk_far ?_ NB277_292.out _; (with_reducible repeat (first | refine blk_drewN ?_ _ | refine blk_drew ?_ | refine blk_alloc ?_ _)); refine blk_far ?_ NB277_292.out _; (with_reducible repeat (first | refine blk_drewN ?_ _ | refine blk_drew ?_ | refine blk_alloc ?_ _)); exact BK277.out) hb); have n5_ := Aside0.mk (blk_below (g := gb292) (o := .cells #[.int .i64 t288, .slice Ao34 t289.length co34] 39 (0, 0)) (by (with_reducible repeat (first | refine blk_drewN ?_ _ | refine blk_drew ?_ | refine blk_alloc ?_ _)); refine blk_put (cs := #[.int .i64 t288, .slice none 0 0]) ?_ 1 _ rfl; (with_reducible repeat (first | refine blk_drewN ?_ _ | refine blk_drew ?_ | refine blk_alloc ?_ _)); refine blk_put (cs := #[.int .i64 0, .slice none 0 0]) ?_ 0 _ rfl; (with_reducible repeat (first | refine blk_drewN ?_ _ | refine blk_drew ?_ | refine blk_alloc ?_ _)); exact BK292.out) hb); have n6_ := Aside0.mk (below_step hb_ hb); clear HO283; clear HO286; clear HO291; clear BK277; clear BK292; clear HB; have HO283 := n0_; have HO286 := n1_; have HO291 := n2_; have HO295 := n3_; have BK277 := n4_; have BK292 := n5_; have HB := n6_; clear n0_ n1_ n2_ n3_ n4_ n5_ n6_; (try clear hb); (try clear hb2); (try clear hk); (try clear hi); (try clear ho0); have hcz36_0 : w35.cell? ⟨gb292, 0, none⟩ = some (.int .i64 t288) := (blk_cell BK292.out 0).trans rfl; have hcz36_1 : w35.cell? ⟨gb292, 1, none⟩ = some (.slice Ao34 t289.length co34) := (blk_cell BK292.out 1).trans rfl; have hfz36_0 := blk_frozen BK292.out 0; have hfz36_1 := blk_frozen BK292.out 1; obtain ⟨Ao37, co37, eo37⟩ := Kd.R_slice HO295.out; subst eo37) | ((with_reducible refine gate_callee (f := 28) rfl ?_); refine goesL_ (some 31) rfl rfl Try.func28 (by kernel_rfl) rfl #[.agg #[.int .i64 t288, .slice Ao34 t289.length co34], .slice Ao37 t293.length co37] rfl ls_ ?_; (with_reducible refine (impl_GoodTrips.calls k t288 _ _ t289 _ _ t293 t296 _ ?side1 ?side2 ?side3 ?side4 A18.out).mono ?_); (case side1 => exact ca_ (Kd.R_reads' HO291.out).2.2); (case side2 => exact (Kd.R_reads' HO291.out).2.1); (case side3 => exact ca_ (Kd.R_reads' HO295.out).2.2); (case side4 => exact (Kd.R_reads' HO295.out).2.1); rintro e w38 ⟨rfl, hb⟩; refine ⟨_, rfl, ?_⟩; have n0_ := Aside0.mk (Kd.R_below (ra_ HO283.out) hb); have n1_ := Aside0.mk (Kd.R_below (ra_ HO286.out) hb); have n2_ := Aside0.mk (Kd.R_below (ra_ HO291.out) hb); have n3_ := Aside0.mk (Kd.R_below (ra_ HO295.out) hb); have n4_ := bb_ BK277 hb; have n5_ := bb_ BK292 hb; have n6_ := Aside0.mk (below_step hb_ hb); clear HO283; clear HO286; clear HO291; clear HO295; clear BK277; clear BK292; clear HB; have HO283 := n0_; have HO286 := n1_; have HO291 := n2_; have HO295 := n3_; have BK277 := n4_; have BK292 := n5_; have HB := n6_; clear n0_ n1_ n2_ n3_ n4_ n5_ n6_; (try clear hb); (try clear hb2); (try clear hk); (try clear hi)))
     go_ret
     exact ⟨er_, hb_⟩
    ·rw [if_neg c19] at H
     have c19b0 : (t296 != t287) = false := by simpa using c19
     (try (have c19b1 : decide (t296 = t287) = true := by simpa using c19))
     (try (have c19b2 : (t296 == t287) = true := by simpa using c19))
     clear c19
     replace H := Option.bind_eq_some_iff.mp H
     obtain ⟨⟨t297, t298⟩, A390, H⟩ := H
     replace H : ((laws_eqCells.f k t288 t289 t297 t298).bind fun t301 => (if t301 = true then ((laws_toTripS.f k l1).bind fun t302 => ((laws_eqTripS.f k t293 t302).bind fun t305 => (if t305 = true then (some true) else (some false)))) else (some false))) = some r := H
     have A39 := Aside0.mk A390
     clear A390
     replace H := Option.bind_eq_some_iff.mp H
     obtain ⟨t301, A400, H⟩ := H
     replace H : (if t301 = true then ((laws_toTripS.f k l1).bind fun t302 => ((laws_eqTripS.f k t293 t302).bind fun t305 => (if t305 = true then (some true) else (some false)))) else (some false)) = some r := H
     have A40 := Aside0.mk A400
     clear A400
     by_cases c41 : t301 = true
     ·subst c41
      rw [if_pos rfl] at H
      replace H := Option.bind_eq_some_iff.mp H
      obtain ⟨t302, A420, H⟩ := H
      replace H : ((laws_eqTripS.f k t293 t302).bind fun t305 => (if t305 = true then (some true) else (some false))) = some r := H
      have A42 := Aside0.mk A420
      clear A420
      replace H := Option.bind_eq_some_iff.mp H
      obtain ⟨t305, A430, H⟩ := H
      replace H : (if t305 = true then (some true) else (some false)) = some r := H
      have A43 := Aside0.mk A430
      clear A430
      by_cases c44 : t305 = true
      ·subst c44
       rw [if_pos rfl] at H
       obtain rfl := Option.some.inj H
       go_enter Try.func5, Try.ntmps5
       try go_wp2_with (first | ((with_reducible refine gate_dst (N := 2) rfl ?_); refine box_event ?hg (N := 2) ?hd (cs := #[.int .i64 a0_0, .slice A0_1 l0_1.length c0_1]) (t := 34) ?hr ?_; (case hd => rfl); (case hg => rfl); (case hr => first | (go_simp; done) | (go_simp; rfl)); intro gb277 hg w45 hbox hb; have n0_ := Aside0.mk (below_step hb_ hb); have n1_ := Aside0.mk (hbox); have n2_ : Aside0 (w.heap.size ≤ gb277) := gz_; have n3_ : Aside0 (w.heap.size ≤ gb277) := gz_; clear HB; have HB := n0_; have BK277 := n1_; have GW277 := n2_; have GE277 := n3_; clear n0_ n1_ n2_ n3_; clear hb hbox hg; have hcz46_0 : w45.cell? ⟨gb277, 0, none⟩ = some (.int .i64 a0_0) := (blk_cell BK277.out 0).trans rfl; have hcz46_1 : w45.cell? ⟨gb277, 1, none⟩ = some (.slice A0_1 l0_1.length c0_1) := (blk_cell BK277.out 1).trans rfl; have hfz46_0 := blk_frozen BK277.out 0; have hfz46_1 := blk_frozen BK277.out 1) | ((with_reducible refine gate_callee (f := 23) rfl ?_); refine goesL_ (some 12) rfl rfl Try.func23 (by kernel_rfl) rfl #[.agg #[.int .i64 a0_0, .slice A0_1 l0_1.length c0_1], .int .i64 1048576] rfl ls_ ?_; (with_reducible refine (laws_szCells.calls a0_0 _ _ l0_1 1048576 t278 _ ?side1 ?side2 A3.out).mono ?_); (case side1 => exact cb_ HR0_1.out); (case side2 => exact HC0_1.out); rintro e w47 ⟨rfl, hb⟩; refine ⟨_, rfl, ?_⟩; have n0_ := bb_ BK277 hb; have n1_ := Aside0.mk (below_step hb_ hb); clear BK277; clear HB; have BK277 := n0_; have HB := n1_; clear n0_ n1_; (try clear hb); (try clear hb2); (try clear hk); (try clear hi)) | ((with_reducible refine gate_callee (f := 24) rfl ?_); refine goesL_ (some 17) rfl rfl Try.func24 (by kernel_rfl) rfl #[.slice A1 l1.length c1, .int .i64 t278] rfl ls_ ?_; (with_reducible refine (laws_szTripS.calls _ _ l1 t278 t279 _ ?side1 ?side2 A8.out).mono ?_); (case side1 => exact cb_ HR1.out); (case side2 => exact HC1.out); rintro e w' ⟨rfl, ⟨nd, rfl⟩⟩; refine ⟨_, rfl, ?_⟩; (try (rw [drewN_self w47]; generalize hq_ : World.drewN w47 _ = w47; have n0_ : Aside0 (w47.heap[gb277]? = some (.cells #[.int .i64 a0_0, .slice A0_1 l0_1.length c0_1] 34 (0, 0))) := ⟨by rw [← hq_]; exact (bk_ BK277.out)⟩; have n1_ : Aside0 (Below w.heap.size w w47) := ⟨by rw [← hq_]; exact hb_⟩; clear BK277 HB hq_; have BK277 := n0_; have HB := n1_; clear n0_ n1_)); have hcz48_0 : w47.cell? ⟨gb277, 0, none⟩ = some (.int .i64 a0_0) := (blk_cell BK277.out 0).trans rfl; have hcz48_1 : w47.cell? ⟨gb277, 1, none⟩ = some (.slice A0_1 l0_1.length c0_1) := (blk_cell BK277.out 1).trans rfl; have hfz48_0 := blk_frozen BK277.out 0; have hfz48_1 := blk_frozen BK277.out 1) | ((with_reducible refine gate_callee (f := 26) rfl ?_); refine goesL_ (some 21) rfl rfl Try.func26 (by kernel_rfl) rfl #[.agg #[.int .i64 a0_0, .slice A0_1 l0_1.length c0_1]] rfl ls_ ?_; (with_reducible refine (laws_toCells.calls k a0_0 _ _ l0_1 t280 t281 _ ?side1 ?side2 A13.out).mono ?_); (case side1 => exact cb_ HR0_1.out); (case side2 => exact HC0_1.out); rintro e w49 ⟨v282, rfl, ho0, hb⟩; refine ⟨_, rfl, ?_⟩; have n0_ := Aside0.mk (Kd.R_lower ho0 (below_size hb_)); have n1_ := bb_ BK277 hb; have n2_ := Aside0.mk (below_step hb_ hb); clear BK277; clear HB; have HO283 := n0_; have BK277 := n1_; have HB := n2_; clear n0_ n1_ n2_; (try clear hb); (try clear hb2); (try clear hk); (try clear hi); (try clear ho0)) | ((with_reducible refine gate_callee (f := 27) rfl ?_); refine goesL_ (some 23) rfl rfl Try.func27 (by kernel_rfl) rfl #[.slice A1 l1.length c1] rfl ls_ ?_; (with_reducible refine (laws_toTripS.calls k _ _ l1 t284 _ ?side1 ?side2 A14.out).mono ?_); (case side1 => exact cb_ HR1.out); (case side2 => exact HC1.out); rintro e w50 ⟨v285, rfl, ho0, hb⟩; refine ⟨_, rfl, ?_⟩; have n0_ := Aside0.mk (Kd.R_below (ra_ HO283.out) hb); have n1_ := Aside0.mk (Kd.R_lower ho0 (below_size hb_)); have n2_ := bb_ BK277 hb; have n3_ := Aside0.mk (below_step hb_ hb); clear HO283; clear BK277; clear HB; have HO283 := n0_; have HO286 := n1_; have BK277 := n2_; have HB := n3_; clear n0_ n1_ n2_ n3_; (try clear hb); (try clear hb2); (try clear hk); (try clear hi); (try clear ho0); obtain ⟨Ao51, co51, eo51⟩ := Kd.R_slice HO283.out; subst eo51; obtain ⟨Ao52, co52, eo52⟩ := Kd.R_slice HO286.out; subst eo52) | ((with_reducible refine gate_callee (f := 25) rfl ?_); refine goesL_ (some 24) rfl rfl Try.func25 (by kernel_rfl) rfl #[.agg #[.int .i64 t280, .slice Ao51 t281.length co51], .slice Ao52 t284.length co52] rfl ls_ ?_; (with_reducible refine (spec_GoodTrips.calls k t280 _ _ t281 _ _ t284 t287 _ ?side1 ?side2 ?side3 ?side4 A15.out).mono ?_); (case side1 => exact ca_ (Kd.R_reads' HO283.out).2.2); (case side2 => exact (Kd.R_reads' HO283.out).2.1); (case side3 => exact ca_ (Kd.R_reads' HO286.out).2.2); (case side4 => exact (Kd.R_reads' HO286.out).2.1); rintro e w53 ⟨rfl, hb⟩; refine ⟨_, rfl, ?_⟩; have n0_ := Aside0.mk (Kd.R_below (ra_ HO283.out) hb); have n1_ := Aside0.mk (Kd.R_below (ra_ HO286.out) hb); have n2_ := bb_ BK277 hb; have n3_ := Aside0.mk (below_step hb_ hb); clear HO283; clear HO286; clear BK277; clear HB; have HO283 := n0_; have HO286 := n1_; have BK277 := n2_; have HB := n3_; clear n0_ n1_ n2_ n3_; (try clear hb); (try clear hb2); (try clear hk); (try clear hi); have hcz54_0 : w53.cell? ⟨gb277, 0, none⟩ = some (.int .i64 a0_0) := (blk_cell BK277.out 0).trans rfl; have hcz54_1 : w53.cell? ⟨gb277, 1, none⟩ = some (.slice A0_1 l0_1.length c0_1) := (blk_cell BK277.out 1).trans rfl; have hfz54_0 := blk_frozen BK277.out 0; have hfz54_1 := blk_frozen BK277.out 1) | ((with_reducible refine gate_callee (f := 26) rfl ?_); refine goesL_ (some 26) rfl rfl Try.func26 (by kernel_rfl) rfl #[.agg #[.int .i64 a0_0, .slice A0_1 l0_1.length c0_1]] rfl ls_ ?_; (with_reducible refine (laws_toCells.calls k a0_0 _ _ l0_1 t288 t289 _ ?side1 ?side2 A16.out).mono ?_); (case side1 => exact cb_ HR0_1.out); (case side2 => exact HC0_1.out); rintro e w55 ⟨v290, rfl, ho0, hb⟩; refine ⟨_, rfl, ?_⟩; have n0_ := Aside0.mk (Kd.R_elder' (ra_ HO283.out) (Kd.R_base ho0) hb); have n1_ := Aside0.mk (Kd.R_below (ra_ HO286.out) hb); have n2_ := Aside0.mk (Kd.R_lower (Kd.R_new' ho0 (Kd.R_lt (ra_ HO283.out))) (below_size hb_)); have n3_ := bb_ BK277 hb; have n4_ := Aside0.mk (below_step hb_ hb); clear HO283; clear HO286; clear BK277; clear HB; have HO283 := n0_; have HO286 := n1_; have HO291 := n2_; have BK277 := n3_; have HB := n4_; clear n0_ n1_ n2_ n3_ n4_; (try clear hb); (try clear hb2); (try clear hk); (try clear hi); (try clear ho0)) | ((with_reducible refine gate_dst (N := 7) rfl ?_); refine box_event ?hg (N := 7) ?hd (cs := #[.int .i64 0, .slice none 0 0]) (t := 39) ?hr ?_; (case hd => rfl); (case hg => rfl); (case hr => first | (go_simp; done) | (go_simp; rfl)); intro gb292 hg w56 hbox hb; have n0_ := Aside0.mk (Kd.R_below (ra_ HO283.out) hb); have n1_ := Aside0.mk (Kd.R_below (ra_ HO286.out) hb); have n2_ := Aside0.mk (Kd.R_below (ra_ HO291.out) hb); have n3_ := bb_ BK277 hb; have n4_ := Aside0.mk (below_step hb_ hb); have n5_ := Aside0.mk (hbox); have n6_ : Aside0 (w.heap.size ≤ gb292) := gz_; have n7_ : Aside0 (w.heap.size ≤ gb292) := gz_; have n8_ := Aside0.mk ((by rw [hg]; exact Nat.ne_of_lt (blk_lt (g := gb277) (o := .cells #[.int .i64 a0_0, .slice A0_1 l0_1.length c0_1] 34 (0, 0)) (bk_ BK277.out)) : gb277 ≠ gb292)); have n9_ := Aside0.mk ((by rw [hg]; exact Nat.ne_of_gt (blk_lt (g := gb277) (o := .cells #[.int .i64 a0_0, .slice A0_1 l0_1.length c0_1] 34 (0, 0)) (bk_ BK277.out)) : gb292 ≠ gb277)); clear HO283; clear HO286; clear HO291; clear BK277; clear HB; have HO283 := n0_; have HO286 := n1_; have HO291 := n2_; have BK277 := n3_; have HB := n4_; have BK292 := n5_; have GW292 := n6_; have GE292 := n7_; have NB277_292 := n8_; have NB292_277 := n9_; clear n0_ n1_ n2_ n3_ n4_ n5_ n6_ n7_ n8_ n9_; clear hb hbox hg; have hnb57 := NB292_277.out; have hnc57 := NB277_292.out; have hcz58_0 : w56.cell? ⟨gb292, 0, none⟩ = some (.int .i64 0) := (blk_cell BK292.out 0).trans rfl; have hcz58_1 : w56.cell? ⟨gb292, 1, none⟩ = some (.slice none 0 0) := (blk_cell BK292.out 1).trans rfl; have hfz58_0 := blk_frozen BK292.out 0; have hfz58_1 := blk_frozen BK292.out 1; obtain ⟨Ao59, co59, eo59⟩ := Kd.R_slice HO291.out; subst eo59) | ((with_reducible refine gate_callee (f := 27) rfl ?_); refine goesL_ (some 28) rfl rfl Try.func27 (by kernel_rfl) rfl #[.slice A1 l1.length c1] rfl ls_ ?_; (with_reducible refine (laws_toTripS.calls k _ _ l1 t293 _ ?side1 ?side2 A17.out).mono ?_); (case side1 => exact Kd.C_below HR1.out hb_); (case side2 => exact HC1.out); rintro e w60 ⟨v294, rfl, ho0, hb⟩; refine ⟨_, rfl, ?_⟩; have n0_ := Aside0.mk (Kd.R_below (by (with_reducible repeat (first | apply Kd.R_alloc | apply Kd.R_drewN | apply Kd.R_drew)); exact (Kd.R_mono (Kd.R_far (p := ⟨gb292, 1, none⟩) (Kd.R_far (p := ⟨gb292, 0, none⟩) (Kd.R_types HO283.out BK292.out (by decide)) (fun _ hk => hk.2) (.int .i64 t288)) (fun _ hk => hk.2) (.slice Ao59 t289.length co59)) (fun _ h_ => h_.1))) hb); have n1_ := Aside0.mk (Kd.R_elder' (by (with_reducible repeat (first | apply Kd.R_alloc | apply Kd.R_drewN | apply Kd.R_drew)); exact (Kd.R_mono (Kd.R_far (p := ⟨gb292, 1, none⟩) (Kd.R_far (p := ⟨gb292, 0, none⟩) (Kd.R_types HO286.out BK292.out (by decide)) (fun _ hk => hk.2) (.int .i64 t288)) (fun _ hk => hk.2) (.slice Ao59 t289.length co59)) (fun _ h_ => h_.1))) (Kd.R_base ho0) hb); have n2_ := Aside0.mk (Kd.R_below (by (with_reducible repeat (first | apply Kd.R_alloc | apply Kd.R_drewN | apply Kd.R_drew)); exact (Kd.R_mono (Kd.R_far (p := ⟨gb292, 1, none⟩) (Kd.R_far (p := ⟨gb292, 0, none⟩) (Kd.R_types HO291.out BK292.out (by decide)) (fun _ hk => hk.2) (.int .i64 t288)) (fun _ hk => hk.2) (.slice Ao59 t289.length co59)) (fun _ h_ => h_.1))) hb); have n3_ := Aside0.mk (Kd.R_lower (Kd.R_new' ho0 (Kd.R_lt (by (with_reducible repeat (first | apply Kd.R_alloc | apply Kd.R_drewN | apply Kd.R_drew)); exact (Kd.R_mono (Kd.R_far (p := ⟨gb292, 1, none⟩) (Kd.R_far (p := ⟨gb292, 0, none⟩) (Kd.R_types HO286.out BK292.out (by decide)) (fun _ hk => hk.2) (.int .i64 t288)) (fun _ hk => hk.2) (.slice Ao59 t289.length co59)) (fun _ h_ => h_.1))))) (below_size hb_)); have n4_ := Aside0.mk (blk_below (g := gb277) (o := .cells #[.int .i64 a0_0, .slice A0_1 l0_1.length c0_1] 34 (0, 0)) (by (with_reducible repeat (first | refine blk_drewN ?_ _ | refine blk_drew ?_ | refine blk_alloc ?_ _)); refine blk_far ?_ NB277_292.out _; (with_reducible repeat (first | refine blk_drewN ?_ _ | refine blk_drew ?_ | refine blk_alloc ?_ _)); refine blk_far ?_ NB277_292.out _; (with_reducible repeat (first | refine blk_drewN ?_ _ | refine blk_drew ?_ | refine blk_alloc ?_ _)); exact BK277.out) hb); have n5_ := Aside0.mk (blk_below (g := gb292) (o := .cells #[.int .i64 t288, .slice Ao59 t289.length co59] 39 (0, 0)) (by (with_reducible repeat (first | refine blk_drewN ?_ _ | refine blk_drew ?_ | refine blk_alloc ?_ _)); refine blk_put (cs := #[.int .i64 t288, .slice none 0 0]) ?_ 1 _ rfl; (with_reducible repeat (first | refine blk_drewN ?_ _ | refine blk_drew ?_ | refine blk_alloc ?_ _)); refine blk_put (cs := #[.int .i64 0, .slice none 0 0]) ?_ 0 _ rfl; (with_reducible repeat (first | refine blk_drewN ?_ _ | refine blk_drew ?_ | refine blk_alloc ?_ _)); exact BK292.out) hb); have n6_ := Aside0.mk (below_step hb_ hb); clear HO283; clear HO286; clear HO291; clear BK277; clear BK292; clear HB; have HO283 := n0_; have HO286 := n1_; have HO291 := n2_; have HO295 := n3_; have BK277 := n4_; have BK292 := n5_; have HB := n6_; clear n0_ n1_ n2_ n3_ n4_ n5_ n6_; (try clear hb); (try clear hb2); (try clear hk); (try clear hi); (try clear ho0); have hcz61_0 : w60.cell? ⟨gb292, 0, none⟩ = some (.int .i64 t288) := (blk_cell BK292.out 0).trans rfl; have hcz61_1 : w60.cell? ⟨gb292, 1, none⟩ = some (.slice Ao59 t289.length co59) := (blk_cell BK292.out 1).trans rfl; have hfz61_0 := blk_frozen BK292.out 0; have hfz61_1 := blk_frozen BK292.out 1; obtain ⟨Ao62, co62, eo62⟩ := Kd.R_slice HO295.out; subst eo62) | ((with_reducible refine gate_callee (f := 28) rfl ?_); refine goesL_ (some 31) rfl rfl Try.func28 (by kernel_rfl) rfl #[.agg #[.int .i64 t288, .slice Ao59 t289.length co59], .slice Ao62 t293.length co62] rfl ls_ ?_; (with_reducible refine (impl_GoodTrips.calls k t288 _ _ t289 _ _ t293 t296 _ ?side1 ?side2 ?side3 ?side4 A18.out).mono ?_); (case side1 => exact ca_ (Kd.R_reads' HO291.out).2.2); (case side2 => exact (Kd.R_reads' HO291.out).2.1); (case side3 => exact ca_ (Kd.R_reads' HO295.out).2.2); (case side4 => exact (Kd.R_reads' HO295.out).2.1); rintro e w63 ⟨rfl, hb⟩; refine ⟨_, rfl, ?_⟩; have n0_ := Aside0.mk (Kd.R_below (ra_ HO283.out) hb); have n1_ := Aside0.mk (Kd.R_below (ra_ HO286.out) hb); have n2_ := Aside0.mk (Kd.R_below (ra_ HO291.out) hb); have n3_ := Aside0.mk (Kd.R_below (ra_ HO295.out) hb); have n4_ := bb_ BK277 hb; have n5_ := bb_ BK292 hb; have n6_ := Aside0.mk (below_step hb_ hb); clear HO283; clear HO286; clear HO291; clear HO295; clear BK277; clear BK292; clear HB; have HO283 := n0_; have HO286 := n1_; have HO291 := n2_; have HO295 := n3_; have BK277 := n4_; have BK292 := n5_; have HB := n6_; clear n0_ n1_ n2_ n3_ n4_ n5_ n6_; (try clear hb); (try clear hb2); (try clear hk); (try clear hi)))
       have n0_ := Aside0.mk (Kd.R_drew HO283.out)
       have n1_ := Aside0.mk (Kd.R_drew HO286.out)
       have n2_ := Aside0.mk (Kd.R_drew HO291.out)
       have n3_ := Aside0.mk (Kd.R_drew HO295.out)
       have n4_ := Aside0.mk (blk_drew BK277.out)
       have n5_ := Aside0.mk (blk_drew BK292.out)
       have n6_ := Aside0.mk (below_drew1 HB.out)
       clear HO283
       clear HO286
       clear HO291
       clear HO295
       clear BK277
       clear BK292
       clear HB
       have HO283 := n0_
       have HO286 := n1_
       have HO291 := n2_
       have HO295 := n3_
       have BK277 := n4_
       have BK292 := n5_
       have HB := n6_
       clear n0_ n1_ n2_ n3_ n4_ n5_ n6_
       refine start_ (n := 5) (S := fun w' => w'.cell? ⟨gb292, 0, none⟩ = some (.int .i64 t288) ∧ w'.cell? ⟨gb292, 1, none⟩ = some (.slice Ao59 t289.length co59) ∧ w'.cell? ⟨gb277, 0, none⟩ = some (.int .i64 a0_0) ∧ w'.cell? ⟨gb277, 1, none⟩ = some (.slice A0_1 l0_1.length c0_1)) (ds := []) #[false, false, false, false, false] (by kernel_rfl) rfl rfl ⟨(blk_cell BK292.out 0).trans rfl, (blk_cell BK292.out 1).trans rfl, (blk_cell BK277.out 0).trans rfl, (blk_cell BK277.out 1).trans rfl⟩ (fun hHeld => ?_)
       generalize w63.drew = w64 at HO283 HO286 HO291 HO295 BK277 BK292 HB hHeld ⊢
       refine take_ (i := 0) (N := some 35) (v := ?_) (a' := ?_) #[true, false, false, false, false] rfl rfl (by kernel_rfl) (fun _ _ _ h => h) (Or.inl ⟨by rfl, ?_⟩) hHeld ?_ ?_
       rotate_left
       ·rintro w' ⟨s0, s1, s2, s3⟩
        go_simp
        with_reducible rfl
       rotate_left
       ·simp only [Act.put, List.setIfInBounds_toArray, List.set_cons_zero, List.set_cons_succ, i64_w, i32_w]
        rfl
       refine take_ (i := 1) (N := some 36) (v := ?_) (a' := ?_) #[true, true, false, false, false] rfl rfl (by kernel_rfl) (fun _ _ _ h => h) (Or.inl ⟨by rfl, ?_⟩) hHeld ?_ ?_
       rotate_left
       ·rintro w' ⟨s0, s1, s2, s3⟩
        go_simp
        with_reducible rfl
       rotate_left
       ·simp only [Act.put, List.setIfInBounds_toArray, List.set_cons_zero, List.set_cons_succ, i64_w, i32_w]
        rfl
       refine one_ (i := 2) (N := some 37) #[true, true, true, false, false] rfl rfl (by kernel_rfl) (by decide) (fun K hK => ?_)
       refine goes_ Try.func26 (by kernel_rfl) rfl #[.agg #[.int .i64 a0_0, .slice A0_1 l0_1.length c0_1]] (by rfl) rfl rfl ls_ ?_
       with_reducible refine (laws_toCells.calls k a0_0 _ _ l0_1 t297 t298 _ ?side1 ?side2 A39.out).mono ?_
       (case side1 => exact cb_ HR0_1.out)
       (case side2 => exact HC0_1.out)
       rintro e w65 ⟨v299, rfl, ho0, hb⟩
       refine ⟨_, rfl, ?_⟩
       have n0_ := Aside0.mk (Kd.R_elder' (ra_ HO283.out) (Kd.R_base ho0) hb)
       have n1_ := Aside0.mk (Kd.R_below (ra_ HO286.out) hb)
       have n2_ := Aside0.mk (Kd.R_elder' (ra_ HO291.out) (Kd.R_base ho0) hb)
       have n3_ := Aside0.mk (Kd.R_below (ra_ HO295.out) hb)
       have n4_ := Aside0.mk (Kd.R_lower (Kd.R_new' (Kd.R_new' ho0 (Kd.R_lt (ra_ HO283.out))) (Kd.R_lt (ra_ HO291.out))) (below_size hb_))
       have n5_ := bb_ BK277 hb
       have n6_ := bb_ BK292 hb
       have n7_ := Aside0.mk (below_step hb_ hb)
       clear HO283
       clear HO286
       clear HO291
       clear HO295
       clear BK277
       clear BK292
       clear HB
       have HO283 := n0_
       have HO286 := n1_
       have HO291 := n2_
       have HO295 := n3_
       have HO300 := n4_
       have BK277 := n5_
       have BK292 := n6_
       have HB := n7_
       clear n0_ n1_ n2_ n3_ n4_ n5_ n6_ n7_
       (try clear hb)
       (try clear hb2)
       (try clear hk)
       (try clear hi)
       (try clear ho0)
       obtain ⟨Ao66, co66, eo66⟩ := Kd.R_slice HO300.out
       (first | subst eo66 | (injection eo66 with f1_ f2_ f3_; have f4_ := f1_.symm; have f5_ := f3_.symm; clear f1_ f2_ f3_; subst f4_; subst f5_))
       refine hK.out _ _ ⟨(blk_cell BK292.out 0).trans rfl, (blk_cell BK292.out 1).trans rfl, (blk_cell BK277.out 0).trans rfl, (blk_cell BK277.out 1).trans rfl⟩ (fun hHeld => ?_)
       clear hK K
       refine norm_ (a' := ?_) ?_ ?_
       rotate_left
       ·show Act.put _ (some 37) _ = _
        simp only [Act.put, List.setIfInBounds_toArray, List.set_cons_zero, List.set_cons_succ, i64_w, i32_w]
        rfl
       refine one_ (i := 3) (N := some 38) #[true, true, true, true, false] rfl rfl (by kernel_rfl) (by decide) (fun K hK => ?_)
       refine goes_ Try.func29 (by kernel_rfl) rfl #[.agg #[.int .i64 t288, .slice Ao59 t289.length co59], .agg #[.int .i64 t297, .slice Ao66 t298.length co66]] (by rfl) rfl rfl ls_ ?_
       with_reducible refine (laws_eqCells.calls k t288 _ _ t289 t297 _ _ t298 true _ ?side1 ?side2 ?side3 ?side4 A40.out).mono ?_
       (case side1 => exact ca_ (Kd.R_reads' HO291.out).2.2)
       (case side2 => exact (Kd.R_reads' HO291.out).2.1)
       (case side3 => exact ca_ (Kd.R_reads' HO300.out).2.2)
       (case side4 => exact (Kd.R_reads' HO300.out).2.1)
       rintro e w67 ⟨rfl, hb⟩
       refine ⟨_, rfl, ?_⟩
       have n0_ := Aside0.mk (Kd.R_below (ra_ HO283.out) hb)
       have n1_ := Aside0.mk (Kd.R_below (ra_ HO286.out) hb)
       have n2_ := Aside0.mk (Kd.R_below (ra_ HO291.out) hb)
       have n3_ := Aside0.mk (Kd.R_below (ra_ HO295.out) hb)
       have n4_ := Aside0.mk (Kd.R_below (ra_ HO300.out) hb)
       have n5_ := bb_ BK277 hb
       have n6_ := bb_ BK292 hb
       have n7_ := Aside0.mk (below_step hb_ hb)
       clear HO283
       clear HO286
       clear HO291
       clear HO295
       clear HO300
       clear BK277
       clear BK292
       clear HB
       have HO283 := n0_
       have HO286 := n1_
       have HO291 := n2_
       have HO295 := n3_
       have HO300 := n4_
       have BK277 := n5_
       have BK292 := n6_
       have HB := n7_
       clear n0_ n1_ n2_ n3_ n4_ n5_ n6_ n7_
       (try clear hb)
       (try clear hb2)
       (try clear hk)
       (try clear hi)
       refine hK.out _ _ ⟨(blk_cell BK292.out 0).trans rfl, (blk_cell BK292.out 1).trans rfl, (blk_cell BK277.out 0).trans rfl, (blk_cell BK277.out 1).trans rfl⟩ (fun hHeld => ?_)
       clear hK K
       refine norm_ (a' := ?_) ?_ ?_
       rotate_left
       ·show Act.put _ (some 38) _ = _
        simp only [Act.put, List.setIfInBounds_toArray, List.set_cons_zero, List.set_cons_succ, i64_w, i32_w]
        rfl
       refine pure_ (i := 4) (N := some 39) (v := ?_) (a' := ?_) #[true, true, true, true, true] rfl rfl (by kernel_rfl) (fun _ _ _ h => h) (Or.inl ⟨by rfl, ?_⟩) ?_ ?_
       rotate_left
       ·intro w'
        go_simp
        with_reducible rfl
       rotate_left
       ·simp only [Act.put, List.setIfInBounds_toArray, List.set_cons_zero, List.set_cons_succ, i64_w, i32_w]
        rfl
       refine done_ (by kernel_rfl) ?_
       try go_wp2_with (first | ((with_reducible refine gate_callee (f := 27) rfl ?_); refine goesL_ (some 42) rfl rfl Try.func27 (by kernel_rfl) rfl #[.slice A1 l1.length c1] rfl ls_ ?_; (with_reducible refine (laws_toTripS.calls k _ _ l1 t302 _ ?side1 ?side2 A42.out).mono ?_); (case side1 => exact cb_ HR1.out); (case side2 => exact HC1.out); rintro e w68 ⟨v303, rfl, ho0, hb⟩; refine ⟨_, rfl, ?_⟩; have n0_ := Aside0.mk (Kd.R_below (ra_ HO283.out) hb); have n1_ := Aside0.mk (Kd.R_elder' (ra_ HO286.out) (Kd.R_base ho0) hb); have n2_ := Aside0.mk (Kd.R_below (ra_ HO291.out) hb); have n3_ := Aside0.mk (Kd.R_elder' (ra_ HO295.out) (Kd.R_base ho0) hb); have n4_ := Aside0.mk (Kd.R_below (ra_ HO300.out) hb); have n5_ := Aside0.mk (Kd.R_lower (Kd.R_new' (Kd.R_new' ho0 (Kd.R_lt (ra_ HO286.out))) (Kd.R_lt (ra_ HO295.out))) (below_size hb_)); have n6_ := bb_ BK277 hb; have n7_ := bb_ BK292 hb; have n8_ := Aside0.mk (below_step hb_ hb); clear HO283; clear HO286; clear HO291; clear HO295; clear HO300; clear BK277; clear BK292; clear HB; have HO283 := n0_; have HO286 := n1_; have HO291 := n2_; have HO295 := n3_; have HO300 := n4_; have HO304 := n5_; have BK277 := n6_; have BK292 := n7_; have HB := n8_; clear n0_ n1_ n2_ n3_ n4_ n5_ n6_ n7_ n8_; (try clear hb); (try clear hb2); (try clear hk); (try clear hi); (try clear ho0); obtain ⟨Ao69, co69, eo69⟩ := Kd.R_slice HO304.out; subst eo69) | ((with_reducible refine gate_callee (f := 30) rfl ?_); refine goesL_ (some 43) rfl rfl Try.func30 (by kernel_rfl) rfl #[.slice Ao62 t293.length co62, .slice Ao69 t302.length co69] rfl ls_ ?_; (with_reducible refine (laws_eqTripS.calls k _ _ t293 _ _ t302 true _ ?side1 ?side2 ?side3 ?side4 A43.out).mono ?_); (case side1 => exact ca_ (Kd.R_reads' HO295.out).2.2); (case side2 => exact (Kd.R_reads' HO295.out).2.1); (case side3 => exact ca_ (Kd.R_reads' HO304.out).2.2); (case side4 => exact (Kd.R_reads' HO304.out).2.1); rintro e w70 ⟨rfl, hb⟩; refine ⟨_, rfl, ?_⟩; have n0_ := Aside0.mk (Kd.R_below (ra_ HO283.out) hb); have n1_ := Aside0.mk (Kd.R_below (ra_ HO286.out) hb); have n2_ := Aside0.mk (Kd.R_below (ra_ HO291.out) hb); have n3_ := Aside0.mk (Kd.R_below (ra_ HO295.out) hb); have n4_ := Aside0.mk (Kd.R_below (ra_ HO300.out) hb); have n5_ := Aside0.mk (Kd.R_below (ra_ HO304.out) hb); have n6_ := bb_ BK277 hb; have n7_ := bb_ BK292 hb; have n8_ := Aside0.mk (below_step hb_ hb); clear HO283; clear HO286; clear HO291; clear HO295; clear HO300; clear HO304; clear BK277; clear BK292; clear HB; have HO283 := n0_; have HO286 := n1_; have HO291 := n2_; have HO295 := n3_; have HO300 := n4_; have HO304 := n5_; have BK277 := n6_; have BK292 := n7_; have HB := n8_; clear n0_ n1_ n2_ n3_ n4_ n5_ n6_ n7_ n8_; (try clear hb); (try clear hb2); (try clear hk); (try clear hi)))
       go_ret
       exact ⟨er_, hb_⟩
      ·replace c44 := Bool.eq_false_iff.mpr c44
       subst c44
       rw [if_neg (show ¬ (false = true) by decide)] at H
       obtain rfl := Option.some.inj H
       go_enter Try.func5, Try.ntmps5
       try go_wp2_with (first | ((with_reducible refine gate_dst (N := 2) rfl ?_); refine box_event ?hg (N := 2) ?hd (cs := #[.int .i64 a0_0, .slice A0_1 l0_1.length c0_1]) (t := 34) ?hr ?_; (case hd => rfl); (case hg => rfl); (case hr => first | (go_simp; done) | (go_simp; rfl)); intro gb277 hg w71 hbox hb; have n0_ := Aside0.mk (below_step hb_ hb); have n1_ := Aside0.mk (hbox); have n2_ : Aside0 (w.heap.size ≤ gb277) := gz_; have n3_ : Aside0 (w.heap.size ≤ gb277) := gz_; clear HB; have HB := n0_; have BK277 := n1_; have GW277 := n2_; have GE277 := n3_; clear n0_ n1_ n2_ n3_; clear hb hbox hg; have hcz72_0 : w71.cell? ⟨gb277, 0, none⟩ = some (.int .i64 a0_0) := (blk_cell BK277.out 0).trans rfl; have hcz72_1 : w71.cell? ⟨gb277, 1, none⟩ = some (.slice A0_1 l0_1.length c0_1) := (blk_cell BK277.out 1).trans rfl; have hfz72_0 := blk_frozen BK277.out 0; have hfz72_1 := blk_frozen BK277.out 1) | ((with_reducible refine gate_callee (f := 23) rfl ?_); refine goesL_ (some 12) rfl rfl Try.func23 (by kernel_rfl) rfl #[.agg #[.int .i64 a0_0, .slice A0_1 l0_1.length c0_1], .int .i64 1048576] rfl ls_ ?_; (with_reducible refine (laws_szCells.calls a0_0 _ _ l0_1 1048576 t278 _ ?side1 ?side2 A3.out).mono ?_); (case side1 => exact cb_ HR0_1.out); (case side2 => exact HC0_1.out); rintro e w73 ⟨rfl, hb⟩; refine ⟨_, rfl, ?_⟩; have n0_ := bb_ BK277 hb; have n1_ := Aside0.mk (below_step hb_ hb); clear BK277; clear HB; have BK277 := n0_; have HB := n1_; clear n0_ n1_; (try clear hb); (try clear hb2); (try clear hk); (try clear hi)) | ((with_reducible refine gate_callee (f := 24) rfl ?_); refine goesL_ (some 17) rfl rfl Try.func24 (by kernel_rfl) rfl #[.slice A1 l1.length c1, .int .i64 t278] rfl ls_ ?_; (with_reducible refine (laws_szTripS.calls _ _ l1 t278 t279 _ ?side1 ?side2 A8.out).mono ?_); (case side1 => exact cb_ HR1.out); (case side2 => exact HC1.out); rintro e w' ⟨rfl, ⟨nd, rfl⟩⟩; refine ⟨_, rfl, ?_⟩; (try (rw [drewN_self w73]; generalize hq_ : World.drewN w73 _ = w73; have n0_ : Aside0 (w73.heap[gb277]? = some (.cells #[.int .i64 a0_0, .slice A0_1 l0_1.length c0_1] 34 (0, 0))) := ⟨by rw [← hq_]; exact (bk_ BK277.out)⟩; have n1_ : Aside0 (Below w.heap.size w w73) := ⟨by rw [← hq_]; exact hb_⟩; clear BK277 HB hq_; have BK277 := n0_; have HB := n1_; clear n0_ n1_)); have hcz74_0 : w73.cell? ⟨gb277, 0, none⟩ = some (.int .i64 a0_0) := (blk_cell BK277.out 0).trans rfl; have hcz74_1 : w73.cell? ⟨gb277, 1, none⟩ = some (.slice A0_1 l0_1.length c0_1) := (blk_cell BK277.out 1).trans rfl; have hfz74_0 := blk_frozen BK277.out 0; have hfz74_1 := blk_frozen BK277.out 1) | ((with_reducible refine gate_callee (f := 26) rfl ?_); refine goesL_ (some 21) rfl rfl Try.func26 (by kernel_rfl) rfl #[.agg #[.int .i64 a0_0, .slice A0_1 l0_1.length c0_1]] rfl ls_ ?_; (with_reducible refine (laws_toCells.calls k a0_0 _ _ l0_1 t280 t281 _ ?side1 ?side2 A13.out).mono ?_); (case side1 => exact cb_ HR0_1.out); (case side2 => exact HC0_1.out); rintro e w75 ⟨v282, rfl, ho0, hb⟩; refine ⟨_, rfl, ?_⟩; have n0_ := Aside0.mk (Kd.R_lower ho0 (below_size hb_)); have n1_ := bb_ BK277 hb; have n2_ := Aside0.mk (below_step hb_ hb); clear BK277; clear HB; have HO283 := n0_; have BK277 := n1_; have HB := n2_; clear n0_ n1_ n2_; (try clear hb); (try clear hb2); (try clear hk); (try clear hi); (try clear ho0)) | ((with_reducible refine gate_callee (f := 27) rfl ?_); refine goesL_ (some 23) rfl rfl Try.func27 (by kernel_rfl) rfl #[.slice A1 l1.length c1] rfl ls_ ?_; (with_reducible refine (laws_toTripS.calls k _ _ l1 t284 _ ?side1 ?side2 A14.out).mono ?_); (case side1 => exact cb_ HR1.out); (case side2 => exact HC1.out); rintro e w76 ⟨v285, rfl, ho0, hb⟩; refine ⟨_, rfl, ?_⟩; have n0_ := Aside0.mk (Kd.R_below (ra_ HO283.out) hb); have n1_ := Aside0.mk (Kd.R_lower ho0 (below_size hb_)); have n2_ := bb_ BK277 hb; have n3_ := Aside0.mk (below_step hb_ hb); clear HO283; clear BK277; clear HB; have HO283 := n0_; have HO286 := n1_; have BK277 := n2_; have HB := n3_; clear n0_ n1_ n2_ n3_; (try clear hb); (try clear hb2); (try clear hk); (try clear hi); (try clear ho0); obtain ⟨Ao77, co77, eo77⟩ := Kd.R_slice HO283.out; subst eo77; obtain ⟨Ao78, co78, eo78⟩ := Kd.R_slice HO286.out; subst eo78) | ((with_reducible refine gate_callee (f := 25) rfl ?_); refine goesL_ (some 24) rfl rfl Try.func25 (by kernel_rfl) rfl #[.agg #[.int .i64 t280, .slice Ao77 t281.length co77], .slice Ao78 t284.length co78] rfl ls_ ?_; (with_reducible refine (spec_GoodTrips.calls k t280 _ _ t281 _ _ t284 t287 _ ?side1 ?side2 ?side3 ?side4 A15.out).mono ?_); (case side1 => exact ca_ (Kd.R_reads' HO283.out).2.2); (case side2 => exact (Kd.R_reads' HO283.out).2.1); (case side3 => exact ca_ (Kd.R_reads' HO286.out).2.2); (case side4 => exact (Kd.R_reads' HO286.out).2.1); rintro e w79 ⟨rfl, hb⟩; refine ⟨_, rfl, ?_⟩; have n0_ := Aside0.mk (Kd.R_below (ra_ HO283.out) hb); have n1_ := Aside0.mk (Kd.R_below (ra_ HO286.out) hb); have n2_ := bb_ BK277 hb; have n3_ := Aside0.mk (below_step hb_ hb); clear HO283; clear HO286; clear BK277; clear HB; have HO283 := n0_; have HO286 := n1_; have BK277 := n2_; have HB := n3_; clear n0_ n1_ n2_ n3_; (try clear hb); (try clear hb2); (try clear hk); (try clear hi); have hcz80_0 : w79.cell? ⟨gb277, 0, none⟩ = some (.int .i64 a0_0) := (blk_cell BK277.out 0).trans rfl; have hcz80_1 : w79.cell? ⟨gb277, 1, none⟩ = some (.slice A0_1 l0_1.length c0_1) := (blk_cell BK277.out 1).trans rfl; have hfz80_0 := blk_frozen BK277.out 0; have hfz80_1 := blk_frozen BK277.out 1) | ((with_reducible refine gate_callee (f := 26) rfl ?_); refine goesL_ (some 26) rfl rfl Try.func26 (by kernel_rfl) rfl #[.agg #[.int .i64 a0_0, .slice A0_1 l0_1.length c0_1]] rfl ls_ ?_; (with_reducible refine (laws_toCells.calls k a0_0 _ _ l0_1 t288 t289 _ ?side1 ?side2 A16.out).mono ?_); (case side1 => exact cb_ HR0_1.out); (case side2 => exact HC0_1.out); rintro e w81 ⟨v290, rfl, ho0, hb⟩; refine ⟨_, rfl, ?_⟩; have n0_ := Aside0.mk (Kd.R_elder' (ra_ HO283.out) (Kd.R_base ho0) hb); have n1_ := Aside0.mk (Kd.R_below (ra_ HO286.out) hb); have n2_ := Aside0.mk (Kd.R_lower (Kd.R_new' ho0 (Kd.R_lt (ra_ HO283.out))) (below_size hb_)); have n3_ := bb_ BK277 hb; have n4_ := Aside0.mk (below_step hb_ hb); clear HO283; clear HO286; clear BK277; clear HB; have HO283 := n0_; have HO286 := n1_; have HO291 := n2_; have BK277 := n3_; have HB := n4_; clear n0_ n1_ n2_ n3_ n4_; (try clear hb); (try clear hb2); (try clear hk); (try clear hi); (try clear ho0)) | ((with_reducible refine gate_dst (N := 7) rfl ?_); refine box_event ?hg (N := 7) ?hd (cs := #[.int .i64 0, .slice none 0 0]) (t := 39) ?hr ?_; (case hd => rfl); (case hg => rfl); (case hr => first | (go_simp; done) | (go_simp; rfl)); intro gb292 hg w82 hbox hb; have n0_ := Aside0.mk (Kd.R_below (ra_ HO283.out) hb); have n1_ := Aside0.mk (Kd.R_below (ra_ HO286.out) hb); have n2_ := Aside0.mk (Kd.R_below (ra_ HO291.out) hb); have n3_ := bb_ BK277 hb; have n4_ := Aside0.mk (below_step hb_ hb); have n5_ := Aside0.mk (hbox); have n6_ : Aside0 (w.heap.size ≤ gb292) := gz_; have n7_ : Aside0 (w.heap.size ≤ gb292) := gz_; have n8_ := Aside0.mk ((by rw [hg]; exact Nat.ne_of_lt (blk_lt (g := gb277) (o := .cells #[.int .i64 a0_0, .slice A0_1 l0_1.length c0_1] 34 (0, 0)) (bk_ BK277.out)) : gb277 ≠ gb292)); have n9_ := Aside0.mk ((by rw [hg]; exact Nat.ne_of_gt (blk_lt (g := gb277) (o := .cells #[.int .i64 a0_0, .slice A0_1 l0_1.length c0_1] 34 (0, 0)) (bk_ BK277.out)) : gb292 ≠ gb277)); clear HO283; clear HO286; clear HO291; clear BK277; clear HB; have HO283 := n0_; have HO286 := n1_; have HO291 := n2_; have BK277 := n3_; have HB := n4_; have BK292 := n5_; have GW292 := n6_; have GE292 := n7_; have NB277_292 := n8_; have NB292_277 := n9_; clear n0_ n1_ n2_ n3_ n4_ n5_ n6_ n7_ n8_ n9_; clear hb hbox hg; have hnb83 := NB292_277.out; have hnc83 := NB277_292.out; have hcz84_0 : w82.cell? ⟨gb292, 0, none⟩ = some (.int .i64 0) := (blk_cell BK292.out 0).trans rfl; have hcz84_1 : w82.cell? ⟨gb292, 1, none⟩ = some (.slice none 0 0) := (blk_cell BK292.out 1).trans rfl; have hfz84_0 := blk_frozen BK292.out 0; have hfz84_1 := blk_frozen BK292.out 1; obtain ⟨Ao85, co85, eo85⟩ := Kd.R_slice HO291.out; subst eo85) | ((with_reducible refine gate_callee (f := 27) rfl ?_); refine goesL_ (some 28) rfl rfl Try.func27 (by kernel_rfl) rfl #[.slice A1 l1.length c1] rfl ls_ ?_; (with_reducible refine (laws_toTripS.calls k _ _ l1 t293 _ ?side1 ?side2 A17.out).mono ?_); (case side1 => exact Kd.C_below HR1.out hb_); (case side2 => exact HC1.out); rintro e w86 ⟨v294, rfl, ho0, hb⟩; refine ⟨_, rfl, ?_⟩; have n0_ := Aside0.mk (Kd.R_below (by (with_reducible repeat (first | apply Kd.R_alloc | apply Kd.R_drewN | apply Kd.R_drew)); exact (Kd.R_mono (Kd.R_far (p := ⟨gb292, 1, none⟩) (Kd.R_far (p := ⟨gb292, 0, none⟩) (Kd.R_types HO283.out BK292.out (by decide)) (fun _ hk => hk.2) (.int .i64 t288)) (fun _ hk => hk.2) (.slice Ao85 t289.length co85)) (fun _ h_ => h_.1))) hb); have n1_ := Aside0.mk (Kd.R_elder' (by (with_reducible repeat (first | apply Kd.R_alloc | apply Kd.R_drewN | apply Kd.R_drew)); exact (Kd.R_mono (Kd.R_far (p := ⟨gb292, 1, none⟩) (Kd.R_far (p := ⟨gb292, 0, none⟩) (Kd.R_types HO286.out BK292.out (by decide)) (fun _ hk => hk.2) (.int .i64 t288)) (fun _ hk => hk.2) (.slice Ao85 t289.length co85)) (fun _ h_ => h_.1))) (Kd.R_base ho0) hb); have n2_ := Aside0.mk (Kd.R_below (by (with_reducible repeat (first | apply Kd.R_alloc | apply Kd.R_drewN | apply Kd.R_drew)); exact (Kd.R_mono (Kd.R_far (p := ⟨gb292, 1, none⟩) (Kd.R_far (p := ⟨gb292, 0, none⟩) (Kd.R_types HO291.out BK292.out (by decide)) (fun _ hk => hk.2) (.int .i64 t288)) (fun _ hk => hk.2) (.slice Ao85 t289.length co85)) (fun _ h_ => h_.1))) hb); have n3_ := Aside0.mk (Kd.R_lower (Kd.R_new' ho0 (Kd.R_lt (by (with_reducible repeat (first | apply Kd.R_alloc | apply Kd.R_drewN | apply Kd.R_drew)); exact (Kd.R_mono (Kd.R_far (p := ⟨gb292, 1, none⟩) (Kd.R_far (p := ⟨gb292, 0, none⟩) (Kd.R_types HO286.out BK292.out (by decide)) (fun _ hk => hk.2) (.int .i64 t288)) (fun _ hk => hk.2) (.slice Ao85 t289.length co85)) (fun _ h_ => h_.1))))) (below_size hb_)); have n4_ := Aside0.mk (blk_below (g := gb277) (o := .cells #[.int .i64 a0_0, .slice A0_1 l0_1.length c0_1] 34 (0, 0)) (by (with_reducible repeat (first | refine blk_drewN ?_ _ | refine blk_drew ?_ | refine blk_alloc ?_ _)); refine blk_far ?_ NB277_292.out _; (with_reducible repeat (first | refine blk_drewN ?_ _ | refine blk_drew ?_ | refine blk_alloc ?_ _)); refine blk_far ?_ NB277_292.out _; (with_reducible repeat (first | refine blk_drewN ?_ _ | refine blk_drew ?_ | refine blk_alloc ?_ _)); exact BK277.out) hb); have n5_ := Aside0.mk (blk_below (g := gb292) (o := .cells #[.int .i64 t288, .slice Ao85 t289.length co85] 39 (0, 0)) (by (with_reducible repeat (first | refine blk_drewN ?_ _ | refine blk_drew ?_ | refine blk_alloc ?_ _)); refine blk_put (cs := #[.int .i64 t288, .slice none 0 0]) ?_ 1 _ rfl; (with_reducible repeat (first | refine blk_drewN ?_ _ | refine blk_drew ?_ | refine blk_alloc ?_ _)); refine blk_put (cs := #[.int .i64 0, .slice none 0 0]) ?_ 0 _ rfl; (with_reducible repeat (first | refine blk_drewN ?_ _ | refine blk_drew ?_ | refine blk_alloc ?_ _)); exact BK292.out) hb); have n6_ := Aside0.mk (below_step hb_ hb); clear HO283; clear HO286; clear HO291; clear BK277; clear BK292; clear HB; have HO283 := n0_; have HO286 := n1_; have HO291 := n2_; have HO295 := n3_; have BK277 := n4_; have BK292 := n5_; have HB := n6_; clear n0_ n1_ n2_ n3_ n4_ n5_ n6_; (try clear hb); (try clear hb2); (try clear hk); (try clear hi); (try clear ho0); have hcz87_0 : w86.cell? ⟨gb292, 0, none⟩ = some (.int .i64 t288) := (blk_cell BK292.out 0).trans rfl; have hcz87_1 : w86.cell? ⟨gb292, 1, none⟩ = some (.slice Ao85 t289.length co85) := (blk_cell BK292.out 1).trans rfl; have hfz87_0 := blk_frozen BK292.out 0; have hfz87_1 := blk_frozen BK292.out 1; obtain ⟨Ao88, co88, eo88⟩ := Kd.R_slice HO295.out; subst eo88) | ((with_reducible refine gate_callee (f := 28) rfl ?_); refine goesL_ (some 31) rfl rfl Try.func28 (by kernel_rfl) rfl #[.agg #[.int .i64 t288, .slice Ao85 t289.length co85], .slice Ao88 t293.length co88] rfl ls_ ?_; (with_reducible refine (impl_GoodTrips.calls k t288 _ _ t289 _ _ t293 t296 _ ?side1 ?side2 ?side3 ?side4 A18.out).mono ?_); (case side1 => exact ca_ (Kd.R_reads' HO291.out).2.2); (case side2 => exact (Kd.R_reads' HO291.out).2.1); (case side3 => exact ca_ (Kd.R_reads' HO295.out).2.2); (case side4 => exact (Kd.R_reads' HO295.out).2.1); rintro e w89 ⟨rfl, hb⟩; refine ⟨_, rfl, ?_⟩; have n0_ := Aside0.mk (Kd.R_below (ra_ HO283.out) hb); have n1_ := Aside0.mk (Kd.R_below (ra_ HO286.out) hb); have n2_ := Aside0.mk (Kd.R_below (ra_ HO291.out) hb); have n3_ := Aside0.mk (Kd.R_below (ra_ HO295.out) hb); have n4_ := bb_ BK277 hb; have n5_ := bb_ BK292 hb; have n6_ := Aside0.mk (below_step hb_ hb); clear HO283; clear HO286; clear HO291; clear HO295; clear BK277; clear BK292; clear HB; have HO283 := n0_; have HO286 := n1_; have HO291 := n2_; have HO295 := n3_; have BK277 := n4_; have BK292 := n5_; have HB := n6_; clear n0_ n1_ n2_ n3_ n4_ n5_ n6_; (try clear hb); (try clear hb2); (try clear hk); (try clear hi)))
       have n0_ := Aside0.mk (Kd.R_drew HO283.out)
       have n1_ := Aside0.mk (Kd.R_drew HO286.out)
       have n2_ := Aside0.mk (Kd.R_drew HO291.out)
       have n3_ := Aside0.mk (Kd.R_drew HO295.out)
       have n4_ := Aside0.mk (blk_drew BK277.out)
       have n5_ := Aside0.mk (blk_drew BK292.out)
       have n6_ := Aside0.mk (below_drew1 HB.out)
       clear HO283
       clear HO286
       clear HO291
       clear HO295
       clear BK277
       clear BK292
       clear HB
       have HO283 := n0_
       have HO286 := n1_
       have HO291 := n2_
       have HO295 := n3_
       have BK277 := n4_
       have BK292 := n5_
       have HB := n6_
       clear n0_ n1_ n2_ n3_ n4_ n5_ n6_
       refine start_ (n := 5) (S := fun w' => w'.cell? ⟨gb292, 0, none⟩ = some (.int .i64 t288) ∧ w'.cell? ⟨gb292, 1, none⟩ = some (.slice Ao85 t289.length co85) ∧ w'.cell? ⟨gb277, 0, none⟩ = some (.int .i64 a0_0) ∧ w'.cell? ⟨gb277, 1, none⟩ = some (.slice A0_1 l0_1.length c0_1)) (ds := []) #[false, false, false, false, false] (by kernel_rfl) rfl rfl ⟨(blk_cell BK292.out 0).trans rfl, (blk_cell BK292.out 1).trans rfl, (blk_cell BK277.out 0).trans rfl, (blk_cell BK277.out 1).trans rfl⟩ (fun hHeld => ?_)
       generalize w89.drew = w90 at HO283 HO286 HO291 HO295 BK277 BK292 HB hHeld ⊢
       refine take_ (i := 0) (N := some 35) (v := ?_) (a' := ?_) #[true, false, false, false, false] rfl rfl (by kernel_rfl) (fun _ _ _ h => h) (Or.inl ⟨by rfl, ?_⟩) hHeld ?_ ?_
       rotate_left
       ·rintro w' ⟨s0, s1, s2, s3⟩
        go_simp
        with_reducible rfl
       rotate_left
       ·simp only [Act.put, List.setIfInBounds_toArray, List.set_cons_zero, List.set_cons_succ, i64_w, i32_w]
        rfl
       refine take_ (i := 1) (N := some 36) (v := ?_) (a' := ?_) #[true, true, false, false, false] rfl rfl (by kernel_rfl) (fun _ _ _ h => h) (Or.inl ⟨by rfl, ?_⟩) hHeld ?_ ?_
       rotate_left
       ·rintro w' ⟨s0, s1, s2, s3⟩
        go_simp
        with_reducible rfl
       rotate_left
       ·simp only [Act.put, List.setIfInBounds_toArray, List.set_cons_zero, List.set_cons_succ, i64_w, i32_w]
        rfl
       refine one_ (i := 2) (N := some 37) #[true, true, true, false, false] rfl rfl (by kernel_rfl) (by decide) (fun K hK => ?_)
       refine goes_ Try.func26 (by kernel_rfl) rfl #[.agg #[.int .i64 a0_0, .slice A0_1 l0_1.length c0_1]] (by rfl) rfl rfl ls_ ?_
       with_reducible refine (laws_toCells.calls k a0_0 _ _ l0_1 t297 t298 _ ?side1 ?side2 A39.out).mono ?_
       (case side1 => exact cb_ HR0_1.out)
       (case side2 => exact HC0_1.out)
       rintro e w91 ⟨v299, rfl, ho0, hb⟩
       refine ⟨_, rfl, ?_⟩
       have n0_ := Aside0.mk (Kd.R_elder' (ra_ HO283.out) (Kd.R_base ho0) hb)
       have n1_ := Aside0.mk (Kd.R_below (ra_ HO286.out) hb)
       have n2_ := Aside0.mk (Kd.R_elder' (ra_ HO291.out) (Kd.R_base ho0) hb)
       have n3_ := Aside0.mk (Kd.R_below (ra_ HO295.out) hb)
       have n4_ := Aside0.mk (Kd.R_lower (Kd.R_new' (Kd.R_new' ho0 (Kd.R_lt (ra_ HO283.out))) (Kd.R_lt (ra_ HO291.out))) (below_size hb_))
       have n5_ := bb_ BK277 hb
       have n6_ := bb_ BK292 hb
       have n7_ := Aside0.mk (below_step hb_ hb)
       clear HO283
       clear HO286
       clear HO291
       clear HO295
       clear BK277
       clear BK292
       clear HB
       have HO283 := n0_
       have HO286 := n1_
       have HO291 := n2_
       have HO295 := n3_
       have HO300 := n4_
       have BK277 := n5_
       have BK292 := n6_
       have HB := n7_
       clear n0_ n1_ n2_ n3_ n4_ n5_ n6_ n7_
       (try clear hb)
       (try clear hb2)
       (try clear hk)
       (try clear hi)
       (try clear ho0)
       obtain ⟨Ao92, co92, eo92⟩ := Kd.R_slice HO300.out
       (first | subst eo92 | (injection eo92 with f1_ f2_ f3_; have f4_ := f1_.symm; have f5_ := f3_.symm; clear f1_ f2_ f3_; subst f4_; subst f5_))
       refine hK.out _ _ ⟨(blk_cell BK292.out 0).trans rfl, (blk_cell BK292.out 1).trans rfl, (blk_cell BK277.out 0).trans rfl, (blk_cell BK277.out 1).trans rfl⟩ (fun hHeld => ?_)
       clear hK K
       refine norm_ (a' := ?_) ?_ ?_
       rotate_left
       ·show Act.put _ (some 37) _ = _
        simp only [Act.put, List.setIfInBounds_toArray, List.set_cons_zero, List.set_cons_succ, i64_w, i32_w]
        rfl
       refine one_ (i := 3) (N := some 38) #[true, true, true, true, false] rfl rfl (by kernel_rfl) (by decide) (fun K hK => ?_)
       refine goes_ Try.func29 (by kernel_rfl) rfl #[.agg #[.int .i64 t288, .slice Ao85 t289.length co85], .agg #[.int .i64 t297, .slice Ao92 t298.length co92]] (by rfl) rfl rfl ls_ ?_
       with_reducible refine (laws_eqCells.calls k t288 _ _ t289 t297 _ _ t298 true _ ?side1 ?side2 ?side3 ?side4 A40.out).mono ?_
       (case side1 => exact ca_ (Kd.R_reads' HO291.out).2.2)
       (case side2 => exact (Kd.R_reads' HO291.out).2.1)
       (case side3 => exact ca_ (Kd.R_reads' HO300.out).2.2)
       (case side4 => exact (Kd.R_reads' HO300.out).2.1)
       rintro e w93 ⟨rfl, hb⟩
       refine ⟨_, rfl, ?_⟩
       have n0_ := Aside0.mk (Kd.R_below (ra_ HO283.out) hb)
       have n1_ := Aside0.mk (Kd.R_below (ra_ HO286.out) hb)
       have n2_ := Aside0.mk (Kd.R_below (ra_ HO291.out) hb)
       have n3_ := Aside0.mk (Kd.R_below (ra_ HO295.out) hb)
       have n4_ := Aside0.mk (Kd.R_below (ra_ HO300.out) hb)
       have n5_ := bb_ BK277 hb
       have n6_ := bb_ BK292 hb
       have n7_ := Aside0.mk (below_step hb_ hb)
       clear HO283
       clear HO286
       clear HO291
       clear HO295
       clear HO300
       clear BK277
       clear BK292
       clear HB
       have HO283 := n0_
       have HO286 := n1_
       have HO291 := n2_
       have HO295 := n3_
       have HO300 := n4_
       have BK277 := n5_
       have BK292 := n6_
       have HB := n7_
       clear n0_ n1_ n2_ n3_ n4_ n5_ n6_ n7_
       (try clear hb)
       (try clear hb2)
       (try clear hk)
       (try clear hi)
       refine hK.out _ _ ⟨(blk_cell BK292.out 0).trans rfl, (blk_cell BK292.out 1).trans rfl, (blk_cell BK277.out 0).trans rfl, (blk_cell BK277.out 1).trans rfl⟩ (fun hHeld => ?_)
       clear hK K
       refine norm_ (a' := ?_) ?_ ?_
       rotate_left
       ·show Act.put _ (some 38) _ = _
        simp only [Act.put, List.setIfInBounds_toArray, List.set_cons_zero, List.set_cons_succ, i64_w, i32_w]
        rfl
       refine pure_ (i := 4) (N := some 39) (v := ?_) (a' := ?_) #[true, true, true, true, true] rfl rfl (by kernel_rfl) (fun _ _ _ h => h) (Or.inl ⟨by rfl, ?_⟩) ?_ ?_
       rotate_left
       ·intro w'
        go_simp
        with_reducible rfl
       rotate_left
       ·simp only [Act.put, List.setIfInBounds_toArray, List.set_cons_zero, List.set_cons_succ, i64_w, i32_w]
        rfl
       refine done_ (by kernel_rfl) ?_
       try go_wp2_with (first | ((with_reducible refine gate_callee (f := 27) rfl ?_); refine goesL_ (some 42) rfl rfl Try.func27 (by kernel_rfl) rfl #[.slice A1 l1.length c1] rfl ls_ ?_; (with_reducible refine (laws_toTripS.calls k _ _ l1 t302 _ ?side1 ?side2 A42.out).mono ?_); (case side1 => exact cb_ HR1.out); (case side2 => exact HC1.out); rintro e w94 ⟨v303, rfl, ho0, hb⟩; refine ⟨_, rfl, ?_⟩; have n0_ := Aside0.mk (Kd.R_below (ra_ HO283.out) hb); have n1_ := Aside0.mk (Kd.R_elder' (ra_ HO286.out) (Kd.R_base ho0) hb); have n2_ := Aside0.mk (Kd.R_below (ra_ HO291.out) hb); have n3_ := Aside0.mk (Kd.R_elder' (ra_ HO295.out) (Kd.R_base ho0) hb); have n4_ := Aside0.mk (Kd.R_below (ra_ HO300.out) hb); have n5_ := Aside0.mk (Kd.R_lower (Kd.R_new' (Kd.R_new' ho0 (Kd.R_lt (ra_ HO286.out))) (Kd.R_lt (ra_ HO295.out))) (below_size hb_)); have n6_ := bb_ BK277 hb; have n7_ := bb_ BK292 hb; have n8_ := Aside0.mk (below_step hb_ hb); clear HO283; clear HO286; clear HO291; clear HO295; clear HO300; clear BK277; clear BK292; clear HB; have HO283 := n0_; have HO286 := n1_; have HO291 := n2_; have HO295 := n3_; have HO300 := n4_; have HO304 := n5_; have BK277 := n6_; have BK292 := n7_; have HB := n8_; clear n0_ n1_ n2_ n3_ n4_ n5_ n6_ n7_ n8_; (try clear hb); (try clear hb2); (try clear hk); (try clear hi); (try clear ho0); obtain ⟨Ao95, co95, eo95⟩ := Kd.R_slice HO304.out; subst eo95) | ((with_reducible refine gate_callee (f := 30) rfl ?_); refine goesL_ (some 43) rfl rfl Try.func30 (by kernel_rfl) rfl #[.slice Ao88 t293.length co88, .slice Ao95 t302.length co95] rfl ls_ ?_; (with_reducible refine (laws_eqTripS.calls k _ _ t293 _ _ t302 false _ ?side1 ?side2 ?side3 ?side4 A43.out).mono ?_); (case side1 => exact ca_ (Kd.R_reads' HO295.out).2.2); (case side2 => exact (Kd.R_reads' HO295.out).2.1); (case side3 => exact ca_ (Kd.R_reads' HO304.out).2.2); (case side4 => exact (Kd.R_reads' HO304.out).2.1); rintro e w96 ⟨rfl, hb⟩; refine ⟨_, rfl, ?_⟩; have n0_ := Aside0.mk (Kd.R_below (ra_ HO283.out) hb); have n1_ := Aside0.mk (Kd.R_below (ra_ HO286.out) hb); have n2_ := Aside0.mk (Kd.R_below (ra_ HO291.out) hb); have n3_ := Aside0.mk (Kd.R_below (ra_ HO295.out) hb); have n4_ := Aside0.mk (Kd.R_below (ra_ HO300.out) hb); have n5_ := Aside0.mk (Kd.R_below (ra_ HO304.out) hb); have n6_ := bb_ BK277 hb; have n7_ := bb_ BK292 hb; have n8_ := Aside0.mk (below_step hb_ hb); clear HO283; clear HO286; clear HO291; clear HO295; clear HO300; clear HO304; clear BK277; clear BK292; clear HB; have HO283 := n0_; have HO286 := n1_; have HO291 := n2_; have HO295 := n3_; have HO300 := n4_; have HO304 := n5_; have BK277 := n6_; have BK292 := n7_; have HB := n8_; clear n0_ n1_ n2_ n3_ n4_ n5_ n6_ n7_ n8_; (try clear hb); (try clear hb2); (try clear hk); (try clear hi)))
       go_ret
       exact ⟨er_, hb_⟩
     ·replace c41 := Bool.eq_false_iff.mpr c41
      subst c41
      rw [if_neg (show ¬ (false = true) by decide)] at H
      obtain rfl := Option.some.inj H
      go_enter Try.func5, Try.ntmps5
      try go_wp2_with (first | ((with_reducible refine gate_dst (N := 2) rfl ?_); refine box_event ?hg (N := 2) ?hd (cs := #[.int .i64 a0_0, .slice A0_1 l0_1.length c0_1]) (t := 34) ?hr ?_; (case hd => rfl); (case hg => rfl); (case hr => first | (go_simp; done) | (go_simp; rfl)); intro gb277 hg w97 hbox hb; have n0_ := Aside0.mk (below_step hb_ hb); have n1_ := Aside0.mk (hbox); have n2_ : Aside0 (w.heap.size ≤ gb277) := gz_; have n3_ : Aside0 (w.heap.size ≤ gb277) := gz_; clear HB; have HB := n0_; have BK277 := n1_; have GW277 := n2_; have GE277 := n3_; clear n0_ n1_ n2_ n3_; clear hb hbox hg; have hcz98_0 : w97.cell? ⟨gb277, 0, none⟩ = some (.int .i64 a0_0) := (blk_cell BK277.out 0).trans rfl; have hcz98_1 : w97.cell? ⟨gb277, 1, none⟩ = some (.slice A0_1 l0_1.length c0_1) := (blk_cell BK277.out 1).trans rfl; have hfz98_0 := blk_frozen BK277.out 0; have hfz98_1 := blk_frozen BK277.out 1) | ((with_reducible refine gate_callee (f := 23) rfl ?_); refine goesL_ (some 12) rfl rfl Try.func23 (by kernel_rfl) rfl #[.agg #[.int .i64 a0_0, .slice A0_1 l0_1.length c0_1], .int .i64 1048576] rfl ls_ ?_; (with_reducible refine (laws_szCells.calls a0_0 _ _ l0_1 1048576 t278 _ ?side1 ?side2 A3.out).mono ?_); (case side1 => exact cb_ HR0_1.out); (case side2 => exact HC0_1.out); rintro e w99 ⟨rfl, hb⟩; refine ⟨_, rfl, ?_⟩; have n0_ := bb_ BK277 hb; have n1_ := Aside0.mk (below_step hb_ hb); clear BK277; clear HB; have BK277 := n0_; have HB := n1_; clear n0_ n1_; (try clear hb); (try clear hb2); (try clear hk); (try clear hi)) | ((with_reducible refine gate_callee (f := 24) rfl ?_); refine goesL_ (some 17) rfl rfl Try.func24 (by kernel_rfl) rfl #[.slice A1 l1.length c1, .int .i64 t278] rfl ls_ ?_; (with_reducible refine (laws_szTripS.calls _ _ l1 t278 t279 _ ?side1 ?side2 A8.out).mono ?_); (case side1 => exact cb_ HR1.out); (case side2 => exact HC1.out); rintro e w' ⟨rfl, ⟨nd, rfl⟩⟩; refine ⟨_, rfl, ?_⟩; (try (rw [drewN_self w99]; generalize hq_ : World.drewN w99 _ = w99; have n0_ : Aside0 (w99.heap[gb277]? = some (.cells #[.int .i64 a0_0, .slice A0_1 l0_1.length c0_1] 34 (0, 0))) := ⟨by rw [← hq_]; exact (bk_ BK277.out)⟩; have n1_ : Aside0 (Below w.heap.size w w99) := ⟨by rw [← hq_]; exact hb_⟩; clear BK277 HB hq_; have BK277 := n0_; have HB := n1_; clear n0_ n1_)); have hcz100_0 : w99.cell? ⟨gb277, 0, none⟩ = some (.int .i64 a0_0) := (blk_cell BK277.out 0).trans rfl; have hcz100_1 : w99.cell? ⟨gb277, 1, none⟩ = some (.slice A0_1 l0_1.length c0_1) := (blk_cell BK277.out 1).trans rfl; have hfz100_0 := blk_frozen BK277.out 0; have hfz100_1 := blk_frozen BK277.out 1) | ((with_reducible refine gate_callee (f := 26) rfl ?_); refine goesL_ (some 21) rfl rfl Try.func26 (by kernel_rfl) rfl #[.agg #[.int .i64 a0_0, .slice A0_1 l0_1.length c0_1]] rfl ls_ ?_; (with_reducible refine (laws_toCells.calls k a0_0 _ _ l0_1 t280 t281 _ ?side1 ?side2 A13.out).mono ?_); (case side1 => exact cb_ HR0_1.out); (case side2 => exact HC0_1.out); rintro e w101 ⟨v282, rfl, ho0, hb⟩; refine ⟨_, rfl, ?_⟩; have n0_ := Aside0.mk (Kd.R_lower ho0 (below_size hb_)); have n1_ := bb_ BK277 hb; have n2_ := Aside0.mk (below_step hb_ hb); clear BK277; clear HB; have HO283 := n0_; have BK277 := n1_; have HB := n2_; clear n0_ n1_ n2_; (try clear hb); (try clear hb2); (try clear hk); (try clear hi); (try clear ho0)) | ((with_reducible refine gate_callee (f := 27) rfl ?_); refine goesL_ (some 23) rfl rfl Try.func27 (by kernel_rfl) rfl #[.slice A1 l1.length c1] rfl ls_ ?_; (with_reducible refine (laws_toTripS.calls k _ _ l1 t284 _ ?side1 ?side2 A14.out).mono ?_); (case side1 => exact cb_ HR1.out); (case side2 => exact HC1.out); rintro e w102 ⟨v285, rfl, ho0, hb⟩; refine ⟨_, rfl, ?_⟩; have n0_ := Aside0.mk (Kd.R_below (ra_ HO283.out) hb); have n1_ := Aside0.mk (Kd.R_lower ho0 (below_size hb_)); have n2_ := bb_ BK277 hb; have n3_ := Aside0.mk (below_step hb_ hb); clear HO283; clear BK277; clear HB; have HO283 := n0_; have HO286 := n1_; have BK277 := n2_; have HB := n3_; clear n0_ n1_ n2_ n3_; (try clear hb); (try clear hb2); (try clear hk); (try clear hi); (try clear ho0); obtain ⟨Ao103, co103, eo103⟩ := Kd.R_slice HO283.out; subst eo103; obtain ⟨Ao104, co104, eo104⟩ := Kd.R_slice HO286.out; subst eo104) | ((with_reducible refine gate_callee (f := 25) rfl ?_); refine goesL_ (some 24) rfl rfl Try.func25 (by kernel_rfl) rfl #[.agg #[.int .i64 t280, .slice Ao103 t281.length co103], .slice Ao104 t284.length co104] rfl ls_ ?_; (with_reducible refine (spec_GoodTrips.calls k t280 _ _ t281 _ _ t284 t287 _ ?side1 ?side2 ?side3 ?side4 A15.out).mono ?_); (case side1 => exact ca_ (Kd.R_reads' HO283.out).2.2); (case side2 => exact (Kd.R_reads' HO283.out).2.1); (case side3 => exact ca_ (Kd.R_reads' HO286.out).2.2); (case side4 => exact (Kd.R_reads' HO286.out).2.1); rintro e w105 ⟨rfl, hb⟩; refine ⟨_, rfl, ?_⟩; have n0_ := Aside0.mk (Kd.R_below (ra_ HO283.out) hb); have n1_ := Aside0.mk (Kd.R_below (ra_ HO286.out) hb); have n2_ := bb_ BK277 hb; have n3_ := Aside0.mk (below_step hb_ hb); clear HO283; clear HO286; clear BK277; clear HB; have HO283 := n0_; have HO286 := n1_; have BK277 := n2_; have HB := n3_; clear n0_ n1_ n2_ n3_; (try clear hb); (try clear hb2); (try clear hk); (try clear hi); have hcz106_0 : w105.cell? ⟨gb277, 0, none⟩ = some (.int .i64 a0_0) := (blk_cell BK277.out 0).trans rfl; have hcz106_1 : w105.cell? ⟨gb277, 1, none⟩ = some (.slice A0_1 l0_1.length c0_1) := (blk_cell BK277.out 1).trans rfl; have hfz106_0 := blk_frozen BK277.out 0; have hfz106_1 := blk_frozen BK277.out 1) | ((with_reducible refine gate_callee (f := 26) rfl ?_); refine goesL_ (some 26) rfl rfl Try.func26 (by kernel_rfl) rfl #[.agg #[.int .i64 a0_0, .slice A0_1 l0_1.length c0_1]] rfl ls_ ?_; (with_reducible refine (laws_toCells.calls k a0_0 _ _ l0_1 t288 t289 _ ?side1 ?side2 A16.out).mono ?_); (case side1 => exact cb_ HR0_1.out); (case side2 => exact HC0_1.out); rintro e w107 ⟨v290, rfl, ho0, hb⟩; refine ⟨_, rfl, ?_⟩; have n0_ := Aside0.mk (Kd.R_elder' (ra_ HO283.out) (Kd.R_base ho0) hb); have n1_ := Aside0.mk (Kd.R_below (ra_ HO286.out) hb); have n2_ := Aside0.mk (Kd.R_lower (Kd.R_new' ho0 (Kd.R_lt (ra_ HO283.out))) (below_size hb_)); have n3_ := bb_ BK277 hb; have n4_ := Aside0.mk (below_step hb_ hb); clear HO283; clear HO286; clear BK277; clear HB; have HO283 := n0_; have HO286 := n1_; have HO291 := n2_; have BK277 := n3_; have HB := n4_; clear n0_ n1_ n2_ n3_ n4_; (try clear hb); (try clear hb2); (try clear hk); (try clear hi); (try clear ho0)) | ((with_reducible refine gate_dst (N := 7) rfl ?_); refine box_event ?hg (N := 7) ?hd (cs := #[.int .i64 0, .slice none 0 0]) (t := 39) ?hr ?_; (case hd => rfl); (case hg => rfl); (case hr => first | (go_simp; done) | (go_simp; rfl)); intro gb292 hg w108 hbox hb; have n0_ := Aside0.mk (Kd.R_below (ra_ HO283.out) hb); have n1_ := Aside0.mk (Kd.R_below (ra_ HO286.out) hb); have n2_ := Aside0.mk (Kd.R_below (ra_ HO291.out) hb); have n3_ := bb_ BK277 hb; have n4_ := Aside0.mk (below_step hb_ hb); have n5_ := Aside0.mk (hbox); have n6_ : Aside0 (w.heap.size ≤ gb292) := gz_; have n7_ : Aside0 (w.heap.size ≤ gb292) := gz_; have n8_ := Aside0.mk ((by rw [hg]; exact Nat.ne_of_lt (blk_lt (g := gb277) (o := .cells #[.int .i64 a0_0, .slice A0_1 l0_1.length c0_1] 34 (0, 0)) (bk_ BK277.out)) : gb277 ≠ gb292)); have n9_ := Aside0.mk ((by rw [hg]; exact Nat.ne_of_gt (blk_lt (g := gb277) (o := .cells #[.int .i64 a0_0, .slice A0_1 l0_1.length c0_1] 34 (0, 0)) (bk_ BK277.out)) : gb292 ≠ gb277)); clear HO283; clear HO286; clear HO291; clear BK277; clear HB; have HO283 := n0_; have HO286 := n1_; have HO291 := n2_; have BK277 := n3_; have HB := n4_; have BK292 := n5_; have GW292 := n6_; have GE292 := n7_; have NB277_292 := n8_; have NB292_277 := n9_; clear n0_ n1_ n2_ n3_ n4_ n5_ n6_ n7_ n8_ n9_; clear hb hbox hg; have hnb109 := NB292_277.out; have hnc109 := NB277_292.out; have hcz110_0 : w108.cell? ⟨gb292, 0, none⟩ = some (.int .i64 0) := (blk_cell BK292.out 0).trans rfl; have hcz110_1 : w108.cell? ⟨gb292, 1, none⟩ = some (.slice none 0 0) := (blk_cell BK292.out 1).trans rfl; have hfz110_0 := blk_frozen BK292.out 0; have hfz110_1 := blk_frozen BK292.out 1; obtain ⟨Ao111, co111, eo111⟩ := Kd.R_slice HO291.out; subst eo111) | ((with_reducible refine gate_callee (f := 27) rfl ?_); refine goesL_ (some 28) rfl rfl Try.func27 (by kernel_rfl) rfl #[.slice A1 l1.length c1] rfl ls_ ?_; (with_reducible refine (laws_toTripS.calls k _ _ l1 t293 _ ?side1 ?side2 A17.out).mono ?_); (case side1 => exact Kd.C_below HR1.out hb_); (case side2 => exact HC1.out); rintro e w112 ⟨v294, rfl, ho0, hb⟩; refine ⟨_, rfl, ?_⟩; have n0_ := Aside0.mk (Kd.R_below (by (with_reducible repeat (first | apply Kd.R_alloc | apply Kd.R_drewN | apply Kd.R_drew)); exact (Kd.R_mono (Kd.R_far (p := ⟨gb292, 1, none⟩) (Kd.R_far (p := ⟨gb292, 0, none⟩) (Kd.R_types HO283.out BK292.out (by decide)) (fun _ hk => hk.2) (.int .i64 t288)) (fun _ hk => hk.2) (.slice Ao111 t289.length co111)) (fun _ h_ => h_.1))) hb); have n1_ := Aside0.mk (Kd.R_elder' (by (with_reducible repeat (first | apply Kd.R_alloc | apply Kd.R_drewN | apply Kd.R_drew)); exact (Kd.R_mono (Kd.R_far (p := ⟨gb292, 1, none⟩) (Kd.R_far (p := ⟨gb292, 0, none⟩) (Kd.R_types HO286.out BK292.out (by decide)) (fun _ hk => hk.2) (.int .i64 t288)) (fun _ hk => hk.2) (.slice Ao111 t289.length co111)) (fun _ h_ => h_.1))) (Kd.R_base ho0) hb); have n2_ := Aside0.mk (Kd.R_below (by (with_reducible repeat (first | apply Kd.R_alloc | apply Kd.R_drewN | apply Kd.R_drew)); exact (Kd.R_mono (Kd.R_far (p := ⟨gb292, 1, none⟩) (Kd.R_far (p := ⟨gb292, 0, none⟩) (Kd.R_types HO291.out BK292.out (by decide)) (fun _ hk => hk.2) (.int .i64 t288)) (fun _ hk => hk.2) (.slice Ao111 t289.length co111)) (fun _ h_ => h_.1))) hb); have n3_ := Aside0.mk (Kd.R_lower (Kd.R_new' ho0 (Kd.R_lt (by (with_reducible repeat (first | apply Kd.R_alloc | apply Kd.R_drewN | apply Kd.R_drew)); exact (Kd.R_mono (Kd.R_far (p := ⟨gb292, 1, none⟩) (Kd.R_far (p := ⟨gb292, 0, none⟩) (Kd.R_types HO286.out BK292.out (by decide)) (fun _ hk => hk.2) (.int .i64 t288)) (fun _ hk => hk.2) (.slice Ao111 t289.length co111)) (fun _ h_ => h_.1))))) (below_size hb_)); have n4_ := Aside0.mk (blk_below (g := gb277) (o := .cells #[.int .i64 a0_0, .slice A0_1 l0_1.length c0_1] 34 (0, 0)) (by (with_reducible repeat (first | refine blk_drewN ?_ _ | refine blk_drew ?_ | refine blk_alloc ?_ _)); refine blk_far ?_ NB277_292.out _; (with_reducible repeat (first | refine blk_drewN ?_ _ | refine blk_drew ?_ | refine blk_alloc ?_ _)); refine blk_far ?_ NB277_292.out _; (with_reducible repeat (first | refine blk_drewN ?_ _ | refine blk_drew ?_ | refine blk_alloc ?_ _)); exact BK277.out) hb); have n5_ := Aside0.mk (blk_below (g := gb292) (o := .cells #[.int .i64 t288, .slice Ao111 t289.length co111] 39 (0, 0)) (by (with_reducible repeat (first | refine blk_drewN ?_ _ | refine blk_drew ?_ | refine blk_alloc ?_ _)); refine blk_put (cs := #[.int .i64 t288, .slice none 0 0]) ?_ 1 _ rfl; (with_reducible repeat (first | refine blk_drewN ?_ _ | refine blk_drew ?_ | refine blk_alloc ?_ _)); refine blk_put (cs := #[.int .i64 0, .slice none 0 0]) ?_ 0 _ rfl; (with_reducible repeat (first | refine blk_drewN ?_ _ | refine blk_drew ?_ | refine blk_alloc ?_ _)); exact BK292.out) hb); have n6_ := Aside0.mk (below_step hb_ hb); clear HO283; clear HO286; clear HO291; clear BK277; clear BK292; clear HB; have HO283 := n0_; have HO286 := n1_; have HO291 := n2_; have HO295 := n3_; have BK277 := n4_; have BK292 := n5_; have HB := n6_; clear n0_ n1_ n2_ n3_ n4_ n5_ n6_; (try clear hb); (try clear hb2); (try clear hk); (try clear hi); (try clear ho0); have hcz113_0 : w112.cell? ⟨gb292, 0, none⟩ = some (.int .i64 t288) := (blk_cell BK292.out 0).trans rfl; have hcz113_1 : w112.cell? ⟨gb292, 1, none⟩ = some (.slice Ao111 t289.length co111) := (blk_cell BK292.out 1).trans rfl; have hfz113_0 := blk_frozen BK292.out 0; have hfz113_1 := blk_frozen BK292.out 1; obtain ⟨Ao114, co114, eo114⟩ := Kd.R_slice HO295.out; subst eo114) | ((with_reducible refine gate_callee (f := 28) rfl ?_); refine goesL_ (some 31) rfl rfl Try.func28 (by kernel_rfl) rfl #[.agg #[.int .i64 t288, .slice Ao111 t289.length co111], .slice Ao114 t293.length co114] rfl ls_ ?_; (with_reducible refine (impl_GoodTrips.calls k t288 _ _ t289 _ _ t293 t296 _ ?side1 ?side2 ?side3 ?side4 A18.out).mono ?_); (case side1 => exact ca_ (Kd.R_reads' HO291.out).2.2); (case side2 => exact (Kd.R_reads' HO291.out).2.1); (case side3 => exact ca_ (Kd.R_reads' HO295.out).2.2); (case side4 => exact (Kd.R_reads' HO295.out).2.1); rintro e w115 ⟨rfl, hb⟩; refine ⟨_, rfl, ?_⟩; have n0_ := Aside0.mk (Kd.R_below (ra_ HO283.out) hb); have n1_ := Aside0.mk (Kd.R_below (ra_ HO286.out) hb); have n2_ := Aside0.mk (Kd.R_below (ra_ HO291.out) hb); have n3_ := Aside0.mk (Kd.R_below (ra_ HO295.out) hb); have n4_ := bb_ BK277 hb; have n5_ := bb_ BK292 hb; have n6_ := Aside0.mk (below_step hb_ hb); clear HO283; clear HO286; clear HO291; clear HO295; clear BK277; clear BK292; clear HB; have HO283 := n0_; have HO286 := n1_; have HO291 := n2_; have HO295 := n3_; have BK277 := n4_; have BK292 := n5_; have HB := n6_; clear n0_ n1_ n2_ n3_ n4_ n5_ n6_; (try clear hb); (try clear hb2); (try clear hk); (try clear hi)))
      have n0_ := Aside0.mk (Kd.R_drew HO283.out)
      have n1_ := Aside0.mk (Kd.R_drew HO286.out)
      have n2_ := Aside0.mk (Kd.R_drew HO291.out)
      have n3_ := Aside0.mk (Kd.R_drew HO295.out)
      have n4_ := Aside0.mk (blk_drew BK277.out)
      have n5_ := Aside0.mk (blk_drew BK292.out)
      have n6_ := Aside0.mk (below_drew1 HB.out)
      clear HO283
      clear HO286
      clear HO291
      clear HO295
      clear BK277
      clear BK292
      clear HB
      have HO283 := n0_
      have HO286 := n1_
      have HO291 := n2_
      have HO295 := n3_
      have BK277 := n4_
      have BK292 := n5_
      have HB := n6_
      clear n0_ n1_ n2_ n3_ n4_ n5_ n6_
      refine start_ (n := 5) (S := fun w' => w'.cell? ⟨gb292, 0, none⟩ = some (.int .i64 t288) ∧ w'.cell? ⟨gb292, 1, none⟩ = some (.slice Ao111 t289.length co111) ∧ w'.cell? ⟨gb277, 0, none⟩ = some (.int .i64 a0_0) ∧ w'.cell? ⟨gb277, 1, none⟩ = some (.slice A0_1 l0_1.length c0_1)) (ds := []) #[false, false, false, false, false] (by kernel_rfl) rfl rfl ⟨(blk_cell BK292.out 0).trans rfl, (blk_cell BK292.out 1).trans rfl, (blk_cell BK277.out 0).trans rfl, (blk_cell BK277.out 1).trans rfl⟩ (fun hHeld => ?_)
      generalize w115.drew = w116 at HO283 HO286 HO291 HO295 BK277 BK292 HB hHeld ⊢
      refine take_ (i := 0) (N := some 35) (v := ?_) (a' := ?_) #[true, false, false, false, false] rfl rfl (by kernel_rfl) (fun _ _ _ h => h) (Or.inl ⟨by rfl, ?_⟩) hHeld ?_ ?_
      rotate_left
      ·rintro w' ⟨s0, s1, s2, s3⟩
       go_simp
       with_reducible rfl
      rotate_left
      ·simp only [Act.put, List.setIfInBounds_toArray, List.set_cons_zero, List.set_cons_succ, i64_w, i32_w]
       rfl
      refine take_ (i := 1) (N := some 36) (v := ?_) (a' := ?_) #[true, true, false, false, false] rfl rfl (by kernel_rfl) (fun _ _ _ h => h) (Or.inl ⟨by rfl, ?_⟩) hHeld ?_ ?_
      rotate_left
      ·rintro w' ⟨s0, s1, s2, s3⟩
       go_simp
       with_reducible rfl
      rotate_left
      ·simp only [Act.put, List.setIfInBounds_toArray, List.set_cons_zero, List.set_cons_succ, i64_w, i32_w]
       rfl
      refine one_ (i := 2) (N := some 37) #[true, true, true, false, false] rfl rfl (by kernel_rfl) (by decide) (fun K hK => ?_)
      refine goes_ Try.func26 (by kernel_rfl) rfl #[.agg #[.int .i64 a0_0, .slice A0_1 l0_1.length c0_1]] (by rfl) rfl rfl ls_ ?_
      with_reducible refine (laws_toCells.calls k a0_0 _ _ l0_1 t297 t298 _ ?side1 ?side2 A39.out).mono ?_
      (case side1 => exact cb_ HR0_1.out)
      (case side2 => exact HC0_1.out)
      rintro e w117 ⟨v299, rfl, ho0, hb⟩
      refine ⟨_, rfl, ?_⟩
      have n0_ := Aside0.mk (Kd.R_elder' (ra_ HO283.out) (Kd.R_base ho0) hb)
      have n1_ := Aside0.mk (Kd.R_below (ra_ HO286.out) hb)
      have n2_ := Aside0.mk (Kd.R_elder' (ra_ HO291.out) (Kd.R_base ho0) hb)
      have n3_ := Aside0.mk (Kd.R_below (ra_ HO295.out) hb)
      have n4_ := Aside0.mk (Kd.R_lower (Kd.R_new' (Kd.R_new' ho0 (Kd.R_lt (ra_ HO283.out))) (Kd.R_lt (ra_ HO291.out))) (below_size hb_))
      have n5_ := bb_ BK277 hb
      have n6_ := bb_ BK292 hb
      have n7_ := Aside0.mk (below_step hb_ hb)
      clear HO283
      clear HO286
      clear HO291
      clear HO295
      clear BK277
      clear BK292
      clear HB
      have HO283 := n0_
      have HO286 := n1_
      have HO291 := n2_
      have HO295 := n3_
      have HO300 := n4_
      have BK277 := n5_
      have BK292 := n6_
      have HB := n7_
      clear n0_ n1_ n2_ n3_ n4_ n5_ n6_ n7_
      (try clear hb)
      (try clear hb2)
      (try clear hk)
      (try clear hi)
      (try clear ho0)
      obtain ⟨Ao118, co118, eo118⟩ := Kd.R_slice HO300.out
      (first | subst eo118 | (injection eo118 with f1_ f2_ f3_; have f4_ := f1_.symm; have f5_ := f3_.symm; clear f1_ f2_ f3_; subst f4_; subst f5_))
      refine hK.out _ _ ⟨(blk_cell BK292.out 0).trans rfl, (blk_cell BK292.out 1).trans rfl, (blk_cell BK277.out 0).trans rfl, (blk_cell BK277.out 1).trans rfl⟩ (fun hHeld => ?_)
      clear hK K
      refine norm_ (a' := ?_) ?_ ?_
      rotate_left
      ·show Act.put _ (some 37) _ = _
       simp only [Act.put, List.setIfInBounds_toArray, List.set_cons_zero, List.set_cons_succ, i64_w, i32_w]
       rfl
      refine one_ (i := 3) (N := some 38) #[true, true, true, true, false] rfl rfl (by kernel_rfl) (by decide) (fun K hK => ?_)
      refine goes_ Try.func29 (by kernel_rfl) rfl #[.agg #[.int .i64 t288, .slice Ao111 t289.length co111], .agg #[.int .i64 t297, .slice Ao118 t298.length co118]] (by rfl) rfl rfl ls_ ?_
      with_reducible refine (laws_eqCells.calls k t288 _ _ t289 t297 _ _ t298 false _ ?side1 ?side2 ?side3 ?side4 A40.out).mono ?_
      (case side1 => exact ca_ (Kd.R_reads' HO291.out).2.2)
      (case side2 => exact (Kd.R_reads' HO291.out).2.1)
      (case side3 => exact ca_ (Kd.R_reads' HO300.out).2.2)
      (case side4 => exact (Kd.R_reads' HO300.out).2.1)
      rintro e w119 ⟨rfl, hb⟩
      refine ⟨_, rfl, ?_⟩
      have n0_ := Aside0.mk (Kd.R_below (ra_ HO283.out) hb)
      have n1_ := Aside0.mk (Kd.R_below (ra_ HO286.out) hb)
      have n2_ := Aside0.mk (Kd.R_below (ra_ HO291.out) hb)
      have n3_ := Aside0.mk (Kd.R_below (ra_ HO295.out) hb)
      have n4_ := Aside0.mk (Kd.R_below (ra_ HO300.out) hb)
      have n5_ := bb_ BK277 hb
      have n6_ := bb_ BK292 hb
      have n7_ := Aside0.mk (below_step hb_ hb)
      clear HO283
      clear HO286
      clear HO291
      clear HO295
      clear HO300
      clear BK277
      clear BK292
      clear HB
      have HO283 := n0_
      have HO286 := n1_
      have HO291 := n2_
      have HO295 := n3_
      have HO300 := n4_
      have BK277 := n5_
      have BK292 := n6_
      have HB := n7_
      clear n0_ n1_ n2_ n3_ n4_ n5_ n6_ n7_
      (try clear hb)
      (try clear hb2)
      (try clear hk)
      (try clear hi)
      refine hK.out _ _ ⟨(blk_cell BK292.out 0).trans rfl, (blk_cell BK292.out 1).trans rfl, (blk_cell BK277.out 0).trans rfl, (blk_cell BK277.out 1).trans rfl⟩ (fun hHeld => ?_)
      clear hK K
      refine norm_ (a' := ?_) ?_ ?_
      rotate_left
      ·show Act.put _ (some 38) _ = _
       simp only [Act.put, List.setIfInBounds_toArray, List.set_cons_zero, List.set_cons_succ, i64_w, i32_w]
       rfl
      refine pure_ (i := 4) (N := some 39) (v := ?_) (a' := ?_) #[true, true, true, true, true] rfl rfl (by kernel_rfl) (fun _ _ _ h => h) (Or.inl ⟨by rfl, ?_⟩) ?_ ?_
      rotate_left
      ·intro w'
       go_simp
       with_reducible rfl
      rotate_left
      ·simp only [Act.put, List.setIfInBounds_toArray, List.set_cons_zero, List.set_cons_succ, i64_w, i32_w]
       rfl
      refine done_ (by kernel_rfl) ?_
      try go_wp2
      go_ret
      exact ⟨er_, hb_⟩

end Go.Proofs.Ytcldlljnaijmhaa.Pr
