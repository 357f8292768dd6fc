-- Written by this session's own print (wip/tools/mkmp.py) out of the translation. Lean checks it.
import Derived.Test.YtkhkgfihodljmaaPr0
import Derived.Test.YtkhkgfihodljmaaPr7
import Derived.Test.YtkhkgfihodljmaaPr9
import Derived.Test.YtkhkgfihodljmaaPr15
import Derived.Test.YtkhkgfihodljmaaPr19
import Derived.Test.YtkhkgfihodljmaaPr20
import Derived.Test.YtkhkgfihodljmaaPrd1
namespace Go.Proofs.Ytkhkgfihodljmaa.Pr
open Go.RowKit Go.Proofs.YtkhkgfihodljmaaW.PrintWords Go.Proofs.YtkhkgfihodljmaaW.PrintLast Go.Proofs.YtkhkgfihodljmaaW.PrintMore
attribute [local go_sem] max2_int min2_int max_two min_two max_three min_three max_four min_four   -- for this text's walks alone
set_option linter.unusedVariables false
set_option linter.unusedSimpArgs false

set_option maxHeartbeats 8000000 in
set_option maxRecDepth 100000 in
theorem laws_FnExactChartStep.calls (k : Nat) (A0_0 : Option Addr) (c0_0 : Nat) (l0_0 : List (S101)) (A0_1 : Option Addr) (c0_1 : Nat) (l0_1 : List (S103)) (a1 : Int) (a2 : Int) (r : Bool) (w : World) (hr0_0 : Kd.C k101 w A0_0 l0_0.length l0_0) (hc0_0 : l0_0.length ≤ c0_0) (hr0_1 : Kd.C k103 w A0_1 l0_1.length l0_1) (hc0_1 : l0_1.length ≤ c0_1) (h : laws_FnExactChartStep.f k l0_0 l0_1 a1 a2 = some r) :
   Calls Try.prog 8 #[.agg #[.slice A0_0 l0_0.length c0_0, .slice A0_1 l0_1.length c0_1], .int .i64 a1, .int .i64 a2] w fun e w' => e = .returned (.bool r) ∧ Below w.heap.size w w' := by
  have hu49 := Try.underlying49
  have hu55 := Try.underlying55
  have HR0_0 := Aside0.mk hr0_0
  have HC0_0 := Aside0.mk hc0_0
  clear hr0_0 hc0_0
  have HR0_1 := Aside0.mk hr0_1
  have HC0_1 := Aside0.mk hc0_1
  clear hr0_1 hc0_1
  have HB := Aside0.mk (Below.refl w.heap.size w)
  have H : ((laws_szChart.f l0_0 l0_1 1048576).bind fun t295 => (if t295 < 0 then (some true) else ((laws_toChart.f k l0_0 l0_1).bind fun bt296 => ((spec_ChartStep.f k bt296.1 bt296.2 a1 a2).bind fun t302 => ((laws_toChart.f k l0_0 l0_1).bind fun bt303 => ((impl_ChartStep.f k bt303.1 bt303.2 a1 a2).bind fun t310 => (if t310 = t302 then ((laws_toChart.f k l0_0 l0_1).bind fun bt311 => ((laws_eqChart.f k bt303.1 bt303.2 bt311.1 bt311.2).bind fun t317 => (if t317 = true then (some true) else (some false)))) else (some false)))))))) = some r := h
  clear h
  replace H := Option.bind_eq_some_iff.mp H
  obtain ⟨t295, A40, H⟩ := H
  replace H : (if t295 < 0 then (some true) else ((laws_toChart.f k l0_0 l0_1).bind fun bt296 => ((spec_ChartStep.f k bt296.1 bt296.2 a1 a2).bind fun t302 => ((laws_toChart.f k l0_0 l0_1).bind fun bt303 => ((impl_ChartStep.f k bt303.1 bt303.2 a1 a2).bind fun t310 => (if t310 = t302 then ((laws_toChart.f k l0_0 l0_1).bind fun bt311 => ((laws_eqChart.f k bt303.1 bt303.2 bt311.1 bt311.2).bind fun t317 => (if t317 = true then (some true) else (some false)))) else (some false))))))) = some r := H
  have A4 := Aside0.mk A40
  clear A40
  by_cases c5 : t295 < 0
  ·rw [if_pos c5] at H
   have c5b0 : decide (t295 < 0) = true := decide_eq_true c5
   clear c5
   obtain rfl := Option.some.inj H
   go_enter Try.func8, Try.ntmps8
   go_wp2_with (first | ((with_reducible refine gate_dst (N := 3) rfl ?_); refine box_event ?hg (N := 3) ?hd (cs := #[.slice A0_0 l0_0.length c0_0, .slice A0_1 l0_1.length c0_1]) (t := 49) ?hr ?_; (case hd => rfl); (case hg => rfl); (case hr => first | (go_simp; done) | (go_simp; rfl)); intro gb294 hg w6 hbox hb; have n0_ := Aside0.mk (below_step hb_ hb); have n1_ := Aside0.mk (hbox); have n2_ : Aside0 (w.heap.size ≤ gb294) := gz_; have n3_ : Aside0 (w.heap.size ≤ gb294) := gz_; clear HB; have HB := n0_; have BK294 := n1_; have GW294 := n2_; have GE294 := n3_; clear n0_ n1_ n2_ n3_; clear hb hbox hg; have hcz7_0 : w6.cell? ⟨gb294, 0, none⟩ = some (.slice A0_0 l0_0.length c0_0) := (blk_cell BK294.out 0).trans rfl; have hcz7_1 : w6.cell? ⟨gb294, 1, none⟩ = some (.slice A0_1 l0_1.length c0_1) := (blk_cell BK294.out 1).trans rfl; have hfz7_0 := blk_frozen BK294.out 0; have hfz7_1 := blk_frozen BK294.out 1) | ((with_reducible refine gate_callee (f := 31) rfl ?_); refine goesL_ (some 13) rfl rfl Try.func31 (by kernel_rfl) rfl #[.agg #[.slice A0_0 l0_0.length c0_0, .slice A0_1 l0_1.length c0_1], .int .i64 1048576] rfl ls_ ?_; (with_reducible refine (laws_szChart.calls _ _ l0_0 _ _ l0_1 1048576 t295 _ ?side1 ?side2 ?side3 ?side4 A4.out).mono ?_); (case side1 => exact cb_ HR0_0.out); (case side2 => exact HC0_0.out); (case side3 => exact cb_ HR0_1.out); (case side4 => exact HC0_1.out); rintro e w8 ⟨rfl, hb⟩; refine ⟨_, rfl, ?_⟩; have n0_ := bb_ BK294 hb; have n1_ := Aside0.mk (below_step hb_ hb); clear BK294; clear HB; have BK294 := n0_; have HB := n1_; clear n0_ n1_; (try clear hb); (try clear hb2); (try clear hk); (try clear hi)))
   go_ret
   exact ⟨er_, hb_⟩
  ·rw [if_neg c5] at H
   have c5b0 : decide (t295 < 0) = false := decide_eq_false c5
   clear c5
   replace H := Option.bind_eq_some_iff.mp H
   obtain ⟨⟨t296, t299⟩, A90, H⟩ := H
   replace H : ((spec_ChartStep.f k t296 t299 a1 a2).bind fun t302 => ((laws_toChart.f k l0_0 l0_1).bind fun bt303 => ((impl_ChartStep.f k bt303.1 bt303.2 a1 a2).bind fun t310 => (if t310 = t302 then ((laws_toChart.f k l0_0 l0_1).bind fun bt311 => ((laws_eqChart.f k bt303.1 bt303.2 bt311.1 bt311.2).bind fun t317 => (if t317 = true then (some true) else (some false)))) else (some false))))) = some r := H
   have A9 := Aside0.mk A90
   clear A90
   replace H := Option.bind_eq_some_iff.mp H
   obtain ⟨t302, A100, H⟩ := H
   replace H : ((laws_toChart.f k l0_0 l0_1).bind fun bt303 => ((impl_ChartStep.f k bt303.1 bt303.2 a1 a2).bind fun t310 => (if t310 = t302 then ((laws_toChart.f k l0_0 l0_1).bind fun bt311 => ((laws_eqChart.f k bt303.1 bt303.2 bt311.1 bt311.2).bind fun t317 => (if t317 = true then (some true) else (some false)))) else (some false)))) = some r := H
   have A10 := Aside0.mk A100
   clear A100
   replace H := Option.bind_eq_some_iff.mp H
   obtain ⟨⟨t303, t306⟩, A110, H⟩ := H
   replace H : ((impl_ChartStep.f k t303 t306 a1 a2).bind fun t310 => (if t310 = t302 then ((laws_toChart.f k l0_0 l0_1).bind fun bt311 => ((laws_eqChart.f k t303 t306 bt311.1 bt311.2).bind fun t317 => (if t317 = true then (some true) else (some false)))) else (some false))) = some r := H
   have A11 := Aside0.mk A110
   clear A110
   replace H := Option.bind_eq_some_iff.mp H
   obtain ⟨t310, A120, H⟩ := H
   replace H : (if t310 = t302 then ((laws_toChart.f k l0_0 l0_1).bind fun bt311 => ((laws_eqChart.f k t303 t306 bt311.1 bt311.2).bind fun t317 => (if t317 = true then (some true) else (some false)))) else (some false)) = some r := H
   have A12 := Aside0.mk A120
   clear A120
   by_cases c13 : t310 = t302
   ·rw [if_pos c13] at H
    have c13b0 : (t310 == t302) = true := beq_iff_eq.mpr c13
    have c13b1 : (t310 != t302) = false := bne_eq_false_iff_eq.mpr c13
    clear c13
    replace H := Option.bind_eq_some_iff.mp H
    obtain ⟨⟨t311, t314⟩, A140, H⟩ := H
    replace H : ((laws_eqChart.f k t303 t306 t311 t314).bind fun t317 => (if t317 = true then (some true) else (some false))) = some r := H
    have A14 := Aside0.mk A140
    clear A140
    replace H := Option.bind_eq_some_iff.mp H
    obtain ⟨t317, A150, H⟩ := H
    replace H : (if t317 = true then (some true) else (some false)) = some r := H
    have A15 := Aside0.mk A150
    clear A150
    by_cases c16 : t317 = true
    ·subst c16
     rw [if_pos rfl] at H
     obtain rfl := Option.some.inj H
     go_enter Try.func8, Try.ntmps8
     try go_wp2_with (first | ((with_reducible refine gate_dst (N := 3) rfl ?_); refine box_event ?hg (N := 3) ?hd (cs := #[.slice A0_0 l0_0.length c0_0, .slice A0_1 l0_1.length c0_1]) (t := 49) ?hr ?_; (case hd => rfl); (case hg => rfl); (case hr => first | (go_simp; done) | (go_simp; rfl)); intro gb294 hg w17 hbox hb; have n0_ := Aside0.mk (below_step hb_ hb); have n1_ := Aside0.mk (hbox); have n2_ : Aside0 (w.heap.size ≤ gb294) := gz_; have n3_ : Aside0 (w.heap.size ≤ gb294) := gz_; clear HB; have HB := n0_; have BK294 := n1_; have GW294 := n2_; have GE294 := n3_; clear n0_ n1_ n2_ n3_; clear hb hbox hg; have hcz18_0 : w17.cell? ⟨gb294, 0, none⟩ = some (.slice A0_0 l0_0.length c0_0) := (blk_cell BK294.out 0).trans rfl; have hcz18_1 : w17.cell? ⟨gb294, 1, none⟩ = some (.slice A0_1 l0_1.length c0_1) := (blk_cell BK294.out 1).trans rfl; have hfz18_0 := blk_frozen BK294.out 0; have hfz18_1 := blk_frozen BK294.out 1) | ((with_reducible refine gate_callee (f := 31) rfl ?_); refine goesL_ (some 13) rfl rfl Try.func31 (by kernel_rfl) rfl #[.agg #[.slice A0_0 l0_0.length c0_0, .slice A0_1 l0_1.length c0_1], .int .i64 1048576] rfl ls_ ?_; (with_reducible refine (laws_szChart.calls _ _ l0_0 _ _ l0_1 1048576 t295 _ ?side1 ?side2 ?side3 ?side4 A4.out).mono ?_); (case side1 => exact cb_ HR0_0.out); (case side2 => exact HC0_0.out); (case side3 => exact cb_ HR0_1.out); (case side4 => exact HC0_1.out); rintro e w19 ⟨rfl, hb⟩; refine ⟨_, rfl, ?_⟩; have n0_ := bb_ BK294 hb; have n1_ := Aside0.mk (below_step hb_ hb); clear BK294; clear HB; have BK294 := n0_; have HB := n1_; clear n0_ n1_; (try clear hb); (try clear hb2); (try clear hk); (try clear hi); have hcz20_0 : w19.cell? ⟨gb294, 0, none⟩ = some (.slice A0_0 l0_0.length c0_0) := (blk_cell BK294.out 0).trans rfl; have hcz20_1 : w19.cell? ⟨gb294, 1, none⟩ = some (.slice A0_1 l0_1.length c0_1) := (blk_cell BK294.out 1).trans rfl; have hfz20_0 := blk_frozen BK294.out 0; have hfz20_1 := blk_frozen BK294.out 1) | ((with_reducible refine gate_callee (f := 33) rfl ?_); refine goesL_ (some 17) rfl rfl Try.func33 (by kernel_rfl) rfl #[.agg #[.slice A0_0 l0_0.length c0_0, .slice A0_1 l0_1.length c0_1]] rfl ls_ ?_; (with_reducible refine (laws_toChart.calls k _ _ l0_0 _ _ l0_1 t296 t299 _ ?side1 ?side2 ?side3 ?side4 A9.out).mono ?_); (case side1 => exact cb_ HR0_0.out); (case side2 => exact HC0_0.out); (case side3 => exact cb_ HR0_1.out); (case side4 => exact HC0_1.out); rintro e w21 ⟨v297, v300, rfl, ho0, ho1, hb⟩; refine ⟨_, rfl, ?_⟩; have n0_ := Aside0.mk (Kd.R_lower ho0 (below_size hb_)); have n1_ := Aside0.mk (Kd.R_lower ho1 (below_size hb_)); have n2_ := bb_ BK294 hb; have n3_ := Aside0.mk (below_step hb_ hb); clear BK294; clear HB; have HO298 := n0_; have HO301 := n1_; have BK294 := n2_; have HB := n3_; clear n0_ n1_ n2_ n3_; (try clear hb); (try clear hb2); (try clear hk); (try clear hi); (try clear ho0); (try clear ho1); obtain ⟨Ao22, co22, eo22⟩ := Kd.R_slice HO298.out; subst eo22; obtain ⟨Ao23, co23, eo23⟩ := Kd.R_slice HO301.out; subst eo23) | ((with_reducible refine gate_callee (f := 38) rfl ?_); refine goesL_ (some 20) rfl rfl Try.func38 (by kernel_rfl) rfl #[.agg #[.slice Ao22 t296.length co22, .slice Ao23 t299.length co23], .int .i64 a1, .int .i64 a2] rfl ls_ ?_; (with_reducible refine (spec_ChartStep.calls k _ _ t296 _ _ t299 a1 a2 t302 _ ?side1 ?side2 ?side3 ?side4 A10.out).mono ?_); (case side1 => exact ca_ (Kd.R_reads' HO298.out).2.2); (case side2 => exact (Kd.R_reads' HO298.out).2.1); (case side3 => exact ca_ (Kd.R_reads' HO301.out).2.2); (case side4 => exact (Kd.R_reads' HO301.out).2.1); rintro e w24 ⟨rfl, hb⟩; refine ⟨_, rfl, ?_⟩; have n0_ := Aside0.mk (Kd.R_below (ra_ HO298.out) hb); have n1_ := Aside0.mk (Kd.R_below (ra_ HO301.out) hb); have n2_ := bb_ BK294 hb; have n3_ := Aside0.mk (below_step hb_ hb); clear HO298; clear HO301; clear BK294; clear HB; have HO298 := n0_; have HO301 := n1_; have BK294 := n2_; have HB := n3_; clear n0_ n1_ n2_ n3_; (try clear hb); (try clear hb2); (try clear hk); (try clear hi); have hcz25_0 : w24.cell? ⟨gb294, 0, none⟩ = some (.slice A0_0 l0_0.length c0_0) := (blk_cell BK294.out 0).trans rfl; have hcz25_1 : w24.cell? ⟨gb294, 1, none⟩ = some (.slice A0_1 l0_1.length c0_1) := (blk_cell BK294.out 1).trans rfl; have hfz25_0 := blk_frozen BK294.out 0; have hfz25_1 := blk_frozen BK294.out 1) | ((with_reducible refine gate_callee (f := 33) rfl ?_); refine goesL_ (some 22) rfl rfl Try.func33 (by kernel_rfl) rfl #[.agg #[.slice A0_0 l0_0.length c0_0, .slice A0_1 l0_1.length c0_1]] rfl ls_ ?_; (with_reducible refine (laws_toChart.calls k _ _ l0_0 _ _ l0_1 t303 t306 _ ?side1 ?side2 ?side3 ?side4 A11.out).mono ?_); (case side1 => exact cb_ HR0_0.out); (case side2 => exact HC0_0.out); (case side3 => exact cb_ HR0_1.out); (case side4 => exact HC0_1.out); rintro e w26 ⟨v304, v307, rfl, ho0, ho1, hb⟩; refine ⟨_, rfl, ?_⟩; have n0_ := Aside0.mk (Kd.R_elder' (ra_ HO298.out) (Kd.R_base ho0) hb); have n1_ := Aside0.mk (Kd.R_elder' (ra_ HO301.out) (Kd.R_base ho1) hb); have n2_ := Aside0.mk (Kd.R_lower (Kd.R_new' ho0 (Kd.R_lt (ra_ HO298.out))) (below_size hb_)); have n3_ := Aside0.mk (Kd.R_lower (Kd.R_new' ho1 (Kd.R_lt (ra_ HO301.out))) (below_size hb_)); have n4_ := bb_ BK294 hb; have n5_ := Aside0.mk (below_step hb_ hb); clear HO298; clear HO301; clear BK294; clear HB; have HO298 := n0_; have HO301 := n1_; have HO305 := n2_; have HO308 := n3_; have BK294 := n4_; have HB := n5_; clear n0_ n1_ n2_ n3_ n4_ n5_; (try clear hb); (try clear hb2); (try clear hk); (try clear hi); (try clear ho0); (try clear ho1)) | ((with_reducible refine gate_dst (N := 9) rfl ?_); refine box_event ?hg (N := 9) ?hd (cs := #[.slice none 0 0, .slice none 0 0]) (t := 55) ?hr ?_; (case hd => rfl); (case hg => rfl); (case hr => first | (go_simp; done) | (go_simp; rfl)); intro gb309 hg w27 hbox hb; have n0_ := Aside0.mk (Kd.R_below (ra_ HO298.out) hb); have n1_ := Aside0.mk (Kd.R_below (ra_ HO301.out) hb); have n2_ := Aside0.mk (Kd.R_below (ra_ HO305.out) hb); have n3_ := Aside0.mk (Kd.R_below (ra_ HO308.out) hb); have n4_ := bb_ BK294 hb; have n5_ := Aside0.mk (below_step hb_ hb); have n6_ := Aside0.mk (hbox); have n7_ : Aside0 (w.heap.size ≤ gb309) := gz_; have n8_ : Aside0 (w.heap.size ≤ gb309) := gz_; have n9_ := Aside0.mk ((by rw [hg]; exact Nat.ne_of_lt (blk_lt (g := gb294) (o := .cells #[.slice A0_0 l0_0.length c0_0, .slice A0_1 l0_1.length c0_1] 49 (0, 0)) (bk_ BK294.out)) : gb294 ≠ gb309)); have n10_ := Aside0.mk ((by rw [hg]; exact Nat.ne_of_gt (blk_lt (g := gb294) (o := .cells #[.slice A0_0 l0_0.length c0_0, .slice A0_1 l0_1.length c0_1] 49 (0, 0)) (bk_ BK294.out)) : gb309 ≠ gb294)); clear HO298; clear HO301; clear HO305; clear HO308; clear BK294; clear HB; have HO298 := n0_; have HO301 := n1_; have HO305 := n2_; have HO308 := n3_; have BK294 := n4_; have HB := n5_; have BK309 := n6_; have GW309 := n7_; have GE309 := n8_; have NB294_309 := n9_; have NB309_294 := n10_; clear n0_ n1_ n2_ n3_ n4_ n5_ n6_ n7_ n8_ n9_ n10_; clear hb hbox hg; obtain ⟨Ao28, co28, eo28⟩ := Kd.R_slice HO305.out; subst eo28; have hnb29 := NB309_294.out; have hnc29 := NB294_309.out; have hcz30_0 : w27.cell? ⟨gb309, 0, none⟩ = some (.slice none 0 0) := (blk_cell BK309.out 0).trans rfl; have hcz30_1 : w27.cell? ⟨gb309, 1, none⟩ = some (.slice none 0 0) := (blk_cell BK309.out 1).trans rfl; have hfz30_0 := blk_frozen BK309.out 0; have hfz30_1 := blk_frozen BK309.out 1; obtain ⟨Ao31, co31, eo31⟩ := Kd.R_slice HO308.out; subst eo31) | ((with_reducible refine gate_callee (f := 39) rfl ?_); refine goesL_ (some 26) rfl rfl Try.func39 (by kernel_rfl) rfl #[.agg #[.slice Ao28 t303.length co28, .slice Ao31 t306.length co31], .int .i64 a1, .int .i64 a2] rfl ls_ ?_; (with_reducible refine (impl_ChartStep.calls k _ _ t303 _ _ t306 a1 a2 t310 _ ?side1 ?side2 ?side3 ?side4 A12.out).mono ?_); (case side1 => refine (Kd.R_reads' (e := 88) (base := w.heap.size) (ok := fun k_ => (True ∧ some k_ ≠ (.slice Ao22 t296.length co22 : Value).ownBlock)) (n := t303.length) (c := co28) ?_).2.2; exact (by (with_reducible repeat (first | apply Kd.R_alloc | apply Kd.R_drewN | apply Kd.R_drew)); exact (Kd.R_mono (Kd.R_far (p := ⟨gb309, 1, none⟩) (Kd.R_far (p := ⟨gb309, 0, none⟩) (Kd.R_types HO305.out BK309.out (by decide)) (fun _ hk => hk.2) (.slice Ao28 t303.length co28)) (fun _ hk => hk.2) (.slice Ao31 t306.length co31)) (fun _ h_ => h_.1)))); (case side2 => exact (Kd.R_reads' HO305.out).2.1); (case side3 => refine (Kd.R_reads' (e := 90) (base := w.heap.size) (ok := fun k_ => (True ∧ some k_ ≠ (.slice Ao23 t299.length co23 : Value).ownBlock)) (n := t306.length) (c := co31) ?_).2.2; exact (by (with_reducible repeat (first | apply Kd.R_alloc | apply Kd.R_drewN | apply Kd.R_drew)); exact (Kd.R_mono (Kd.R_far (p := ⟨gb309, 1, none⟩) (Kd.R_far (p := ⟨gb309, 0, none⟩) (Kd.R_types HO308.out BK309.out (by decide)) (fun _ hk => hk.2) (.slice Ao28 t303.length co28)) (fun _ hk => hk.2) (.slice Ao31 t306.length co31)) (fun _ h_ => h_.1)))); (case side4 => exact (Kd.R_reads' HO308.out).2.1); rintro e w32 ⟨rfl, hb⟩; refine ⟨_, rfl, ?_⟩; have n0_ := Aside0.mk (Kd.R_below (by (with_reducible repeat (first | apply Kd.R_alloc | apply Kd.R_drewN | apply Kd.R_drew)); exact (Kd.R_mono (Kd.R_far (p := ⟨gb309, 1, none⟩) (Kd.R_far (p := ⟨gb309, 0, none⟩) (Kd.R_types HO298.out BK309.out (by decide)) (fun _ hk => hk.2) (.slice Ao28 t303.length co28)) (fun _ hk => hk.2) (.slice Ao31 t306.length co31)) (fun _ h_ => h_.1))) hb); have n1_ := Aside0.mk (Kd.R_below (by (with_reducible repeat (first | apply Kd.R_alloc | apply Kd.R_drewN | apply Kd.R_drew)); exact (Kd.R_mono (Kd.R_far (p := ⟨gb309, 1, none⟩) (Kd.R_far (p := ⟨gb309, 0, none⟩) (Kd.R_types HO301.out BK309.out (by decide)) (fun _ hk => hk.2) (.slice Ao28 t303.length co28)) (fun _ hk => hk.2) (.slice Ao31 t306.length co31)) (fun _ h_ => h_.1))) hb); have n2_ := Aside0.mk (Kd.R_below (by (with_reducible repeat (first | apply Kd.R_alloc | apply Kd.R_drewN | apply Kd.R_drew)); exact (Kd.R_mono (Kd.R_far (p := ⟨gb309, 1, none⟩) (Kd.R_far (p := ⟨gb309, 0, none⟩) (Kd.R_types HO305.out BK309.out (by decide)) (fun _ hk => hk.2) (.slice Ao28 t303.length co28)) (fun _ hk => hk.2) (.slice Ao31 t306.length co31)) (fun _ h_ => h_.1))) hb); have n3_ := Aside0.mk (Kd.R_below (by (with_reducible repeat (first | apply Kd.R_alloc | apply Kd.R_drewN | apply Kd.R_drew)); exact (Kd.R_mono (Kd.R_far (p := ⟨gb309, 1, none⟩) (Kd.R_far (p := ⟨gb309, 0, none⟩) (Kd.R_types HO308.out BK309.out (by decide)) (fun _ hk => hk.2) (.slice Ao28 t303.length co28)) (fun _ hk => hk.2) (.slice Ao31 t306.length co31)) (fun _ h_ => h_.1))) hb); have n4_ := Aside0.mk (blk_below (g := gb294) (o := .cells #[.slice A0_0 l0_0.length c0_0, .slice A0_1 l0_1.length c0_1] 49 (0, 0)) (by (with_reducible repeat (first | refine blk_drewN ?_ _ | refine blk_drew ?_ | refine blk_alloc ?_ _)); refine blk_far ?_ NB294_309.out _; (with_reducible repeat (first | refine blk_drewN ?_ _ | refine blk_drew ?_ | refine blk_alloc ?_ _)); refine blk_far ?_ NB294_309.out _; (with_reducible repeat (first | refine blk_drewN ?_ _ | refine blk_drew ?_ | refine blk_alloc ?_ _)); exact BK294.out) hb); have n5_ := Aside0.mk (blk_below (g := gb309) (o := .cells #[.slice Ao28 t303.length co28, .slice Ao31 t306.length co31] 55 (0, 0)) (by (with_reducible repeat (first | refine blk_drewN ?_ _ | refine blk_drew ?_ | refine blk_alloc ?_ _)); refine blk_put (cs := #[.slice Ao28 t303.length co28, .slice none 0 0]) ?_ 1 _ rfl; (with_reducible repeat (first | refine blk_drewN ?_ _ | refine blk_drew ?_ | refine blk_alloc ?_ _)); refine blk_put (cs := #[.slice none 0 0, .slice none 0 0]) ?_ 0 _ rfl; (with_reducible repeat (first | refine blk_drewN ?_ _ | refine blk_drew ?_ | refine blk_alloc ?_ _)); exact BK309.out) hb); have n6_ := Aside0.mk (below_step hb_ hb); clear HO298; clear HO301; clear HO305; clear HO308; clear BK294; clear BK309; clear HB; have HO298 := n0_; have HO301 := n1_; have HO305 := n2_; have HO308 := n3_; have BK294 := n4_; have BK309 := n5_; have HB := n6_; clear n0_ n1_ n2_ n3_ n4_ n5_ n6_; (try clear hb); (try clear hb2); (try clear hk); (try clear hi)))
     have n0_ := Aside0.mk (Kd.R_drew HO298.out)
     have n1_ := Aside0.mk (Kd.R_drew HO301.out)
     have n2_ := Aside0.mk (Kd.R_drew HO305.out)
     have n3_ := Aside0.mk (Kd.R_drew HO308.out)
     have n4_ := Aside0.mk (blk_drew BK294.out)
     have n5_ := Aside0.mk (blk_drew BK309.out)
     have n6_ := Aside0.mk (below_drew1 HB.out)
     clear HO298
     clear HO301
     clear HO305
     clear HO308
     clear BK294
     clear BK309
     clear HB
     have HO298 := n0_
     have HO301 := n1_
     have HO305 := n2_
     have HO308 := n3_
     have BK294 := n4_
     have BK309 := n5_
     have HB := n6_
     clear n0_ n1_ n2_ n3_ n4_ n5_ n6_
     refine start_ (n := 5) (S := fun w' => w'.cell? ⟨gb309, 0, none⟩ = some (.slice Ao28 t303.length co28) ∧ w'.cell? ⟨gb309, 1, none⟩ = some (.slice Ao31 t306.length co31) ∧ w'.cell? ⟨gb294, 0, none⟩ = some (.slice A0_0 l0_0.length c0_0) ∧ w'.cell? ⟨gb294, 1, none⟩ = some (.slice A0_1 l0_1.length c0_1)) (ds := []) #[false, false, false, false, false] (by kernel_rfl) rfl rfl ⟨(blk_cell BK309.out 0).trans rfl, (blk_cell BK309.out 1).trans rfl, (blk_cell BK294.out 0).trans rfl, (blk_cell BK294.out 1).trans rfl⟩ (fun hHeld => ?_)
     generalize w32.drew = w33 at HO298 HO301 HO305 HO308 BK294 BK309 HB hHeld ⊢
     refine take_ (i := 0) (N := some 30) (v := ?_) (a' := ?_) #[true, false, false, false, false] rfl rfl (by kernel_rfl) (fun _ _ _ h => h) (Or.inl ⟨by rfl, ?_⟩) hHeld ?_ ?_
     rotate_left
     ·rintro w' ⟨s0, s1, s2, s3⟩
      go_simp
      with_reducible rfl
     rotate_left
     ·simp only [Act.put, List.setIfInBounds_toArray, List.set_cons_zero, List.set_cons_succ, i64_w, i32_w]
      rfl
     refine take_ (i := 1) (N := some 31) (v := ?_) (a' := ?_) #[true, true, false, false, false] rfl rfl (by kernel_rfl) (fun _ _ _ h => h) (Or.inl ⟨by rfl, ?_⟩) hHeld ?_ ?_
     rotate_left
     ·rintro w' ⟨s0, s1, s2, s3⟩
      go_simp
      with_reducible rfl
     rotate_left
     ·simp only [Act.put, List.setIfInBounds_toArray, List.set_cons_zero, List.set_cons_succ, i64_w, i32_w]
      rfl
     refine one_ (i := 2) (N := some 32) #[true, true, true, false, false] rfl rfl (by kernel_rfl) (by decide) (fun K hK => ?_)
     refine goes_ Try.func33 (by kernel_rfl) rfl #[.agg #[.slice A0_0 l0_0.length c0_0, .slice A0_1 l0_1.length c0_1]] (by rfl) rfl rfl ls_ ?_
     with_reducible refine (laws_toChart.calls k _ _ l0_0 _ _ l0_1 t311 t314 _ ?side1 ?side2 ?side3 ?side4 A14.out).mono ?_
     (case side1 => exact cb_ HR0_0.out)
     (case side2 => exact HC0_0.out)
     (case side3 => exact cb_ HR0_1.out)
     (case side4 => exact HC0_1.out)
     rintro e w34 ⟨v312, v315, rfl, ho0, ho1, hb⟩
     refine ⟨_, rfl, ?_⟩
     have n0_ := Aside0.mk (Kd.R_elder' (ra_ HO298.out) (Kd.R_base ho0) hb)
     have n1_ := Aside0.mk (Kd.R_elder' (ra_ HO301.out) (Kd.R_base ho1) hb)
     have n2_ := Aside0.mk (Kd.R_elder' (ra_ HO305.out) (Kd.R_base ho0) hb)
     have n3_ := Aside0.mk (Kd.R_elder' (ra_ HO308.out) (Kd.R_base ho1) hb)
     have n4_ := Aside0.mk (Kd.R_lower (Kd.R_new' (Kd.R_new' ho0 (Kd.R_lt (ra_ HO298.out))) (Kd.R_lt (ra_ HO305.out))) (below_size hb_))
     have n5_ := Aside0.mk (Kd.R_lower (Kd.R_new' (Kd.R_new' ho1 (Kd.R_lt (ra_ HO301.out))) (Kd.R_lt (ra_ HO308.out))) (below_size hb_))
     have n6_ := bb_ BK294 hb
     have n7_ := bb_ BK309 hb
     have n8_ := Aside0.mk (below_step hb_ hb)
     clear HO298
     clear HO301
     clear HO305
     clear HO308
     clear BK294
     clear BK309
     clear HB
     have HO298 := n0_
     have HO301 := n1_
     have HO305 := n2_
     have HO308 := n3_
     have HO313 := n4_
     have HO316 := n5_
     have BK294 := n6_
     have BK309 := n7_
     have HB := n8_
     clear n0_ n1_ n2_ n3_ n4_ n5_ n6_ n7_ n8_
     (try clear hb)
     (try clear hb2)
     (try clear hk)
     (try clear hi)
     (try clear ho0)
     (try clear ho1)
     obtain ⟨Ao35, co35, eo35⟩ := Kd.R_slice HO313.out
     (first | subst eo35 | (injection eo35 with f1_ f2_ f3_; have f4_ := f1_.symm; have f5_ := f3_.symm; clear f1_ f2_ f3_; subst f4_; subst f5_))
     obtain ⟨Ao36, co36, eo36⟩ := Kd.R_slice HO316.out
     (first | subst eo36 | (injection eo36 with f1_ f2_ f3_; have f4_ := f1_.symm; have f5_ := f3_.symm; clear f1_ f2_ f3_; subst f4_; subst f5_))
     refine hK.out _ _ ⟨(blk_cell BK309.out 0).trans rfl, (blk_cell BK309.out 1).trans rfl, (blk_cell BK294.out 0).trans rfl, (blk_cell BK294.out 1).trans rfl⟩ (fun hHeld => ?_)
     clear hK K
     refine norm_ (a' := ?_) ?_ ?_
     rotate_left
     ·show Act.put _ (some 32) _ = _
      simp only [Act.put, List.setIfInBounds_toArray, List.set_cons_zero, List.set_cons_succ, i64_w, i32_w]
      rfl
     refine one_ (i := 3) (N := some 33) #[true, true, true, true, false] rfl rfl (by kernel_rfl) (by decide) (fun K hK => ?_)
     refine goes_ Try.func35 (by kernel_rfl) rfl #[.agg #[.slice Ao28 t303.length co28, .slice Ao31 t306.length co31], .agg #[.slice Ao35 t311.length co35, .slice Ao36 t314.length co36]] (by rfl) rfl rfl ls_ ?_
     with_reducible refine (laws_eqChart.calls k _ _ t303 _ _ t306 _ _ t311 _ _ t314 true _ ?side1 ?side2 ?side3 ?side4 ?side5 ?side6 ?side7 ?side8 A15.out).mono ?_
     (case side1 => exact ca_ (Kd.R_reads' HO305.out).2.2)
     (case side2 => exact (Kd.R_reads' HO305.out).2.1)
     (case side3 => exact ca_ (Kd.R_reads' HO308.out).2.2)
     (case side4 => exact (Kd.R_reads' HO308.out).2.1)
     (case side5 => exact ca_ (Kd.R_reads' HO313.out).2.2)
     (case side6 => exact (Kd.R_reads' HO313.out).2.1)
     (case side7 => exact ca_ (Kd.R_reads' HO316.out).2.2)
     (case side8 => exact (Kd.R_reads' HO316.out).2.1)
     rintro e w37 ⟨rfl, hb⟩
     refine ⟨_, rfl, ?_⟩
     have n0_ := Aside0.mk (Kd.R_below (ra_ HO298.out) hb)
     have n1_ := Aside0.mk (Kd.R_below (ra_ HO301.out) hb)
     have n2_ := Aside0.mk (Kd.R_below (ra_ HO305.out) hb)
     have n3_ := Aside0.mk (Kd.R_below (ra_ HO308.out) hb)
     have n4_ := Aside0.mk (Kd.R_below (ra_ HO313.out) hb)
     have n5_ := Aside0.mk (Kd.R_below (ra_ HO316.out) hb)
     have n6_ := bb_ BK294 hb
     have n7_ := bb_ BK309 hb
     have n8_ := Aside0.mk (below_step hb_ hb)
     clear HO298
     clear HO301
     clear HO305
     clear HO308
     clear HO313
     clear HO316
     clear BK294
     clear BK309
     clear HB
     have HO298 := n0_
     have HO301 := n1_
     have HO305 := n2_
     have HO308 := n3_
     have HO313 := n4_
     have HO316 := n5_
     have BK294 := n6_
     have BK309 := n7_
     have HB := n8_
     clear n0_ n1_ n2_ n3_ n4_ n5_ n6_ n7_ n8_
     (try clear hb)
     (try clear hb2)
     (try clear hk)
     (try clear hi)
     refine hK.out _ _ ⟨(blk_cell BK309.out 0).trans rfl, (blk_cell BK309.out 1).trans rfl, (blk_cell BK294.out 0).trans rfl, (blk_cell BK294.out 1).trans rfl⟩ (fun hHeld => ?_)
     clear hK K
     refine norm_ (a' := ?_) ?_ ?_
     rotate_left
     ·show Act.put _ (some 33) _ = _
      simp only [Act.put, List.setIfInBounds_toArray, List.set_cons_zero, List.set_cons_succ, i64_w, i32_w]
      rfl
     refine pure_ (i := 4) (N := some 34) (v := ?_) (a' := ?_) #[true, true, true, true, true] rfl rfl (by kernel_rfl) (fun _ _ _ h => h) (Or.inl ⟨by rfl, ?_⟩) ?_ ?_
     rotate_left
     ·intro w'
      go_simp
      with_reducible rfl
     rotate_left
     ·simp only [Act.put, List.setIfInBounds_toArray, List.set_cons_zero, List.set_cons_succ, i64_w, i32_w]
      rfl
     refine done_ (by kernel_rfl) ?_
     try go_wp2
     go_ret
     exact ⟨er_, hb_⟩
    ·replace c16 := Bool.eq_false_iff.mpr c16
     subst c16
     rw [if_neg (show ¬ (false = true) by decide)] at H
     obtain rfl := Option.some.inj H
     go_enter Try.func8, Try.ntmps8
     try go_wp2_with (first | ((with_reducible refine gate_dst (N := 3) rfl ?_); refine box_event ?hg (N := 3) ?hd (cs := #[.slice A0_0 l0_0.length c0_0, .slice A0_1 l0_1.length c0_1]) (t := 49) ?hr ?_; (case hd => rfl); (case hg => rfl); (case hr => first | (go_simp; done) | (go_simp; rfl)); intro gb294 hg w38 hbox hb; have n0_ := Aside0.mk (below_step hb_ hb); have n1_ := Aside0.mk (hbox); have n2_ : Aside0 (w.heap.size ≤ gb294) := gz_; have n3_ : Aside0 (w.heap.size ≤ gb294) := gz_; clear HB; have HB := n0_; have BK294 := n1_; have GW294 := n2_; have GE294 := n3_; clear n0_ n1_ n2_ n3_; clear hb hbox hg; have hcz39_0 : w38.cell? ⟨gb294, 0, none⟩ = some (.slice A0_0 l0_0.length c0_0) := (blk_cell BK294.out 0).trans rfl; have hcz39_1 : w38.cell? ⟨gb294, 1, none⟩ = some (.slice A0_1 l0_1.length c0_1) := (blk_cell BK294.out 1).trans rfl; have hfz39_0 := blk_frozen BK294.out 0; have hfz39_1 := blk_frozen BK294.out 1) | ((with_reducible refine gate_callee (f := 31) rfl ?_); refine goesL_ (some 13) rfl rfl Try.func31 (by kernel_rfl) rfl #[.agg #[.slice A0_0 l0_0.length c0_0, .slice A0_1 l0_1.length c0_1], .int .i64 1048576] rfl ls_ ?_; (with_reducible refine (laws_szChart.calls _ _ l0_0 _ _ l0_1 1048576 t295 _ ?side1 ?side2 ?side3 ?side4 A4.out).mono ?_); (case side1 => exact cb_ HR0_0.out); (case side2 => exact HC0_0.out); (case side3 => exact cb_ HR0_1.out); (case side4 => exact HC0_1.out); rintro e w40 ⟨rfl, hb⟩; refine ⟨_, rfl, ?_⟩; have n0_ := bb_ BK294 hb; have n1_ := Aside0.mk (below_step hb_ hb); clear BK294; clear HB; have BK294 := n0_; have HB := n1_; clear n0_ n1_; (try clear hb); (try clear hb2); (try clear hk); (try clear hi); have hcz41_0 : w40.cell? ⟨gb294, 0, none⟩ = some (.slice A0_0 l0_0.length c0_0) := (blk_cell BK294.out 0).trans rfl; have hcz41_1 : w40.cell? ⟨gb294, 1, none⟩ = some (.slice A0_1 l0_1.length c0_1) := (blk_cell BK294.out 1).trans rfl; have hfz41_0 := blk_frozen BK294.out 0; have hfz41_1 := blk_frozen BK294.out 1) | ((with_reducible refine gate_callee (f := 33) rfl ?_); refine goesL_ (some 17) rfl rfl Try.func33 (by kernel_rfl) rfl #[.agg #[.slice A0_0 l0_0.length c0_0, .slice A0_1 l0_1.length c0_1]] rfl ls_ ?_; (with_reducible refine (laws_toChart.calls k _ _ l0_0 _ _ l0_1 t296 t299 _ ?side1 ?side2 ?side3 ?side4 A9.out).mono ?_); (case side1 => exact cb_ HR0_0.out); (case side2 => exact HC0_0.out); (case side3 => exact cb_ HR0_1.out); (case side4 => exact HC0_1.out); rintro e w42 ⟨v297, v300, rfl, ho0, ho1, hb⟩; refine ⟨_, rfl, ?_⟩; have n0_ := Aside0.mk (Kd.R_lower ho0 (below_size hb_)); have n1_ := Aside0.mk (Kd.R_lower ho1 (below_size hb_)); have n2_ := bb_ BK294 hb; have n3_ := Aside0.mk (below_step hb_ hb); clear BK294; clear HB; have HO298 := n0_; have HO301 := n1_; have BK294 := n2_; have HB := n3_; clear n0_ n1_ n2_ n3_; (try clear hb); (try clear hb2); (try clear hk); (try clear hi); (try clear ho0); (try clear ho1); obtain ⟨Ao43, co43, eo43⟩ := Kd.R_slice HO298.out; subst eo43; obtain ⟨Ao44, co44, eo44⟩ := Kd.R_slice HO301.out; subst eo44) | ((with_reducible refine gate_callee (f := 38) rfl ?_); refine goesL_ (some 20) rfl rfl Try.func38 (by kernel_rfl) rfl #[.agg #[.slice Ao43 t296.length co43, .slice Ao44 t299.length co44], .int .i64 a1, .int .i64 a2] rfl ls_ ?_; (with_reducible refine (spec_ChartStep.calls k _ _ t296 _ _ t299 a1 a2 t302 _ ?side1 ?side2 ?side3 ?side4 A10.out).mono ?_); (case side1 => exact ca_ (Kd.R_reads' HO298.out).2.2); (case side2 => exact (Kd.R_reads' HO298.out).2.1); (case side3 => exact ca_ (Kd.R_reads' HO301.out).2.2); (case side4 => exact (Kd.R_reads' HO301.out).2.1); rintro e w45 ⟨rfl, hb⟩; refine ⟨_, rfl, ?_⟩; have n0_ := Aside0.mk (Kd.R_below (ra_ HO298.out) hb); have n1_ := Aside0.mk (Kd.R_below (ra_ HO301.out) hb); have n2_ := bb_ BK294 hb; have n3_ := Aside0.mk (below_step hb_ hb); clear HO298; clear HO301; clear BK294; clear HB; have HO298 := n0_; have HO301 := n1_; have BK294 := n2_; have HB := n3_; clear n0_ n1_ n2_ n3_; (try clear hb); (try clear hb2); (try clear hk); (try clear hi); have hcz46_0 : w45.cell? ⟨gb294, 0, none⟩ = some (.slice A0_0 l0_0.length c0_0) := (blk_cell BK294.out 0).trans rfl; have hcz46_1 : w45.cell? ⟨gb294, 1, none⟩ = some (.slice A0_1 l0_1.length c0_1) := (blk_cell BK294.out 1).trans rfl; have hfz46_0 := blk_frozen BK294.out 0; have hfz46_1 := blk_frozen BK294.out 1) | ((with_reducible refine gate_callee (f := 33) rfl ?_); refine goesL_ (some 22) rfl rfl Try.func33 (by kernel_rfl) rfl #[.agg #[.slice A0_0 l0_0.length c0_0, .slice A0_1 l0_1.length c0_1]] rfl ls_ ?_; (with_reducible refine (laws_toChart.calls k _ _ l0_0 _ _ l0_1 t303 t306 _ ?side1 ?side2 ?side3 ?side4 A11.out).mono ?_); (case side1 => exact cb_ HR0_0.out); (case side2 => exact HC0_0.out); (case side3 => exact cb_ HR0_1.out); (case side4 => exact HC0_1.out); rintro e w47 ⟨v304, v307, rfl, ho0, ho1, hb⟩; refine ⟨_, rfl, ?_⟩; have n0_ := Aside0.mk (Kd.R_elder' (ra_ HO298.out) (Kd.R_base ho0) hb); have n1_ := Aside0.mk (Kd.R_elder' (ra_ HO301.out) (Kd.R_base ho1) hb); have n2_ := Aside0.mk (Kd.R_lower (Kd.R_new' ho0 (Kd.R_lt (ra_ HO298.out))) (below_size hb_)); have n3_ := Aside0.mk (Kd.R_lower (Kd.R_new' ho1 (Kd.R_lt (ra_ HO301.out))) (below_size hb_)); have n4_ := bb_ BK294 hb; have n5_ := Aside0.mk (below_step hb_ hb); clear HO298; clear HO301; clear BK294; clear HB; have HO298 := n0_; have HO301 := n1_; have HO305 := n2_; have HO308 := n3_; have BK294 := n4_; have HB := n5_; clear n0_ n1_ n2_ n3_ n4_ n5_; (try clear hb); (try clear hb2); (try clear hk); (try clear hi); (try clear ho0); (try clear ho1)) | ((with_reducible refine gate_dst (N := 9) rfl ?_); refine box_event ?hg (N := 9) ?hd (cs := #[.slice none 0 0, .slice none 0 0]) (t := 55) ?hr ?_; (case hd => rfl); (case hg => rfl); (case hr => first | (go_simp; done) | (go_simp; rfl)); intro gb309 hg w48 hbox hb; have n0_ := Aside0.mk (Kd.R_below (ra_ HO298.out) hb); have n1_ := Aside0.mk (Kd.R_below (ra_ HO301.out) hb); have n2_ := Aside0.mk (Kd.R_below (ra_ HO305.out) hb); have n3_ := Aside0.mk (Kd.R_below (ra_ HO308.out) hb); have n4_ := bb_ BK294 hb; have n5_ := Aside0.mk (below_step hb_ hb); have n6_ := Aside0.mk (hbox); have n7_ : Aside0 (w.heap.size ≤ gb309) := gz_; have n8_ : Aside0 (w.heap.size ≤ gb309) := gz_; have n9_ := Aside0.mk ((by rw [hg]; exact Nat.ne_of_lt (blk_lt (g := gb294) (o := .cells #[.slice A0_0 l0_0.length c0_0, .slice A0_1 l0_1.length c0_1] 49 (0, 0)) (bk_ BK294.out)) : gb294 ≠ gb309)); have n10_ := Aside0.mk ((by rw [hg]; exact Nat.ne_of_gt (blk_lt (g := gb294) (o := .cells #[.slice A0_0 l0_0.length c0_0, .slice A0_1 l0_1.length c0_1] 49 (0, 0)) (bk_ BK294.out)) : gb309 ≠ gb294)); clear HO298; clear HO301; clear HO305; clear HO308; clear BK294; clear HB; have HO298 := n0_; have HO301 := n1_; have HO305 := n2_; have HO308 := n3_; have BK294 := n4_; have HB := n5_; have BK309 := n6_; have GW309 := n7_; have GE309 := n8_; have NB294_309 := n9_; have NB309_294 := n10_; clear n0_ n1_ n2_ n3_ n4_ n5_ n6_ n7_ n8_ n9_ n10_; clear hb hbox hg; obtain ⟨Ao49, co49, eo49⟩ := Kd.R_slice HO305.out; subst eo49; have hnb50 := NB309_294.out; have hnc50 := NB294_309.out; have hcz51_0 : w48.cell? ⟨gb309, 0, none⟩ = some (.slice none 0 0) := (blk_cell BK309.out 0).trans rfl; have hcz51_1 : w48.cell? ⟨gb309, 1, none⟩ = some (.slice none 0 0) := (blk_cell BK309.out 1).trans rfl; have hfz51_0 := blk_frozen BK309.out 0; have hfz51_1 := blk_frozen BK309.out 1; obtain ⟨Ao52, co52, eo52⟩ := Kd.R_slice HO308.out; subst eo52) | ((with_reducible refine gate_callee (f := 39) rfl ?_); refine goesL_ (some 26) rfl rfl Try.func39 (by kernel_rfl) rfl #[.agg #[.slice Ao49 t303.length co49, .slice Ao52 t306.length co52], .int .i64 a1, .int .i64 a2] rfl ls_ ?_; (with_reducible refine (impl_ChartStep.calls k _ _ t303 _ _ t306 a1 a2 t310 _ ?side1 ?side2 ?side3 ?side4 A12.out).mono ?_); (case side1 => refine (Kd.R_reads' (e := 88) (base := w.heap.size) (ok := fun k_ => (True ∧ some k_ ≠ (.slice Ao43 t296.length co43 : Value).ownBlock)) (n := t303.length) (c := co49) ?_).2.2; exact (by (with_reducible repeat (first | apply Kd.R_alloc | apply Kd.R_drewN | apply Kd.R_drew)); exact (Kd.R_mono (Kd.R_far (p := ⟨gb309, 1, none⟩) (Kd.R_far (p := ⟨gb309, 0, none⟩) (Kd.R_types HO305.out BK309.out (by decide)) (fun _ hk => hk.2) (.slice Ao49 t303.length co49)) (fun _ hk => hk.2) (.slice Ao52 t306.length co52)) (fun _ h_ => h_.1)))); (case side2 => exact (Kd.R_reads' HO305.out).2.1); (case side3 => refine (Kd.R_reads' (e := 90) (base := w.heap.size) (ok := fun k_ => (True ∧ some k_ ≠ (.slice Ao44 t299.length co44 : Value).ownBlock)) (n := t306.length) (c := co52) ?_).2.2; exact (by (with_reducible repeat (first | apply Kd.R_alloc | apply Kd.R_drewN | apply Kd.R_drew)); exact (Kd.R_mono (Kd.R_far (p := ⟨gb309, 1, none⟩) (Kd.R_far (p := ⟨gb309, 0, none⟩) (Kd.R_types HO308.out BK309.out (by decide)) (fun _ hk => hk.2) (.slice Ao49 t303.length co49)) (fun _ hk => hk.2) (.slice Ao52 t306.length co52)) (fun _ h_ => h_.1)))); (case side4 => exact (Kd.R_reads' HO308.out).2.1); rintro e w53 ⟨rfl, hb⟩; refine ⟨_, rfl, ?_⟩; have n0_ := Aside0.mk (Kd.R_below (by (with_reducible repeat (first | apply Kd.R_alloc | apply Kd.R_drewN | apply Kd.R_drew)); exact (Kd.R_mono (Kd.R_far (p := ⟨gb309, 1, none⟩) (Kd.R_far (p := ⟨gb309, 0, none⟩) (Kd.R_types HO298.out BK309.out (by decide)) (fun _ hk => hk.2) (.slice Ao49 t303.length co49)) (fun _ hk => hk.2) (.slice Ao52 t306.length co52)) (fun _ h_ => h_.1))) hb); have n1_ := Aside0.mk (Kd.R_below (by (with_reducible repeat (first | apply Kd.R_alloc | apply Kd.R_drewN | apply Kd.R_drew)); exact (Kd.R_mono (Kd.R_far (p := ⟨gb309, 1, none⟩) (Kd.R_far (p := ⟨gb309, 0, none⟩) (Kd.R_types HO301.out BK309.out (by decide)) (fun _ hk => hk.2) (.slice Ao49 t303.length co49)) (fun _ hk => hk.2) (.slice Ao52 t306.length co52)) (fun _ h_ => h_.1))) hb); have n2_ := Aside0.mk (Kd.R_below (by (with_reducible repeat (first | apply Kd.R_alloc | apply Kd.R_drewN | apply Kd.R_drew)); exact (Kd.R_mono (Kd.R_far (p := ⟨gb309, 1, none⟩) (Kd.R_far (p := ⟨gb309, 0, none⟩) (Kd.R_types HO305.out BK309.out (by decide)) (fun _ hk => hk.2) (.slice Ao49 t303.length co49)) (fun _ hk => hk.2) (.slice Ao52 t306.length co52)) (fun _ h_ => h_.1))) hb); have n3_ := Aside0.mk (Kd.R_below (by (with_reducible repeat (first | apply Kd.R_alloc | apply Kd.R_drewN | apply Kd.R_drew)); exact (Kd.R_mono (Kd.R_far (p := ⟨gb309, 1, none⟩) (Kd.R_far (p := ⟨gb309, 0, none⟩) (Kd.R_types HO308.out BK309.out (by decide)) (fun _ hk => hk.2) (.slice Ao49 t303.length co49)) (fun _ hk => hk.2) (.slice Ao52 t306.length co52)) (fun _ h_ => h_.1))) hb); have n4_ := Aside0.mk (blk_below (g := gb294) (o := .cells #[.slice A0_0 l0_0.length c0_0, .slice A0_1 l0_1.length c0_1] 49 (0, 0)) (by (with_reducible repeat (first | refine blk_drewN ?_ _ | refine blk_drew ?_ | refine blk_alloc ?_ _)); refine blk_far ?_ NB294_309.out _; (with_reducible repeat (first | refine blk_drewN ?_ _ | refine blk_drew ?_ | refine blk_alloc ?_ _)); refine blk_far ?_ NB294_309.out _; (with_reducible repeat (first | refine blk_drewN ?_ _ | refine blk_drew ?_ | refine blk_alloc ?_ _)); exact BK294.out) hb); have n5_ := Aside0.mk (blk_below (g := gb309) (o := .cells #[.slice Ao49 t303.length co49, .slice Ao52 t306.length co52] 55 (0, 0)) (by (with_reducible repeat (first | refine blk_drewN ?_ _ | refine blk_drew ?_ | refine blk_alloc ?_ _)); refine blk_put (cs := #[.slice Ao49 t303.length co49, .slice none 0 0]) ?_ 1 _ rfl; (with_reducible repeat (first | refine blk_drewN ?_ _ | refine blk_drew ?_ | refine blk_alloc ?_ _)); refine blk_put (cs := #[.slice none 0 0, .slice none 0 0]) ?_ 0 _ rfl; (with_reducible repeat (first | refine blk_drewN ?_ _ | refine blk_drew ?_ | refine blk_alloc ?_ _)); exact BK309.out) hb); have n6_ := Aside0.mk (below_step hb_ hb); clear HO298; clear HO301; clear HO305; clear HO308; clear BK294; clear BK309; clear HB; have HO298 := n0_; have HO301 := n1_; have HO305 := n2_; have HO308 := n3_; have BK294 := n4_; have BK309 := n5_; have HB := n6_; clear n0_ n1_ n2_ n3_ n4_ n5_ n6_; (try clear hb); (try clear hb2); (try clear hk); (try clear hi)))
     have n0_ := Aside0.mk (Kd.R_drew HO298.out)
     have n1_ := Aside0.mk (Kd.R_drew HO301.out)
     have n2_ := Aside0.mk (Kd.R_drew HO305.out)
     have n3_ := Aside0.mk (Kd.R_drew HO308.out)
     have n4_ := Aside0.mk (blk_drew BK294.out)
     have n5_ := Aside0.mk (blk_drew BK309.out)
     have n6_ := Aside0.mk (below_drew1 HB.out)
     clear HO298
     clear HO301
     clear HO305
     clear HO308
     clear BK294
     clear BK309
     clear HB
     have HO298 := n0_
     have HO301 := n1_
     have HO305 := n2_
     have HO308 := n3_
     have BK294 := n4_
     have BK309 := n5_
     have HB := n6_
     clear n0_ n1_ n2_ n3_ n4_ n5_ n6_
     refine start_ (n := 5) (S := fun w' => w'.cell? ⟨gb309, 0, none⟩ = some (.slice Ao49 t303.length co49) ∧ w'.cell? ⟨gb309, 1, none⟩ = some (.slice Ao52 t306.length co52) ∧ w'.cell? ⟨gb294, 0, none⟩ = some (.slice A0_0 l0_0.length c0_0) ∧ w'.cell? ⟨gb294, 1, none⟩ = some (.slice A0_1 l0_1.length c0_1)) (ds := []) #[false, false, false, false, false] (by kernel_rfl) rfl rfl ⟨(blk_cell BK309.out 0).trans rfl, (blk_cell BK309.out 1).trans rfl, (blk_cell BK294.out 0).trans rfl, (blk_cell BK294.out 1).trans rfl⟩ (fun hHeld => ?_)
     generalize w53.drew = w54 at HO298 HO301 HO305 HO308 BK294 BK309 HB hHeld ⊢
     refine take_ (i := 0) (N := some 30) (v := ?_) (a' := ?_) #[true, false, false, false, false] rfl rfl (by kernel_rfl) (fun _ _ _ h => h) (Or.inl ⟨by rfl, ?_⟩) hHeld ?_ ?_
     rotate_left
     ·rintro w' ⟨s0, s1, s2, s3⟩
      go_simp
      with_reducible rfl
     rotate_left
     ·simp only [Act.put, List.setIfInBounds_toArray, List.set_cons_zero, List.set_cons_succ, i64_w, i32_w]
      rfl
     refine take_ (i := 1) (N := some 31) (v := ?_) (a' := ?_) #[true, true, false, false, false] rfl rfl (by kernel_rfl) (fun _ _ _ h => h) (Or.inl ⟨by rfl, ?_⟩) hHeld ?_ ?_
     rotate_left
     ·rintro w' ⟨s0, s1, s2, s3⟩
      go_simp
      with_reducible rfl
     rotate_left
     ·simp only [Act.put, List.setIfInBounds_toArray, List.set_cons_zero, List.set_cons_succ, i64_w, i32_w]
      rfl
     refine one_ (i := 2) (N := some 32) #[true, true, true, false, false] rfl rfl (by kernel_rfl) (by decide) (fun K hK => ?_)
     refine goes_ Try.func33 (by kernel_rfl) rfl #[.agg #[.slice A0_0 l0_0.length c0_0, .slice A0_1 l0_1.length c0_1]] (by rfl) rfl rfl ls_ ?_
     with_reducible refine (laws_toChart.calls k _ _ l0_0 _ _ l0_1 t311 t314 _ ?side1 ?side2 ?side3 ?side4 A14.out).mono ?_
     (case side1 => exact cb_ HR0_0.out)
     (case side2 => exact HC0_0.out)
     (case side3 => exact cb_ HR0_1.out)
     (case side4 => exact HC0_1.out)
     rintro e w55 ⟨v312, v315, rfl, ho0, ho1, hb⟩
     refine ⟨_, rfl, ?_⟩
     have n0_ := Aside0.mk (Kd.R_elder' (ra_ HO298.out) (Kd.R_base ho0) hb)
     have n1_ := Aside0.mk (Kd.R_elder' (ra_ HO301.out) (Kd.R_base ho1) hb)
     have n2_ := Aside0.mk (Kd.R_elder' (ra_ HO305.out) (Kd.R_base ho0) hb)
     have n3_ := Aside0.mk (Kd.R_elder' (ra_ HO308.out) (Kd.R_base ho1) hb)
     have n4_ := Aside0.mk (Kd.R_lower (Kd.R_new' (Kd.R_new' ho0 (Kd.R_lt (ra_ HO298.out))) (Kd.R_lt (ra_ HO305.out))) (below_size hb_))
     have n5_ := Aside0.mk (Kd.R_lower (Kd.R_new' (Kd.R_new' ho1 (Kd.R_lt (ra_ HO301.out))) (Kd.R_lt (ra_ HO308.out))) (below_size hb_))
     have n6_ := bb_ BK294 hb
     have n7_ := bb_ BK309 hb
     have n8_ := Aside0.mk (below_step hb_ hb)
     clear HO298
     clear HO301
     clear HO305
     clear HO308
     clear BK294
     clear BK309
     clear HB
     have HO298 := n0_
     have HO301 := n1_
     have HO305 := n2_
     have HO308 := n3_
     have HO313 := n4_
     have HO316 := n5_
     have BK294 := n6_
     have BK309 := n7_
     have HB := n8_
     clear n0_ n1_ n2_ n3_ n4_ n5_ n6_ n7_ n8_
     (try clear hb)
     (try clear hb2)
     (try clear hk)
     (try clear hi)
     (try clear ho0)
     (try clear ho1)
     obtain ⟨Ao56, co56, eo56⟩ := Kd.R_slice HO313.out
     (first | subst eo56 | (injection eo56 with f1_ f2_ f3_; have f4_ := f1_.symm; have f5_ := f3_.symm; clear f1_ f2_ f3_; subst f4_; subst f5_))
     obtain ⟨Ao57, co57, eo57⟩ := Kd.R_slice HO316.out
     (first | subst eo57 | (injection eo57 with f1_ f2_ f3_; have f4_ := f1_.symm; have f5_ := f3_.symm; clear f1_ f2_ f3_; subst f4_; subst f5_))
     refine hK.out _ _ ⟨(blk_cell BK309.out 0).trans rfl, (blk_cell BK309.out 1).trans rfl, (blk_cell BK294.out 0).trans rfl, (blk_cell BK294.out 1).trans rfl⟩ (fun hHeld => ?_)
     clear hK K
     refine norm_ (a' := ?_) ?_ ?_
     rotate_left
     ·show Act.put _ (some 32) _ = _
      simp only [Act.put, List.setIfInBounds_toArray, List.set_cons_zero, List.set_cons_succ, i64_w, i32_w]
      rfl
     refine one_ (i := 3) (N := some 33) #[true, true, true, true, false] rfl rfl (by kernel_rfl) (by decide) (fun K hK => ?_)
     refine goes_ Try.func35 (by kernel_rfl) rfl #[.agg #[.slice Ao49 t303.length co49, .slice Ao52 t306.length co52], .agg #[.slice Ao56 t311.length co56, .slice Ao57 t314.length co57]] (by rfl) rfl rfl ls_ ?_
     with_reducible refine (laws_eqChart.calls k _ _ t303 _ _ t306 _ _ t311 _ _ t314 false _ ?side1 ?side2 ?side3 ?side4 ?side5 ?side6 ?side7 ?side8 A15.out).mono ?_
     (case side1 => exact ca_ (Kd.R_reads' HO305.out).2.2)
     (case side2 => exact (Kd.R_reads' HO305.out).2.1)
     (case side3 => exact ca_ (Kd.R_reads' HO308.out).2.2)
     (case side4 => exact (Kd.R_reads' HO308.out).2.1)
     (case side5 => exact ca_ (Kd.R_reads' HO313.out).2.2)
     (case side6 => exact (Kd.R_reads' HO313.out).2.1)
     (case side7 => exact ca_ (Kd.R_reads' HO316.out).2.2)
     (case side8 => exact (Kd.R_reads' HO316.out).2.1)
     rintro e w58 ⟨rfl, hb⟩
     refine ⟨_, rfl, ?_⟩
     have n0_ := Aside0.mk (Kd.R_below (ra_ HO298.out) hb)
     have n1_ := Aside0.mk (Kd.R_below (ra_ HO301.out) hb)
     have n2_ := Aside0.mk (Kd.R_below (ra_ HO305.out) hb)
     have n3_ := Aside0.mk (Kd.R_below (ra_ HO308.out) hb)
     have n4_ := Aside0.mk (Kd.R_below (ra_ HO313.out) hb)
     have n5_ := Aside0.mk (Kd.R_below (ra_ HO316.out) hb)
     have n6_ := bb_ BK294 hb
     have n7_ := bb_ BK309 hb
     have n8_ := Aside0.mk (below_step hb_ hb)
     clear HO298
     clear HO301
     clear HO305
     clear HO308
     clear HO313
     clear HO316
     clear BK294
     clear BK309
     clear HB
     have HO298 := n0_
     have HO301 := n1_
     have HO305 := n2_
     have HO308 := n3_
     have HO313 := n4_
     have HO316 := n5_
     have BK294 := n6_
     have BK309 := n7_
     have HB := n8_
     clear n0_ n1_ n2_ n3_ n4_ n5_ n6_ n7_ n8_
     (try clear hb)
     (try clear hb2)
     (try clear hk)
     (try clear hi)
     refine hK.out _ _ ⟨(blk_cell BK309.out 0).trans rfl, (blk_cell BK309.out 1).trans rfl, (blk_cell BK294.out 0).trans rfl, (blk_cell BK294.out 1).trans rfl⟩ (fun hHeld => ?_)
     clear hK K
     refine norm_ (a' := ?_) ?_ ?_
     rotate_left
     ·show Act.put _ (some 33) _ = _
      simp only [Act.put, List.setIfInBounds_toArray, List.set_cons_zero, List.set_cons_succ, i64_w, i32_w]
      rfl
     refine pure_ (i := 4) (N := some 34) (v := ?_) (a' := ?_) #[true, true, true, true, true] rfl rfl (by kernel_rfl) (fun _ _ _ h => h) (Or.inl ⟨by rfl, ?_⟩) ?_ ?_
     rotate_left
     ·intro w'
      go_simp
      with_reducible rfl
     rotate_left
     ·simp only [Act.put, List.setIfInBounds_toArray, List.set_cons_zero, List.set_cons_succ, i64_w, i32_w]
      rfl
     refine done_ (by kernel_rfl) ?_
     try go_wp2
     go_ret
     exact ⟨er_, hb_⟩
   ·rw [if_neg c13] at H
    have c13b0 : (t310 == t302) = false := beq_eq_false_iff_ne.mpr c13
    have c13b1 : (t310 != t302) = true := bne_iff_ne.mpr c13
    obtain rfl := Option.some.inj H
    go_enter Try.func8, Try.ntmps8
    go_wp2_with (first | ((with_reducible refine gate_dst (N := 3) rfl ?_); refine box_event ?hg (N := 3) ?hd (cs := #[.slice A0_0 l0_0.length c0_0, .slice A0_1 l0_1.length c0_1]) (t := 49) ?hr ?_; (case hd => rfl); (case hg => rfl); (case hr => first | (go_simp; done) | (go_simp; rfl)); intro gb294 hg w59 hbox hb; have n0_ := Aside0.mk (below_step hb_ hb); have n1_ := Aside0.mk (hbox); have n2_ : Aside0 (w.heap.size ≤ gb294) := gz_; have n3_ : Aside0 (w.heap.size ≤ gb294) := gz_; clear HB; have HB := n0_; have BK294 := n1_; have GW294 := n2_; have GE294 := n3_; clear n0_ n1_ n2_ n3_; clear hb hbox hg; have hcz60_0 : w59.cell? ⟨gb294, 0, none⟩ = some (.slice A0_0 l0_0.length c0_0) := (blk_cell BK294.out 0).trans rfl; have hcz60_1 : w59.cell? ⟨gb294, 1, none⟩ = some (.slice A0_1 l0_1.length c0_1) := (blk_cell BK294.out 1).trans rfl; have hfz60_0 := blk_frozen BK294.out 0; have hfz60_1 := blk_frozen BK294.out 1) | ((with_reducible refine gate_callee (f := 31) rfl ?_); refine goesL_ (some 13) rfl rfl Try.func31 (by kernel_rfl) rfl #[.agg #[.slice A0_0 l0_0.length c0_0, .slice A0_1 l0_1.length c0_1], .int .i64 1048576] rfl ls_ ?_; (with_reducible refine (laws_szChart.calls _ _ l0_0 _ _ l0_1 1048576 t295 _ ?side1 ?side2 ?side3 ?side4 A4.out).mono ?_); (case side1 => exact cb_ HR0_0.out); (case side2 => exact HC0_0.out); (case side3 => exact cb_ HR0_1.out); (case side4 => exact HC0_1.out); rintro e w61 ⟨rfl, hb⟩; refine ⟨_, rfl, ?_⟩; have n0_ := bb_ BK294 hb; have n1_ := Aside0.mk (below_step hb_ hb); clear BK294; clear HB; have BK294 := n0_; have HB := n1_; clear n0_ n1_; (try clear hb); (try clear hb2); (try clear hk); (try clear hi); have hcz62_0 : w61.cell? ⟨gb294, 0, none⟩ = some (.slice A0_0 l0_0.length c0_0) := (blk_cell BK294.out 0).trans rfl; have hcz62_1 : w61.cell? ⟨gb294, 1, none⟩ = some (.slice A0_1 l0_1.length c0_1) := (blk_cell BK294.out 1).trans rfl; have hfz62_0 := blk_frozen BK294.out 0; have hfz62_1 := blk_frozen BK294.out 1) | ((with_reducible refine gate_callee (f := 33) rfl ?_); refine goesL_ (some 17) rfl rfl Try.func33 (by kernel_rfl) rfl #[.agg #[.slice A0_0 l0_0.length c0_0, .slice A0_1 l0_1.length c0_1]] rfl ls_ ?_; (with_reducible refine (laws_toChart.calls k _ _ l0_0 _ _ l0_1 t296 t299 _ ?side1 ?side2 ?side3 ?side4 A9.out).mono ?_); (case side1 => exact cb_ HR0_0.out); (case side2 => exact HC0_0.out); (case side3 => exact cb_ HR0_1.out); (case side4 => exact HC0_1.out); rintro e w63 ⟨v297, v300, rfl, ho0, ho1, hb⟩; refine ⟨_, rfl, ?_⟩; have n0_ := Aside0.mk (Kd.R_lower ho0 (below_size hb_)); have n1_ := Aside0.mk (Kd.R_lower ho1 (below_size hb_)); have n2_ := bb_ BK294 hb; have n3_ := Aside0.mk (below_step hb_ hb); clear BK294; clear HB; have HO298 := n0_; have HO301 := n1_; have BK294 := n2_; have HB := n3_; clear n0_ n1_ n2_ n3_; (try clear hb); (try clear hb2); (try clear hk); (try clear hi); (try clear ho0); (try clear ho1); obtain ⟨Ao64, co64, eo64⟩ := Kd.R_slice HO298.out; subst eo64; obtain ⟨Ao65, co65, eo65⟩ := Kd.R_slice HO301.out; subst eo65) | ((with_reducible refine gate_callee (f := 38) rfl ?_); refine goesL_ (some 20) rfl rfl Try.func38 (by kernel_rfl) rfl #[.agg #[.slice Ao64 t296.length co64, .slice Ao65 t299.length co65], .int .i64 a1, .int .i64 a2] rfl ls_ ?_; (with_reducible refine (spec_ChartStep.calls k _ _ t296 _ _ t299 a1 a2 t302 _ ?side1 ?side2 ?side3 ?side4 A10.out).mono ?_); (case side1 => exact ca_ (Kd.R_reads' HO298.out).2.2); (case side2 => exact (Kd.R_reads' HO298.out).2.1); (case side3 => exact ca_ (Kd.R_reads' HO301.out).2.2); (case side4 => exact (Kd.R_reads' HO301.out).2.1); rintro e w66 ⟨rfl, hb⟩; refine ⟨_, rfl, ?_⟩; have n0_ := Aside0.mk (Kd.R_below (ra_ HO298.out) hb); have n1_ := Aside0.mk (Kd.R_below (ra_ HO301.out) hb); have n2_ := bb_ BK294 hb; have n3_ := Aside0.mk (below_step hb_ hb); clear HO298; clear HO301; clear BK294; clear HB; have HO298 := n0_; have HO301 := n1_; have BK294 := n2_; have HB := n3_; clear n0_ n1_ n2_ n3_; (try clear hb); (try clear hb2); (try clear hk); (try clear hi); have hcz67_0 : w66.cell? ⟨gb294, 0, none⟩ = some (.slice A0_0 l0_0.length c0_0) := (blk_cell BK294.out 0).trans rfl; have hcz67_1 : w66.cell? ⟨gb294, 1, none⟩ = some (.slice A0_1 l0_1.length c0_1) := (blk_cell BK294.out 1).trans rfl; have hfz67_0 := blk_frozen BK294.out 0; have hfz67_1 := blk_frozen BK294.out 1) | ((with_reducible refine gate_callee (f := 33) rfl ?_); refine goesL_ (some 22) rfl rfl Try.func33 (by kernel_rfl) rfl #[.agg #[.slice A0_0 l0_0.length c0_0, .slice A0_1 l0_1.length c0_1]] rfl ls_ ?_; (with_reducible refine (laws_toChart.calls k _ _ l0_0 _ _ l0_1 t303 t306 _ ?side1 ?side2 ?side3 ?side4 A11.out).mono ?_); (case side1 => exact cb_ HR0_0.out); (case side2 => exact HC0_0.out); (case side3 => exact cb_ HR0_1.out); (case side4 => exact HC0_1.out); rintro e w68 ⟨v304, v307, rfl, ho0, ho1, hb⟩; refine ⟨_, rfl, ?_⟩; have n0_ := Aside0.mk (Kd.R_elder' (ra_ HO298.out) (Kd.R_base ho0) hb); have n1_ := Aside0.mk (Kd.R_elder' (ra_ HO301.out) (Kd.R_base ho1) hb); have n2_ := Aside0.mk (Kd.R_lower (Kd.R_new' ho0 (Kd.R_lt (ra_ HO298.out))) (below_size hb_)); have n3_ := Aside0.mk (Kd.R_lower (Kd.R_new' ho1 (Kd.R_lt (ra_ HO301.out))) (below_size hb_)); have n4_ := bb_ BK294 hb; have n5_ := Aside0.mk (below_step hb_ hb); clear HO298; clear HO301; clear BK294; clear HB; have HO298 := n0_; have HO301 := n1_; have HO305 := n2_; have HO308 := n3_; have BK294 := n4_; have HB := n5_; clear n0_ n1_ n2_ n3_ n4_ n5_; (try clear hb); (try clear hb2); (try clear hk); (try clear hi); (try clear ho0); (try clear ho1)) | ((with_reducible refine gate_dst (N := 9) rfl ?_); refine box_event ?hg (N := 9) ?hd (cs := #[.slice none 0 0, .slice none 0 0]) (t := 55) ?hr ?_; (case hd => rfl); (case hg => rfl); (case hr => first | (go_simp; done) | (go_simp; rfl)); intro gb309 hg w69 hbox hb; have n0_ := Aside0.mk (Kd.R_below (ra_ HO298.out) hb); have n1_ := Aside0.mk (Kd.R_below (ra_ HO301.out) hb); have n2_ := Aside0.mk (Kd.R_below (ra_ HO305.out) hb); have n3_ := Aside0.mk (Kd.R_below (ra_ HO308.out) hb); have n4_ := bb_ BK294 hb; have n5_ := Aside0.mk (below_step hb_ hb); have n6_ := Aside0.mk (hbox); have n7_ : Aside0 (w.heap.size ≤ gb309) := gz_; have n8_ : Aside0 (w.heap.size ≤ gb309) := gz_; have n9_ := Aside0.mk ((by rw [hg]; exact Nat.ne_of_lt (blk_lt (g := gb294) (o := .cells #[.slice A0_0 l0_0.length c0_0, .slice A0_1 l0_1.length c0_1] 49 (0, 0)) (bk_ BK294.out)) : gb294 ≠ gb309)); have n10_ := Aside0.mk ((by rw [hg]; exact Nat.ne_of_gt (blk_lt (g := gb294) (o := .cells #[.slice A0_0 l0_0.length c0_0, .slice A0_1 l0_1.length c0_1] 49 (0, 0)) (bk_ BK294.out)) : gb309 ≠ gb294)); clear HO298; clear HO301; clear HO305; clear HO308; clear BK294; clear HB; have HO298 := n0_; have HO301 := n1_; have HO305 := n2_; have HO308 := n3_; have BK294 := n4_; have HB := n5_; have BK309 := n6_; have GW309 := n7_; have GE309 := n8_; have NB294_309 := n9_; have NB309_294 := n10_; clear n0_ n1_ n2_ n3_ n4_ n5_ n6_ n7_ n8_ n9_ n10_; clear hb hbox hg; obtain ⟨Ao70, co70, eo70⟩ := Kd.R_slice HO305.out; subst eo70; have hnb71 := NB309_294.out; have hnc71 := NB294_309.out; have hcz72_0 : w69.cell? ⟨gb309, 0, none⟩ = some (.slice none 0 0) := (blk_cell BK309.out 0).trans rfl; have hcz72_1 : w69.cell? ⟨gb309, 1, none⟩ = some (.slice none 0 0) := (blk_cell BK309.out 1).trans rfl; have hfz72_0 := blk_frozen BK309.out 0; have hfz72_1 := blk_frozen BK309.out 1; obtain ⟨Ao73, co73, eo73⟩ := Kd.R_slice HO308.out; subst eo73) | ((with_reducible refine gate_callee (f := 39) rfl ?_); refine goesL_ (some 26) rfl rfl Try.func39 (by kernel_rfl) rfl #[.agg #[.slice Ao70 t303.length co70, .slice Ao73 t306.length co73], .int .i64 a1, .int .i64 a2] rfl ls_ ?_; (with_reducible refine (impl_ChartStep.calls k _ _ t303 _ _ t306 a1 a2 t310 _ ?side1 ?side2 ?side3 ?side4 A12.out).mono ?_); (case side1 => refine (Kd.R_reads' (e := 88) (base := w.heap.size) (ok := fun k_ => (True ∧ some k_ ≠ (.slice Ao64 t296.length co64 : Value).ownBlock)) (n := t303.length) (c := co70) ?_).2.2; exact (by (with_reducible repeat (first | apply Kd.R_alloc | apply Kd.R_drewN | apply Kd.R_drew)); exact (Kd.R_mono (Kd.R_far (p := ⟨gb309, 1, none⟩) (Kd.R_far (p := ⟨gb309, 0, none⟩) (Kd.R_types HO305.out BK309.out (by decide)) (fun _ hk => hk.2) (.slice Ao70 t303.length co70)) (fun _ hk => hk.2) (.slice Ao73 t306.length co73)) (fun _ h_ => h_.1)))); (case side2 => exact (Kd.R_reads' HO305.out).2.1); (case side3 => refine (Kd.R_reads' (e := 90) (base := w.heap.size) (ok := fun k_ => (True ∧ some k_ ≠ (.slice Ao65 t299.length co65 : Value).ownBlock)) (n := t306.length) (c := co73) ?_).2.2; exact (by (with_reducible repeat (first | apply Kd.R_alloc | apply Kd.R_drewN | apply Kd.R_drew)); exact (Kd.R_mono (Kd.R_far (p := ⟨gb309, 1, none⟩) (Kd.R_far (p := ⟨gb309, 0, none⟩) (Kd.R_types HO308.out BK309.out (by decide)) (fun _ hk => hk.2) (.slice Ao70 t303.length co70)) (fun _ hk => hk.2) (.slice Ao73 t306.length co73)) (fun _ h_ => h_.1)))); (case side4 => exact (Kd.R_reads' HO308.out).2.1); rintro e w74 ⟨rfl, hb⟩; refine ⟨_, rfl, ?_⟩; have n0_ := Aside0.mk (Kd.R_below (by (with_reducible repeat (first | apply Kd.R_alloc | apply Kd.R_drewN | apply Kd.R_drew)); exact (Kd.R_mono (Kd.R_far (p := ⟨gb309, 1, none⟩) (Kd.R_far (p := ⟨gb309, 0, none⟩) (Kd.R_types HO298.out BK309.out (by decide)) (fun _ hk => hk.2) (.slice Ao70 t303.length co70)) (fun _ hk => hk.2) (.slice Ao73 t306.length co73)) (fun _ h_ => h_.1))) hb); have n1_ := Aside0.mk (Kd.R_below (by (with_reducible repeat (first | apply Kd.R_alloc | apply Kd.R_drewN | apply Kd.R_drew)); exact (Kd.R_mono (Kd.R_far (p := ⟨gb309, 1, none⟩) (Kd.R_far (p := ⟨gb309, 0, none⟩) (Kd.R_types HO301.out BK309.out (by decide)) (fun _ hk => hk.2) (.slice Ao70 t303.length co70)) (fun _ hk => hk.2) (.slice Ao73 t306.length co73)) (fun _ h_ => h_.1))) hb); have n2_ := Aside0.mk (Kd.R_below (by (with_reducible repeat (first | apply Kd.R_alloc | apply Kd.R_drewN | apply Kd.R_drew)); exact (Kd.R_mono (Kd.R_far (p := ⟨gb309, 1, none⟩) (Kd.R_far (p := ⟨gb309, 0, none⟩) (Kd.R_types HO305.out BK309.out (by decide)) (fun _ hk => hk.2) (.slice Ao70 t303.length co70)) (fun _ hk => hk.2) (.slice Ao73 t306.length co73)) (fun _ h_ => h_.1))) hb); have n3_ := Aside0.mk (Kd.R_below (by (with_reducible repeat (first | apply Kd.R_alloc | apply Kd.R_drewN | apply Kd.R_drew)); exact (Kd.R_mono (Kd.R_far (p := ⟨gb309, 1, none⟩) (Kd.R_far (p := ⟨gb309, 0, none⟩) (Kd.R_types HO308.out BK309.out (by decide)) (fun _ hk => hk.2) (.slice Ao70 t303.length co70)) (fun _ hk => hk.2) (.slice Ao73 t306.length co73)) (fun _ h_ => h_.1))) hb); have n4_ := Aside0.mk (blk_below (g := gb294) (o := .cells #[.slice A0_0 l0_0.length c0_0, .slice A0_1 l0_1.length c0_1] 49 (0, 0)) (by (with_reducible repeat (first | refine blk_drewN ?_ _ | refine blk_drew ?_ | refine blk_alloc ?_ _)); refine blk_far ?_ NB294_309.out _; (with_reducible repeat (first | refine blk_drewN ?_ _ | refine blk_drew ?_ | refine blk_alloc ?_ _)); refine blk_far ?_ NB294_309.out _; (with_reducible repeat (first | refine blk_drewN ?_ _ | refine blk_drew ?_ | refine blk_alloc ?_ _)); exact BK294.out) hb); have n5_ := Aside0.mk (blk_below (g := gb309) (o := .cells #[.slice Ao70 t303.length co70, .slice Ao73 t306.length co73] 55 (0, 0)) (by (with_reducible repeat (first | refine blk_drewN ?_ _ | refine blk_drew ?_ | refine blk_alloc ?_ _)); refine blk_put (cs := #[.slice Ao70 t303.length co70, .slice none 0 0]) ?_ 1 _ rfl; (with_reducible repeat (first | refine blk_drewN ?_ _ | refine blk_drew ?_ | refine blk_alloc ?_ _)); refine blk_put (cs := #[.slice none 0 0, .slice none 0 0]) ?_ 0 _ rfl; (with_reducible repeat (first | refine blk_drewN ?_ _ | refine blk_drew ?_ | refine blk_alloc ?_ _)); exact BK309.out) hb); have n6_ := Aside0.mk (below_step hb_ hb); clear HO298; clear HO301; clear HO305; clear HO308; clear BK294; clear BK309; clear HB; have HO298 := n0_; have HO301 := n1_; have HO305 := n2_; have HO308 := n3_; have BK294 := n4_; have BK309 := n5_; have HB := n6_; clear n0_ n1_ n2_ n3_ n4_ n5_ n6_; (try clear hb); (try clear hb2); (try clear hk); (try clear hi)))
    go_ret
    exact ⟨er_, hb_⟩

end Go.Proofs.Ytkhkgfihodljmaa.Pr
