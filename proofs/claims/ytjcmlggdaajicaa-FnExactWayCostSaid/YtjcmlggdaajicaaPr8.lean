-- Written by this session's own print (wip/tools/mkmp.py) out of the translation. Lean checks it.
import Derived.Test.YtjcmlggdaajicaaPr0
import Derived.Test.YtjcmlggdaajicaaPr1
import Derived.Test.YtjcmlggdaajicaaPr2
import Derived.Test.YtjcmlggdaajicaaPr4
import Derived.Test.YtjcmlggdaajicaaPr7
import Derived.Test.YtjcmlggdaajicaaPrd1
namespace Go.Proofs.Ytjcmlggdaajicaa.Pr
open Go.RowKit Go.Proofs.YtjcmlggdaajicaaW.PrintWords Go.Proofs.YtjcmlggdaajicaaW.PrintLast Go.Proofs.YtjcmlggdaajicaaW.PrintMore
attribute [local go_sem] max2_int min2_int max_two min_two max_three min_three max_four min_four   -- for this text's walks alone
set_option linter.unusedVariables false
set_option linter.unusedSimpArgs false

set_option maxHeartbeats 8000000 in
set_option maxRecDepth 100000 in
theorem laws_FnExactWayCost.calls (k : Nat) (a0_0 : Int) (A0_1 : Option Addr) (c0_1 : Nat) (l0_1 : List Int) (A1 : Option Addr) (c1 : Nat) (l1 : List Int) (r : Bool) (w : World) (hr0_1 : Kd.C (Kd.int .i64) w A0_1 l0_1.length l0_1) (hc0_1 : l0_1.length ≤ c0_1) (hr1 : Kd.C (Kd.int .i64) w A1 l1.length l1) (hc1 : l1.length ≤ c1) (h : laws_FnExactWayCost.f k a0_0 l0_1 l1 = some r) :
   Calls Try.prog 4 #[.agg #[.int .i64 a0_0, .slice A0_1 l0_1.length c0_1], .slice A1 l1.length c1] w fun e w' => e = .returned (.bool r) ∧ Below w.heap.size w w' := by
  have hu24 := Try.underlying24
  have hu27 := Try.underlying27
  have HR0_1 := Aside0.mk hr0_1
  have HC0_1 := Aside0.mk hc0_1
  clear hr0_1 hc0_1
  have HR1 := Aside0.mk hr1
  have HC1 := Aside0.mk hc1
  clear hr1 hc1
  have HB := Aside0.mk (Below.refl w.heap.size w)
  have H : (if (l1.length : Int) > 1048576 then (some true) else ((laws_szCells.f a0_0 l0_1 1048576).bind fun t164 => (if t164 < 0 then (some true) else ((laws_toCells.f k a0_0 l0_1).bind fun bt165 => ((laws_toIntS.f k l1).bind fun t169 => ((spec_WayCost.f k bt165.1 bt165.2 t169).bind fun bt172 => ((laws_toCells.f k a0_0 l0_1).bind fun bt175 => ((laws_toIntS.f k l1).bind fun t180 => ((impl_WayCost.f k bt175.1 bt175.2 t180).bind fun bt183 => (if bt183.1 = bt172.1 then (if bt183.2.1 = bt172.2.1 then (laws_FnExactWayCost.j0 k l1 t180 (bt183.2.2 != bt172.2.2) a0_0 l0_1 bt175.1 bt175.2) else (laws_FnExactWayCost.j0 k l1 t180 true a0_0 l0_1 bt175.1 bt175.2)) else (laws_FnExactWayCost.j0 k l1 t180 true a0_0 l0_1 bt175.1 bt175.2))))))))))) = some r := h
  clear h
  by_cases c3 : (l1.length : Int) > 1048576
  ·rw [if_pos c3] at H
   have c3b0 : decide (1048576 < (l1.length : Int)) = true := decide_eq_true c3
   have c3b1 : decide (1048576 < l1.length) = true := decide_eq_true (by omega)
   clear c3
   obtain rfl := Option.some.inj H
   go_enter Try.func4, Try.ntmps4
   go_wp2_with (first | ((with_reducible refine gate_dst (N := 2) rfl ?_); refine box_event ?hg (N := 2) ?hd (cs := #[.int .i64 a0_0, .slice A0_1 l0_1.length c0_1]) (t := 24) ?hr ?_; (case hd => rfl); (case hg => rfl); (case hr => first | (go_simp; done) | (go_simp; rfl)); intro gb163 hg w4 hbox hb; have n0_ := Aside0.mk (below_step hb_ hb); have n1_ := Aside0.mk (hbox); have n2_ : Aside0 (w.heap.size ≤ gb163) := gz_; have n3_ : Aside0 (w.heap.size ≤ gb163) := gz_; clear HB; have HB := n0_; have BK163 := n1_; have GW163 := n2_; have GE163 := n3_; clear n0_ n1_ n2_ n3_; clear hb hbox hg))
   go_ret
   exact ⟨er_, hb_⟩
  ·rw [if_neg c3] at H
   have c3b0 : decide (1048576 < (l1.length : Int)) = false := decide_eq_false c3
   have c3b1 : decide (1048576 < l1.length) = false := decide_eq_false (by omega)
   clear c3
   replace H := Option.bind_eq_some_iff.mp H
   obtain ⟨t164, A50, H⟩ := H
   replace H : (if t164 < 0 then (some true) else ((laws_toCells.f k a0_0 l0_1).bind fun bt165 => ((laws_toIntS.f k l1).bind fun t169 => ((spec_WayCost.f k bt165.1 bt165.2 t169).bind fun bt172 => ((laws_toCells.f k a0_0 l0_1).bind fun bt175 => ((laws_toIntS.f k l1).bind fun t180 => ((impl_WayCost.f k bt175.1 bt175.2 t180).bind fun bt183 => (if bt183.1 = bt172.1 then (if bt183.2.1 = bt172.2.1 then (laws_FnExactWayCost.j0 k l1 t180 (bt183.2.2 != bt172.2.2) a0_0 l0_1 bt175.1 bt175.2) else (laws_FnExactWayCost.j0 k l1 t180 true a0_0 l0_1 bt175.1 bt175.2)) else (laws_FnExactWayCost.j0 k l1 t180 true a0_0 l0_1 bt175.1 bt175.2))))))))) = some r := H
   have A5 := Aside0.mk A50
   clear A50
   by_cases c6 : t164 < 0
   ·rw [if_pos c6] at H
    have c6b0 : decide (t164 < 0) = true := decide_eq_true c6
    clear c6
    obtain rfl := Option.some.inj H
    go_enter Try.func4, Try.ntmps4
    go_wp2_with (first | ((with_reducible refine gate_dst (N := 2) rfl ?_); refine box_event ?hg (N := 2) ?hd (cs := #[.int .i64 a0_0, .slice A0_1 l0_1.length c0_1]) (t := 24) ?hr ?_; (case hd => rfl); (case hg => rfl); (case hr => first | (go_simp; done) | (go_simp; rfl)); intro gb163 hg w7 hbox hb; have n0_ := Aside0.mk (below_step hb_ hb); have n1_ := Aside0.mk (hbox); have n2_ : Aside0 (w.heap.size ≤ gb163) := gz_; have n3_ : Aside0 (w.heap.size ≤ gb163) := gz_; clear HB; have HB := n0_; have BK163 := n1_; have GW163 := n2_; have GE163 := n3_; clear n0_ n1_ n2_ n3_; clear hb hbox hg; have hcz8_0 : w7.cell? ⟨gb163, 0, none⟩ = some (.int .i64 a0_0) := (blk_cell BK163.out 0).trans rfl; have hcz8_1 : w7.cell? ⟨gb163, 1, none⟩ = some (.slice A0_1 l0_1.length c0_1) := (blk_cell BK163.out 1).trans rfl; have hfz8_0 := blk_frozen BK163.out 0; have hfz8_1 := blk_frozen BK163.out 1) | ((with_reducible refine gate_callee (f := 10) rfl ?_); refine goesL_ (some 19) rfl rfl Try.func10 (by kernel_rfl) rfl #[.agg #[.int .i64 a0_0, .slice A0_1 l0_1.length c0_1], .int .i64 1048576] rfl ls_ ?_; (with_reducible refine (laws_szCells.calls a0_0 _ _ l0_1 1048576 t164 _ ?side1 ?side2 A5.out).mono ?_); (case side1 => exact cb_ HR0_1.out); (case side2 => exact HC0_1.out); rintro e w9 ⟨rfl, hb⟩; refine ⟨_, rfl, ?_⟩; have n0_ := bb_ BK163 hb; have n1_ := Aside0.mk (below_step hb_ hb); clear BK163; clear HB; have BK163 := n0_; have HB := n1_; clear n0_ n1_; (try clear hb); (try clear hb2); (try clear hk); (try clear hi)))
    go_ret
    exact ⟨er_, hb_⟩
   ·rw [if_neg c6] at H
    have c6b0 : decide (t164 < 0) = false := decide_eq_false c6
    clear c6
    replace H := Option.bind_eq_some_iff.mp H
    obtain ⟨⟨t165, t166⟩, A100, H⟩ := H
    replace H : ((laws_toIntS.f k l1).bind fun t169 => ((spec_WayCost.f k t165 t166 t169).bind fun bt172 => ((laws_toCells.f k a0_0 l0_1).bind fun bt175 => ((laws_toIntS.f k l1).bind fun t180 => ((impl_WayCost.f k bt175.1 bt175.2 t180).bind fun bt183 => (if bt183.1 = bt172.1 then (if bt183.2.1 = bt172.2.1 then (laws_FnExactWayCost.j0 k l1 t180 (bt183.2.2 != bt172.2.2) a0_0 l0_1 bt175.1 bt175.2) else (laws_FnExactWayCost.j0 k l1 t180 true a0_0 l0_1 bt175.1 bt175.2)) else (laws_FnExactWayCost.j0 k l1 t180 true a0_0 l0_1 bt175.1 bt175.2))))))) = some r := H
    have A10 := Aside0.mk A100
    clear A100
    replace H := Option.bind_eq_some_iff.mp H
    obtain ⟨t169, A110, H⟩ := H
    replace H : ((spec_WayCost.f k t165 t166 t169).bind fun bt172 => ((laws_toCells.f k a0_0 l0_1).bind fun bt175 => ((laws_toIntS.f k l1).bind fun t180 => ((impl_WayCost.f k bt175.1 bt175.2 t180).bind fun bt183 => (if bt183.1 = bt172.1 then (if bt183.2.1 = bt172.2.1 then (laws_FnExactWayCost.j0 k l1 t180 (bt183.2.2 != bt172.2.2) a0_0 l0_1 bt175.1 bt175.2) else (laws_FnExactWayCost.j0 k l1 t180 true a0_0 l0_1 bt175.1 bt175.2)) else (laws_FnExactWayCost.j0 k l1 t180 true a0_0 l0_1 bt175.1 bt175.2)))))) = some r := H
    have A11 := Aside0.mk A110
    clear A110
    replace H := Option.bind_eq_some_iff.mp H
    obtain ⟨⟨t172, t173, t174⟩, A120, H⟩ := H
    replace H : ((laws_toCells.f k a0_0 l0_1).bind fun bt175 => ((laws_toIntS.f k l1).bind fun t180 => ((impl_WayCost.f k bt175.1 bt175.2 t180).bind fun bt183 => (if bt183.1 = t172 then (if bt183.2.1 = t173 then (laws_FnExactWayCost.j0 k l1 t180 (bt183.2.2 != t174) a0_0 l0_1 bt175.1 bt175.2) else (laws_FnExactWayCost.j0 k l1 t180 true a0_0 l0_1 bt175.1 bt175.2)) else (laws_FnExactWayCost.j0 k l1 t180 true a0_0 l0_1 bt175.1 bt175.2))))) = some r := H
    have A12 := Aside0.mk A120
    clear A120
    replace H := Option.bind_eq_some_iff.mp H
    obtain ⟨⟨t175, t176⟩, A130, H⟩ := H
    replace H : ((laws_toIntS.f k l1).bind fun t180 => ((impl_WayCost.f k t175 t176 t180).bind fun bt183 => (if bt183.1 = t172 then (if bt183.2.1 = t173 then (laws_FnExactWayCost.j0 k l1 t180 (bt183.2.2 != t174) a0_0 l0_1 t175 t176) else (laws_FnExactWayCost.j0 k l1 t180 true a0_0 l0_1 t175 t176)) else (laws_FnExactWayCost.j0 k l1 t180 true a0_0 l0_1 t175 t176)))) = some r := H
    have A13 := Aside0.mk A130
    clear A130
    replace H := Option.bind_eq_some_iff.mp H
    obtain ⟨t180, A140, H⟩ := H
    replace H : ((impl_WayCost.f k t175 t176 t180).bind fun bt183 => (if bt183.1 = t172 then (if bt183.2.1 = t173 then (laws_FnExactWayCost.j0 k l1 t180 (bt183.2.2 != t174) a0_0 l0_1 t175 t176) else (laws_FnExactWayCost.j0 k l1 t180 true a0_0 l0_1 t175 t176)) else (laws_FnExactWayCost.j0 k l1 t180 true a0_0 l0_1 t175 t176))) = some r := H
    have A14 := Aside0.mk A140
    clear A140
    replace H := Option.bind_eq_some_iff.mp H
    obtain ⟨⟨t183, t184, t185⟩, A150, H⟩ := H
    replace H : (if t183 = t172 then (if t184 = t173 then (laws_FnExactWayCost.j0 k l1 t180 (t185 != t174) a0_0 l0_1 t175 t176) else (laws_FnExactWayCost.j0 k l1 t180 true a0_0 l0_1 t175 t176)) else (laws_FnExactWayCost.j0 k l1 t180 true a0_0 l0_1 t175 t176)) = some r := H
    have A15 := Aside0.mk A150
    clear A150
    have HC16 := Aside0.mk H
    clear H
    go_enter Try.func4, Try.ntmps4
    go_upto_region 11 with (first | ((with_reducible refine gate_dst (N := 2) rfl ?_); refine box_event ?hg (N := 2) ?hd (cs := #[.int .i64 a0_0, .slice A0_1 l0_1.length c0_1]) (t := 24) ?hr ?_; (case hd => rfl); (case hg => rfl); (case hr => first | (go_simp; done) | (go_simp; rfl)); intro gb163 hg w17 hbox hb; have n0_ := Aside0.mk (below_step hb_ hb); have n1_ := Aside0.mk (hbox); have n2_ : Aside0 (w.heap.size ≤ gb163) := gz_; have n3_ : Aside0 (w.heap.size ≤ gb163) := gz_; clear HB; have HB := n0_; have BK163 := n1_; have GW163 := n2_; have GE163 := n3_; clear n0_ n1_ n2_ n3_; clear hb hbox hg; have hcz18_0 : w17.cell? ⟨gb163, 0, none⟩ = some (.int .i64 a0_0) := (blk_cell BK163.out 0).trans rfl; have hcz18_1 : w17.cell? ⟨gb163, 1, none⟩ = some (.slice A0_1 l0_1.length c0_1) := (blk_cell BK163.out 1).trans rfl; have hfz18_0 := blk_frozen BK163.out 0; have hfz18_1 := blk_frozen BK163.out 1) | ((with_reducible refine gate_callee (f := 10) rfl ?_); refine goesL_ (some 19) rfl rfl Try.func10 (by kernel_rfl) rfl #[.agg #[.int .i64 a0_0, .slice A0_1 l0_1.length c0_1], .int .i64 1048576] rfl ls_ ?_; (with_reducible refine (laws_szCells.calls a0_0 _ _ l0_1 1048576 t164 _ ?side1 ?side2 A5.out).mono ?_); (case side1 => exact cb_ HR0_1.out); (case side2 => exact HC0_1.out); rintro e w19 ⟨rfl, hb⟩; refine ⟨_, rfl, ?_⟩; have n0_ := bb_ BK163 hb; have n1_ := Aside0.mk (below_step hb_ hb); clear BK163; clear HB; have BK163 := n0_; have HB := n1_; clear n0_ n1_; (try clear hb); (try clear hb2); (try clear hk); (try clear hi); have hcz20_0 : w19.cell? ⟨gb163, 0, none⟩ = some (.int .i64 a0_0) := (blk_cell BK163.out 0).trans rfl; have hcz20_1 : w19.cell? ⟨gb163, 1, none⟩ = some (.slice A0_1 l0_1.length c0_1) := (blk_cell BK163.out 1).trans rfl; have hfz20_0 := blk_frozen BK163.out 0; have hfz20_1 := blk_frozen BK163.out 1) | ((with_reducible refine gate_callee (f := 12) rfl ?_); refine goesL_ (some 24) rfl rfl Try.func12 (by kernel_rfl) rfl #[.agg #[.int .i64 a0_0, .slice A0_1 l0_1.length c0_1]] rfl ls_ ?_; (with_reducible refine (laws_toCells.calls k a0_0 _ _ l0_1 t165 t166 _ ?side1 ?side2 A10.out).mono ?_); (case side1 => exact cb_ HR0_1.out); (case side2 => exact HC0_1.out); rintro e w21 ⟨v167, rfl, ho0, hb⟩; refine ⟨_, rfl, ?_⟩; have n0_ := Aside0.mk (Kd.R_lower ho0 (below_size hb_)); have n1_ := bb_ BK163 hb; have n2_ := Aside0.mk (below_step hb_ hb); clear BK163; clear HB; have HO168 := n0_; have BK163 := n1_; have HB := n2_; clear n0_ n1_ n2_; (try clear hb); (try clear hb2); (try clear hk); (try clear hi); (try clear ho0)) | ((with_reducible refine gate_callee (f := 16) rfl ?_); refine goesL_ (some 26) rfl rfl Try.func16 (by kernel_rfl) rfl #[.slice A1 l1.length c1] rfl ls_ ?_; (with_reducible refine (laws_toIntS.calls k _ _ l1 t169 _ ?side1 ?side2 A11.out).mono ?_); (case side1 => exact cb_ HR1.out); (case side2 => exact HC1.out); rintro e w22 ⟨v170, rfl, ho0, hb⟩; refine ⟨_, rfl, ?_⟩; have n0_ := Aside0.mk (Kd.R_elder' (ra_ HO168.out) (Kd.R_base ho0) hb); have n1_ := Aside0.mk (Kd.R_lower (Kd.R_new' ho0 (Kd.R_lt (ra_ HO168.out))) (below_size hb_)); have n2_ := bb_ BK163 hb; have n3_ := Aside0.mk (below_step hb_ hb); clear HO168; clear BK163; clear HB; have HO168 := n0_; have HO171 := n1_; have BK163 := n2_; have HB := n3_; clear n0_ n1_ n2_ n3_; (try clear hb); (try clear hb2); (try clear hk); (try clear hi); (try clear ho0); obtain ⟨Ao23, co23, eo23⟩ := Kd.R_slice HO168.out; subst eo23; obtain ⟨Ao24, co24, eo24⟩ := Kd.R_slice HO171.out; subst eo24) | ((with_reducible refine gate_callee (f := 15) rfl ?_); refine goesL_ (some 27) rfl rfl Try.func15 (by kernel_rfl) rfl #[.agg #[.int .i64 t165, .slice Ao23 t166.length co23], .slice Ao24 t169.length co24] rfl ls_ ?_; (with_reducible refine (spec_WayCost.calls k t165 _ _ t166 _ _ t169 t172 t173 t174 _ ?side1 ?side2 ?side3 ?side4 A12.out).mono ?_); (case side1 => exact ca_ (Kd.R_reads' HO168.out).2.2); (case side2 => exact (Kd.R_reads' HO168.out).2.1); (case side3 => exact ca_ (Kd.R_reads' HO171.out).2.2); (case side4 => exact (Kd.R_reads' HO171.out).2.1); rintro e w25 ⟨rfl, hb⟩; refine ⟨_, rfl, ?_⟩; have n0_ := Aside0.mk (Kd.R_below (ra_ HO168.out) hb); have n1_ := Aside0.mk (Kd.R_below (ra_ HO171.out) hb); have n2_ := bb_ BK163 hb; have n3_ := Aside0.mk (below_step hb_ hb); clear HO168; clear HO171; clear BK163; clear HB; have HO168 := n0_; have HO171 := n1_; have BK163 := n2_; have HB := n3_; clear n0_ n1_ n2_ n3_; (try clear hb); (try clear hb2); (try clear hk); (try clear hi); have hcz26_0 : w25.cell? ⟨gb163, 0, none⟩ = some (.int .i64 a0_0) := (blk_cell BK163.out 0).trans rfl; have hcz26_1 : w25.cell? ⟨gb163, 1, none⟩ = some (.slice A0_1 l0_1.length c0_1) := (blk_cell BK163.out 1).trans rfl; have hfz26_0 := blk_frozen BK163.out 0; have hfz26_1 := blk_frozen BK163.out 1) | ((with_reducible refine gate_callee (f := 12) rfl ?_); refine goesL_ (some 32) rfl rfl Try.func12 (by kernel_rfl) rfl #[.agg #[.int .i64 a0_0, .slice A0_1 l0_1.length c0_1]] rfl ls_ ?_; (with_reducible refine (laws_toCells.calls k a0_0 _ _ l0_1 t175 t176 _ ?side1 ?side2 A13.out).mono ?_); (case side1 => exact cb_ HR0_1.out); (case side2 => exact HC0_1.out); rintro e w27 ⟨v177, rfl, ho0, hb⟩; refine ⟨_, rfl, ?_⟩; have n0_ := Aside0.mk (Kd.R_elder' (ra_ HO168.out) (Kd.R_base ho0) hb); have n1_ := Aside0.mk (Kd.R_elder' (ra_ HO171.out) (Kd.R_base ho0) hb); have n2_ := Aside0.mk (Kd.R_lower (Kd.R_new' (Kd.R_new' ho0 (Kd.R_lt (ra_ HO168.out))) (Kd.R_lt (ra_ HO171.out))) (below_size hb_)); have n3_ := bb_ BK163 hb; have n4_ := Aside0.mk (below_step hb_ hb); clear HO168; clear HO171; clear BK163; clear HB; have HO168 := n0_; have HO171 := n1_; have HO178 := n2_; have BK163 := n3_; have HB := n4_; clear n0_ n1_ n2_ n3_ n4_; (try clear hb); (try clear hb2); (try clear hk); (try clear hi); (try clear ho0)) | ((with_reducible refine gate_dst (N := 9) rfl ?_); refine box_event ?hg (N := 9) ?hd (cs := #[.int .i64 0, .slice none 0 0]) (t := 27) ?hr ?_; (case hd => rfl); (case hg => rfl); (case hr => first | (go_simp; done) | (go_simp; rfl)); intro gb179 hg w28 hbox hb; have n0_ := Aside0.mk (Kd.R_below (ra_ HO168.out) hb); have n1_ := Aside0.mk (Kd.R_below (ra_ HO171.out) hb); have n2_ := Aside0.mk (Kd.R_below (ra_ HO178.out) hb); have n3_ := bb_ BK163 hb; have n4_ := Aside0.mk (below_step hb_ hb); have n5_ := Aside0.mk (hbox); have n6_ : Aside0 (w.heap.size ≤ gb179) := gz_; have n7_ : Aside0 (w.heap.size ≤ gb179) := gz_; have n8_ := Aside0.mk ((by rw [hg]; exact Nat.ne_of_lt (blk_lt (g := gb163) (o := .cells #[.int .i64 a0_0, .slice A0_1 l0_1.length c0_1] 24 (0, 0)) (bk_ BK163.out)) : gb163 ≠ gb179)); have n9_ := Aside0.mk ((by rw [hg]; exact Nat.ne_of_gt (blk_lt (g := gb163) (o := .cells #[.int .i64 a0_0, .slice A0_1 l0_1.length c0_1] 24 (0, 0)) (bk_ BK163.out)) : gb179 ≠ gb163)); clear HO168; clear HO171; clear HO178; clear BK163; clear HB; have HO168 := n0_; have HO171 := n1_; have HO178 := n2_; have BK163 := n3_; have HB := n4_; have BK179 := n5_; have GW179 := n6_; have GE179 := n7_; have NB163_179 := n8_; have NB179_163 := n9_; clear n0_ n1_ n2_ n3_ n4_ n5_ n6_ n7_ n8_ n9_; clear hb hbox hg; have hnb29 := NB179_163.out; have hnc29 := NB163_179.out; have hcz30_0 : w28.cell? ⟨gb179, 0, none⟩ = some (.int .i64 0) := (blk_cell BK179.out 0).trans rfl; have hcz30_1 : w28.cell? ⟨gb179, 1, none⟩ = some (.slice none 0 0) := (blk_cell BK179.out 1).trans rfl; have hfz30_0 := blk_frozen BK179.out 0; have hfz30_1 := blk_frozen BK179.out 1; obtain ⟨Ao31, co31, eo31⟩ := Kd.R_slice HO178.out; subst eo31) | ((with_reducible refine gate_callee (f := 16) rfl ?_); refine goesL_ (some 34) rfl rfl Try.func16 (by kernel_rfl) rfl #[.slice A1 l1.length c1] rfl ls_ ?_; (with_reducible refine (laws_toIntS.calls k _ _ l1 t180 _ ?side1 ?side2 A14.out).mono ?_); (case side1 => exact Kd.C_below HR1.out hb_); (case side2 => exact HC1.out); rintro e w32 ⟨v181, rfl, ho0, hb⟩; refine ⟨_, rfl, ?_⟩; have n0_ := Aside0.mk (Kd.R_elder' (by (with_reducible repeat (first | apply Kd.R_alloc | apply Kd.R_drewN | apply Kd.R_drew)); exact (Kd.R_mono (Kd.R_far (p := ⟨gb179, 1, none⟩) (Kd.R_far (p := ⟨gb179, 0, none⟩) (Kd.R_types HO168.out BK179.out (by decide)) (fun _ hk => hk.2) (.int .i64 t175)) (fun _ hk => hk.2) (.slice Ao31 t176.length co31)) (fun _ h_ => h_.1))) (Kd.R_base ho0) hb); have n1_ := Aside0.mk (Kd.R_elder' (by (with_reducible repeat (first | apply Kd.R_alloc | apply Kd.R_drewN | apply Kd.R_drew)); exact (Kd.R_mono (Kd.R_far (p := ⟨gb179, 1, none⟩) (Kd.R_far (p := ⟨gb179, 0, none⟩) (Kd.R_types HO171.out BK179.out (by decide)) (fun _ hk => hk.2) (.int .i64 t175)) (fun _ hk => hk.2) (.slice Ao31 t176.length co31)) (fun _ h_ => h_.1))) (Kd.R_base ho0) hb); have n2_ := Aside0.mk (Kd.R_elder' (by (with_reducible repeat (first | apply Kd.R_alloc | apply Kd.R_drewN | apply Kd.R_drew)); exact (Kd.R_mono (Kd.R_far (p := ⟨gb179, 1, none⟩) (Kd.R_far (p := ⟨gb179, 0, none⟩) (Kd.R_types HO178.out BK179.out (by decide)) (fun _ hk => hk.2) (.int .i64 t175)) (fun _ hk => hk.2) (.slice Ao31 t176.length co31)) (fun _ h_ => h_.1))) (Kd.R_base ho0) hb); have n3_ := Aside0.mk (Kd.R_lower (Kd.R_new' (Kd.R_new' (Kd.R_new' ho0 (Kd.R_lt (by (with_reducible repeat (first | apply Kd.R_alloc | apply Kd.R_drewN | apply Kd.R_drew)); exact (Kd.R_mono (Kd.R_far (p := ⟨gb179, 1, none⟩) (Kd.R_far (p := ⟨gb179, 0, none⟩) (Kd.R_types HO168.out BK179.out (by decide)) (fun _ hk => hk.2) (.int .i64 t175)) (fun _ hk => hk.2) (.slice Ao31 t176.length co31)) (fun _ h_ => h_.1))))) (Kd.R_lt (by (with_reducible repeat (first | apply Kd.R_alloc | apply Kd.R_drewN | apply Kd.R_drew)); exact (Kd.R_mono (Kd.R_far (p := ⟨gb179, 1, none⟩) (Kd.R_far (p := ⟨gb179, 0, none⟩) (Kd.R_types HO171.out BK179.out (by decide)) (fun _ hk => hk.2) (.int .i64 t175)) (fun _ hk => hk.2) (.slice Ao31 t176.length co31)) (fun _ h_ => h_.1))))) (Kd.R_lt (by (with_reducible repeat (first | apply Kd.R_alloc | apply Kd.R_drewN | apply Kd.R_drew)); exact (Kd.R_mono (Kd.R_far (p := ⟨gb179, 1, none⟩) (Kd.R_far (p := ⟨gb179, 0, none⟩) (Kd.R_types HO178.out BK179.out (by decide)) (fun _ hk => hk.2) (.int .i64 t175)) (fun _ hk => hk.2) (.slice Ao31 t176.length co31)) (fun _ h_ => h_.1))))) (below_size hb_)); have n4_ := Aside0.mk (blk_below (g := gb163) (o := .cells #[.int .i64 a0_0, .slice A0_1 l0_1.length c0_1] 24 (0, 0)) (by (with_reducible repeat (first | refine blk_drewN ?_ _ | refine blk_drew ?_ | refine blk_alloc ?_ _)); refine blk_far ?_ NB163_179.out _; (with_reducible repeat (first | refine blk_drewN ?_ _ | refine blk_drew ?_ | refine blk_alloc ?_ _)); refine blk_far ?_ NB163_179.out _; (with_reducible repeat (first | refine blk_drewN ?_ _ | refine blk_drew ?_ | refine blk_alloc ?_ _)); exact BK163.out) hb); have n5_ := Aside0.mk (blk_below (g := gb179) (o := .cells #[.int .i64 t175, .slice Ao31 t176.length co31] 27 (0, 0)) (by (with_reducible repeat (first | refine blk_drewN ?_ _ | refine blk_drew ?_ | refine blk_alloc ?_ _)); refine blk_put (cs := #[.int .i64 t175, .slice none 0 0]) ?_ 1 _ rfl; (with_reducible repeat (first | refine blk_drewN ?_ _ | refine blk_drew ?_ | refine blk_alloc ?_ _)); refine blk_put (cs := #[.int .i64 0, .slice none 0 0]) ?_ 0 _ rfl; (with_reducible repeat (first | refine blk_drewN ?_ _ | refine blk_drew ?_ | refine blk_alloc ?_ _)); exact BK179.out) hb); have n6_ := Aside0.mk (below_step hb_ hb); clear HO168; clear HO171; clear HO178; clear BK163; clear BK179; clear HB; have HO168 := n0_; have HO171 := n1_; have HO178 := n2_; have HO182 := n3_; have BK163 := n4_; have BK179 := n5_; have HB := n6_; clear n0_ n1_ n2_ n3_ n4_ n5_ n6_; (try clear hb); (try clear hb2); (try clear hk); (try clear hi); (try clear ho0); have hcz33_0 : w32.cell? ⟨gb179, 0, none⟩ = some (.int .i64 t175) := (blk_cell BK179.out 0).trans rfl; have hcz33_1 : w32.cell? ⟨gb179, 1, none⟩ = some (.slice Ao31 t176.length co31) := (blk_cell BK179.out 1).trans rfl; have hfz33_0 := blk_frozen BK179.out 0; have hfz33_1 := blk_frozen BK179.out 1; obtain ⟨Ao34, co34, eo34⟩ := Kd.R_slice HO182.out; subst eo34) | ((with_reducible refine gate_callee (f := 17) rfl ?_); refine goesL_ (some 38) rfl rfl Try.func17 (by kernel_rfl) rfl #[.agg #[.int .i64 t175, .slice Ao31 t176.length co31], .slice Ao34 t180.length co34] rfl ls_ ?_; (with_reducible refine (impl_WayCost.calls k t175 _ _ t176 _ _ t180 t183 t184 t185 _ ?side1 ?side2 ?side3 ?side4 A15.out).mono ?_); (case side1 => exact ca_ (Kd.R_reads' HO178.out).2.2); (case side2 => exact (Kd.R_reads' HO178.out).2.1); (case side3 => exact ca_ (Kd.R_reads' HO182.out).2.2); (case side4 => exact (Kd.R_reads' HO182.out).2.1); rintro e w35 ⟨rfl, hb⟩; refine ⟨_, rfl, ?_⟩; have n0_ := Aside0.mk (Kd.R_below (ra_ HO168.out) hb); have n1_ := Aside0.mk (Kd.R_below (ra_ HO171.out) hb); have n2_ := Aside0.mk (Kd.R_below (ra_ HO178.out) hb); have n3_ := Aside0.mk (Kd.R_below (ra_ HO182.out) hb); have n4_ := bb_ BK163 hb; have n5_ := bb_ BK179 hb; have n6_ := Aside0.mk (below_step hb_ hb); clear HO168; clear HO171; clear HO178; clear HO182; clear BK163; clear BK179; clear HB; have HO168 := n0_; have HO171 := n1_; have HO178 := n2_; have HO182 := n3_; have BK163 := n4_; have BK179 := n5_; have HB := n6_; clear n0_ n1_ n2_ n3_ n4_ n5_ n6_; (try clear hb); (try clear hb2); (try clear hk); (try clear hi)))
    (try simp only [Act.put, List.setIfInBounds_toArray, List.set_cons_zero, List.set_cons_succ])
    go_cut [54] (fun v54 wc => ∃ (kq : Nat) (x54_15 : Bool), v54 = .bool x54_15 ∧ Aside0 (laws_FnExactWayCost.j0 kq l1 t180 x54_15 a0_0 l0_1 t175 t176 = some r) ∧ Aside0 (kq ≤ k) ∧ Aside0 (Kd.R (Kd.int .i64) 3 wc w.heap.size (fun k_ => some k_ ≠ ((.slice Ao31 t176.length co31) : Value).ownBlock) (.slice Ao34 t180.length co34) t180) ∧ Aside0 (Kd.R (Kd.int .i64) 3 wc w.heap.size (fun k_ => some k_ ≠ ((.slice Ao34 t180.length co34) : Value).ownBlock) (.slice Ao31 t176.length co31) t176) ∧ Aside0 (wc.heap[gb163]? = some (.cells #[.int .i64 a0_0, (.slice A0_1 l0_1.length c0_1)] 24 (0, 0))) ∧ Aside0 (wc.heap[gb179]? = some (.cells #[.int .i64 t175, (.slice Ao31 t176.length co31)] 27 (0, 0))) ∧ Aside0 (Below w.heap.size w wc))
    case first =>
     have H := HC16.out
     clear HC16
     by_cases c36 : t183 = t172
     ·rw [if_pos c36] at H
      have c36b0 : (t183 == t172) = true := beq_iff_eq.mpr c36
      have c36b1 : (t183 != t172) = false := bne_eq_false_iff_eq.mpr c36
      clear c36
      (first | rw [c36b0] | (simp only [i64_w, i32_w]; rw [c36b0]) | skip)
      by_cases c37 : t184 = t173
      ·rw [if_pos c37] at H
       have c37b0 : (t184 == t173) = true := beq_iff_eq.mpr c37
       have c37b1 : (t184 != t173) = false := bne_eq_false_iff_eq.mpr c37
       clear c37
       have H' := Aside0.mk H
       clear H
       go_wp2
       go_meet
       case rel => exact ⟨_, ((t185 != t174)), es_, H', ⟨by first | omega | exact Nat.le_refl _⟩, ⟨by (with_reducible repeat (first | apply Kd.R_alloc | apply Kd.R_drewN | apply Kd.R_drew)); exact Kd.R_mono HO182.out (fun _ hk => hk.2)⟩, ⟨by (with_reducible repeat (first | apply Kd.R_alloc | apply Kd.R_drewN | apply Kd.R_drew)); exact Kd.R_mono HO178.out (fun _ hk => hk.2)⟩, ⟨bk_ BK163.out⟩, ⟨bk_ BK179.out⟩, ⟨hb_⟩⟩
      ·rw [if_neg c37] at H
       have c37b0 : (t184 == t173) = false := beq_eq_false_iff_ne.mpr c37
       have c37b1 : (t184 != t173) = true := bne_iff_ne.mpr c37
       have H' := Aside0.mk H
       clear H
       go_wp2
       go_meet
       case rel => exact ⟨_, (true), es_, H', ⟨by first | omega | exact Nat.le_refl _⟩, ⟨by (with_reducible repeat (first | apply Kd.R_alloc | apply Kd.R_drewN | apply Kd.R_drew)); exact Kd.R_mono HO182.out (fun _ hk => hk.2)⟩, ⟨by (with_reducible repeat (first | apply Kd.R_alloc | apply Kd.R_drewN | apply Kd.R_drew)); exact Kd.R_mono HO178.out (fun _ hk => hk.2)⟩, ⟨bk_ BK163.out⟩, ⟨bk_ BK179.out⟩, ⟨hb_⟩⟩
     ·rw [if_neg c36] at H
      have c36b0 : (t183 == t172) = false := beq_eq_false_iff_ne.mpr c36
      have c36b1 : (t183 != t172) = true := bne_iff_ne.mpr c36
      (first | rw [c36b0] | (simp only [i64_w, i32_w]; rw [c36b0]) | skip)
      have H' := Aside0.mk H
      clear H
      go_wp2
      go_meet
      case rel => exact ⟨_, (true), es_, H', ⟨by first | omega | exact Nat.le_refl _⟩, ⟨by (with_reducible repeat (first | apply Kd.R_alloc | apply Kd.R_drewN | apply Kd.R_drew)); exact Kd.R_mono HO182.out (fun _ hk => hk.2)⟩, ⟨by (with_reducible repeat (first | apply Kd.R_alloc | apply Kd.R_drewN | apply Kd.R_drew)); exact Kd.R_mono HO178.out (fun _ hk => hk.2)⟩, ⟨bk_ BK163.out⟩, ⟨bk_ BK179.out⟩, ⟨hb_⟩⟩
    case rest =>
     clear HC16
     try clear c1
     try clear c2
     try clear p2
     try clear c3
     try clear c3b0
     try clear c3b1
     try clear c4
     try clear c6
     try clear c6b0
     try clear c10
     try clear c12
     try clear c15
     try clear c16
     try clear c17
     try clear c29
     try clear c36
     try clear c36b0
     try clear c36b1
     try clear c37
     try clear c37b0
     try clear c37b1
     try clear hcz18_0
     try clear hcz18_1
     try clear hcz20_0
     try clear hcz20_1
     try clear hcz26_0
     try clear hcz26_1
     try clear hcz30_0
     try clear hcz30_1
     try clear hcz33_0
     try clear hcz33_1
     try clear hcz8_0
     try clear hcz8_1
     try clear hfz18_0
     try clear hfz18_1
     try clear hfz20_0
     try clear hfz20_1
     try clear hfz26_0
     try clear hfz26_1
     try clear hfz30_0
     try clear hfz30_1
     try clear hfz33_0
     try clear hfz33_1
     try clear hfz8_0
     try clear hfz8_1
     obtain ⟨kq, x54_15, rfl, HA, HJ15, HO_10, HO_180001, BK163, BK179, HB⟩ := hcut
     cases kq with
     | zero => exact absurd HA.out (by simp [laws_FnExactWayCost.j0])
     | succ kj15 =>
      have H := HA.out
      clear HA
      simp only [laws_FnExactWayCost.j0] at H
      by_cases c38 : x54_15 = true
      ·subst c38
       rw [if_pos rfl] at H
       obtain rfl := Option.some.inj H
       go_wp2
       go_ret
       exact ⟨er_, hb_⟩
      ·replace c38 := Bool.eq_false_iff.mpr c38
       subst c38
       rw [if_neg (show ¬ (false = true) by decide)] at H
       replace H := Option.bind_eq_some_iff.mp H
       obtain ⟨⟨t186, t187⟩, A390, H⟩ := H
       replace H : ((laws_eqCells.f kj15 t175 t176 t186 t187).bind fun t190 => (if t190 = true then ((laws_toIntS.f kj15 l1).bind fun t191 => ((laws_eqIntS.f kj15 t180 t191).bind fun t194 => (if t194 = true then (some true) else (some false)))) else (some false))) = some r := H
       have A39 := Aside0.mk A390
       clear A390
       replace H := Option.bind_eq_some_iff.mp H
       obtain ⟨t190, A400, H⟩ := H
       replace H : (if t190 = true then ((laws_toIntS.f kj15 l1).bind fun t191 => ((laws_eqIntS.f kj15 t180 t191).bind fun t194 => (if t194 = true then (some true) else (some false)))) else (some false)) = some r := H
       have A40 := Aside0.mk A400
       clear A400
       by_cases c41 : t190 = true
       ·subst c41
        rw [if_pos rfl] at H
        replace H := Option.bind_eq_some_iff.mp H
        obtain ⟨t191, A420, H⟩ := H
        replace H : ((laws_eqIntS.f kj15 t180 t191).bind fun t194 => (if t194 = true then (some true) else (some false))) = some r := H
        have A42 := Aside0.mk A420
        clear A420
        replace H := Option.bind_eq_some_iff.mp H
        obtain ⟨t194, A430, H⟩ := H
        replace H : (if t194 = true then (some true) else (some false)) = some r := H
        have A43 := Aside0.mk A430
        clear A430
        by_cases c44 : t194 = true
        ·subst c44
         rw [if_pos rfl] at H
         obtain rfl := Option.some.inj H
         try go_wp2
         have n0_ := Aside0.mk (Kd.R_drew HO_10.out)
         have n1_ := Aside0.mk (Kd.R_drew HO_180001.out)
         have n2_ := Aside0.mk (blk_drew BK163.out)
         have n3_ := Aside0.mk (blk_drew BK179.out)
         have n4_ := Aside0.mk (below_drew1 HB.out)
         clear HO_10
         clear HO_180001
         clear BK163
         clear BK179
         clear HB
         have HO_10 := n0_
         have HO_180001 := n1_
         have BK163 := n2_
         have BK179 := n3_
         have HB := n4_
         clear n0_ n1_ n2_ n3_ n4_
         refine start_ (n := 5) (S := fun w' => w'.cell? ⟨gb179, 0, none⟩ = some (.int .i64 t175) ∧ w'.cell? ⟨gb179, 1, none⟩ = some (.slice Ao31 t176.length co31) ∧ w'.cell? ⟨gb163, 0, none⟩ = some (.int .i64 a0_0) ∧ w'.cell? ⟨gb163, 1, none⟩ = some (.slice A0_1 l0_1.length c0_1)) (ds := []) #[false, false, false, false, false] (by kernel_rfl) rfl rfl ⟨(blk_cell BK179.out 0).trans rfl, (blk_cell BK179.out 1).trans rfl, (blk_cell BK163.out 0).trans rfl, (blk_cell BK163.out 1).trans rfl⟩ (fun hHeld => ?_)
         generalize wc.drew = w45 at HO_10 HO_180001 BK163 BK179 HB hHeld ⊢
         refine take_ (i := 0) (N := some 55) (v := ?_) (a' := ?_) #[true, false, false, false, false] rfl rfl (by kernel_rfl) (fun _ _ _ h => h) (Or.inl ⟨by rfl, ?_⟩) hHeld ?_ ?_
         rotate_left
         ·rintro w' ⟨s0, s1, s2, s3⟩
          go_simp
          with_reducible rfl
         rotate_left
         ·simp only [Act.put, List.setIfInBounds_toArray, List.set_cons_zero, List.set_cons_succ, i64_w, i32_w]
          rfl
         refine take_ (i := 1) (N := some 56) (v := ?_) (a' := ?_) #[true, true, false, false, false] rfl rfl (by kernel_rfl) (fun _ _ _ h => h) (Or.inl ⟨by rfl, ?_⟩) hHeld ?_ ?_
         rotate_left
         ·rintro w' ⟨s0, s1, s2, s3⟩
          go_simp
          with_reducible rfl
         rotate_left
         ·simp only [Act.put, List.setIfInBounds_toArray, List.set_cons_zero, List.set_cons_succ, i64_w, i32_w]
          rfl
         refine one_ (i := 2) (N := some 57) #[true, true, true, false, false] rfl rfl (by kernel_rfl) (by decide) (fun K hK => ?_)
         refine goes_ Try.func12 (by kernel_rfl) rfl #[.agg #[.int .i64 a0_0, .slice A0_1 l0_1.length c0_1]] (by rfl) rfl rfl ls_ ?_
         with_reducible refine (laws_toCells.calls kj15 a0_0 _ _ l0_1 t186 t187 _ ?side1 ?side2 A39.out).mono ?_
         (case side1 => exact cb_ HR0_1.out)
         (case side2 => exact HC0_1.out)
         rintro e w46 ⟨v188, rfl, ho0, hb⟩
         refine ⟨_, rfl, ?_⟩
         have n0_ := Aside0.mk (Kd.R_elder' (ra_ HO_10.out) (Kd.R_base ho0) hb)
         have n1_ := Aside0.mk (Kd.R_elder' (ra_ HO_180001.out) (Kd.R_base ho0) hb)
         have n2_ := Aside0.mk (Kd.R_lower (Kd.R_new' (Kd.R_new' ho0 (Kd.R_lt (ra_ HO_10.out))) (Kd.R_lt (ra_ HO_180001.out))) (below_size hb_))
         have n3_ := bb_ BK163 hb
         have n4_ := bb_ BK179 hb
         have n5_ := Aside0.mk (below_step hb_ hb)
         clear HO_10
         clear HO_180001
         clear BK163
         clear BK179
         clear HB
         have HO_10 := n0_
         have HO_180001 := n1_
         have HO189 := n2_
         have BK163 := n3_
         have BK179 := n4_
         have HB := n5_
         clear n0_ n1_ n2_ n3_ n4_ n5_
         (try clear hb)
         (try clear hb2)
         (try clear hk)
         (try clear hi)
         (try clear ho0)
         obtain ⟨Ao47, co47, eo47⟩ := Kd.R_slice HO189.out
         (first | subst eo47 | (injection eo47 with f1_ f2_ f3_; have f4_ := f1_.symm; have f5_ := f3_.symm; clear f1_ f2_ f3_; subst f4_; subst f5_))
         refine hK.out _ _ ⟨(blk_cell BK179.out 0).trans rfl, (blk_cell BK179.out 1).trans rfl, (blk_cell BK163.out 0).trans rfl, (blk_cell BK163.out 1).trans rfl⟩ (fun hHeld => ?_)
         clear hK K
         refine norm_ (a' := ?_) ?_ ?_
         rotate_left
         ·show Act.put _ (some 57) _ = _
          simp only [Act.put, List.setIfInBounds_toArray, List.set_cons_zero, List.set_cons_succ, i64_w, i32_w]
          rfl
         refine one_ (i := 3) (N := some 58) #[true, true, true, true, false] rfl rfl (by kernel_rfl) (by decide) (fun K hK => ?_)
         refine goes_ Try.func14 (by kernel_rfl) rfl #[.agg #[.int .i64 t175, .slice Ao31 t176.length co31], .agg #[.int .i64 t186, .slice Ao47 t187.length co47]] (by rfl) rfl rfl ls_ ?_
         with_reducible refine (laws_eqCells.calls kj15 t175 _ _ t176 t186 _ _ t187 true _ ?side1 ?side2 ?side3 ?side4 A40.out).mono ?_
         (case side1 => exact ca_ (Kd.R_reads' HO_180001.out).2.2)
         (case side2 => exact (Kd.R_reads' HO_180001.out).2.1)
         (case side3 => exact ca_ (Kd.R_reads' HO189.out).2.2)
         (case side4 => exact (Kd.R_reads' HO189.out).2.1)
         rintro e w48 ⟨rfl, hb⟩
         refine ⟨_, rfl, ?_⟩
         have n0_ := Aside0.mk (Kd.R_below (ra_ HO_10.out) hb)
         have n1_ := Aside0.mk (Kd.R_below (ra_ HO_180001.out) hb)
         have n2_ := Aside0.mk (Kd.R_below (ra_ HO189.out) hb)
         have n3_ := bb_ BK163 hb
         have n4_ := bb_ BK179 hb
         have n5_ := Aside0.mk (below_step hb_ hb)
         clear HO_10
         clear HO_180001
         clear HO189
         clear BK163
         clear BK179
         clear HB
         have HO_10 := n0_
         have HO_180001 := n1_
         have HO189 := n2_
         have BK163 := n3_
         have BK179 := n4_
         have HB := n5_
         clear n0_ n1_ n2_ n3_ n4_ n5_
         (try clear hb)
         (try clear hb2)
         (try clear hk)
         (try clear hi)
         refine hK.out _ _ ⟨(blk_cell BK179.out 0).trans rfl, (blk_cell BK179.out 1).trans rfl, (blk_cell BK163.out 0).trans rfl, (blk_cell BK163.out 1).trans rfl⟩ (fun hHeld => ?_)
         clear hK K
         refine norm_ (a' := ?_) ?_ ?_
         rotate_left
         ·show Act.put _ (some 58) _ = _
          simp only [Act.put, List.setIfInBounds_toArray, List.set_cons_zero, List.set_cons_succ, i64_w, i32_w]
          rfl
         refine pure_ (i := 4) (N := some 59) (v := ?_) (a' := ?_) #[true, true, true, true, true] rfl rfl (by kernel_rfl) (fun _ _ _ h => h) (Or.inl ⟨by rfl, ?_⟩) ?_ ?_
         rotate_left
         ·intro w'
          go_simp
          with_reducible rfl
         rotate_left
         ·simp only [Act.put, List.setIfInBounds_toArray, List.set_cons_zero, List.set_cons_succ, i64_w, i32_w]
          rfl
         refine done_ (by kernel_rfl) ?_
         try go_wp2_with (first | ((with_reducible refine gate_callee (f := 16) rfl ?_); refine goesL_ (some 62) rfl rfl Try.func16 (by kernel_rfl) rfl #[.slice A1 l1.length c1] rfl ls_ ?_; (with_reducible refine (laws_toIntS.calls kj15 _ _ l1 t191 _ ?side1 ?side2 A42.out).mono ?_); (case side1 => exact cb_ HR1.out); (case side2 => exact HC1.out); rintro e w49 ⟨v192, rfl, ho0, hb⟩; refine ⟨_, rfl, ?_⟩; have n0_ := Aside0.mk (Kd.R_elder' (ra_ HO_10.out) (Kd.R_base ho0) hb); have n1_ := Aside0.mk (Kd.R_elder' (ra_ HO_180001.out) (Kd.R_base ho0) hb); have n2_ := Aside0.mk (Kd.R_elder' (ra_ HO189.out) (Kd.R_base ho0) hb); have n3_ := Aside0.mk (Kd.R_lower (Kd.R_new' (Kd.R_new' (Kd.R_new' ho0 (Kd.R_lt (ra_ HO_10.out))) (Kd.R_lt (ra_ HO_180001.out))) (Kd.R_lt (ra_ HO189.out))) (below_size hb_)); have n4_ := bb_ BK163 hb; have n5_ := bb_ BK179 hb; have n6_ := Aside0.mk (below_step hb_ hb); clear HO_10; clear HO_180001; clear HO189; clear BK163; clear BK179; clear HB; have HO_10 := n0_; have HO_180001 := n1_; have HO189 := n2_; have HO193 := n3_; have BK163 := n4_; have BK179 := n5_; have HB := n6_; clear n0_ n1_ n2_ n3_ n4_ n5_ n6_; (try clear hb); (try clear hb2); (try clear hk); (try clear hi); (try clear ho0); obtain ⟨Ao50, co50, eo50⟩ := Kd.R_slice HO193.out; subst eo50) | ((with_reducible refine gate_callee (f := 18) rfl ?_); refine goesL_ (some 63) rfl rfl Try.func18 (by kernel_rfl) rfl #[.slice Ao34 t180.length co34, .slice Ao50 t191.length co50] rfl ls_ ?_; (with_reducible refine (laws_eqIntS.calls kj15 _ _ t180 _ _ t191 true _ ?side1 ?side2 ?side3 ?side4 A43.out).mono ?_); (case side1 => exact ca_ (Kd.R_reads' HO_10.out).2.2); (case side2 => exact (Kd.R_reads' HO_10.out).2.1); (case side3 => exact ca_ (Kd.R_reads' HO193.out).2.2); (case side4 => exact (Kd.R_reads' HO193.out).2.1); rintro e w' ⟨rfl, ⟨nd, rfl⟩⟩; refine ⟨_, rfl, ?_⟩))
         go_ret
         exact ⟨er_, hb_⟩
        ·replace c44 := Bool.eq_false_iff.mpr c44
         subst c44
         rw [if_neg (show ¬ (false = true) by decide)] at H
         obtain rfl := Option.some.inj H
         try go_wp2
         have n0_ := Aside0.mk (Kd.R_drew HO_10.out)
         have n1_ := Aside0.mk (Kd.R_drew HO_180001.out)
         have n2_ := Aside0.mk (blk_drew BK163.out)
         have n3_ := Aside0.mk (blk_drew BK179.out)
         have n4_ := Aside0.mk (below_drew1 HB.out)
         clear HO_10
         clear HO_180001
         clear BK163
         clear BK179
         clear HB
         have HO_10 := n0_
         have HO_180001 := n1_
         have BK163 := n2_
         have BK179 := n3_
         have HB := n4_
         clear n0_ n1_ n2_ n3_ n4_
         refine start_ (n := 5) (S := fun w' => w'.cell? ⟨gb179, 0, none⟩ = some (.int .i64 t175) ∧ w'.cell? ⟨gb179, 1, none⟩ = some (.slice Ao31 t176.length co31) ∧ w'.cell? ⟨gb163, 0, none⟩ = some (.int .i64 a0_0) ∧ w'.cell? ⟨gb163, 1, none⟩ = some (.slice A0_1 l0_1.length c0_1)) (ds := []) #[false, false, false, false, false] (by kernel_rfl) rfl rfl ⟨(blk_cell BK179.out 0).trans rfl, (blk_cell BK179.out 1).trans rfl, (blk_cell BK163.out 0).trans rfl, (blk_cell BK163.out 1).trans rfl⟩ (fun hHeld => ?_)
         generalize wc.drew = w51 at HO_10 HO_180001 BK163 BK179 HB hHeld ⊢
         refine take_ (i := 0) (N := some 55) (v := ?_) (a' := ?_) #[true, false, false, false, false] rfl rfl (by kernel_rfl) (fun _ _ _ h => h) (Or.inl ⟨by rfl, ?_⟩) hHeld ?_ ?_
         rotate_left
         ·rintro w' ⟨s0, s1, s2, s3⟩
          go_simp
          with_reducible rfl
         rotate_left
         ·simp only [Act.put, List.setIfInBounds_toArray, List.set_cons_zero, List.set_cons_succ, i64_w, i32_w]
          rfl
         refine take_ (i := 1) (N := some 56) (v := ?_) (a' := ?_) #[true, true, false, false, false] rfl rfl (by kernel_rfl) (fun _ _ _ h => h) (Or.inl ⟨by rfl, ?_⟩) hHeld ?_ ?_
         rotate_left
         ·rintro w' ⟨s0, s1, s2, s3⟩
          go_simp
          with_reducible rfl
         rotate_left
         ·simp only [Act.put, List.setIfInBounds_toArray, List.set_cons_zero, List.set_cons_succ, i64_w, i32_w]
          rfl
         refine one_ (i := 2) (N := some 57) #[true, true, true, false, false] rfl rfl (by kernel_rfl) (by decide) (fun K hK => ?_)
         refine goes_ Try.func12 (by kernel_rfl) rfl #[.agg #[.int .i64 a0_0, .slice A0_1 l0_1.length c0_1]] (by rfl) rfl rfl ls_ ?_
         with_reducible refine (laws_toCells.calls kj15 a0_0 _ _ l0_1 t186 t187 _ ?side1 ?side2 A39.out).mono ?_
         (case side1 => exact cb_ HR0_1.out)
         (case side2 => exact HC0_1.out)
         rintro e w52 ⟨v188, rfl, ho0, hb⟩
         refine ⟨_, rfl, ?_⟩
         have n0_ := Aside0.mk (Kd.R_elder' (ra_ HO_10.out) (Kd.R_base ho0) hb)
         have n1_ := Aside0.mk (Kd.R_elder' (ra_ HO_180001.out) (Kd.R_base ho0) hb)
         have n2_ := Aside0.mk (Kd.R_lower (Kd.R_new' (Kd.R_new' ho0 (Kd.R_lt (ra_ HO_10.out))) (Kd.R_lt (ra_ HO_180001.out))) (below_size hb_))
         have n3_ := bb_ BK163 hb
         have n4_ := bb_ BK179 hb
         have n5_ := Aside0.mk (below_step hb_ hb)
         clear HO_10
         clear HO_180001
         clear BK163
         clear BK179
         clear HB
         have HO_10 := n0_
         have HO_180001 := n1_
         have HO189 := n2_
         have BK163 := n3_
         have BK179 := n4_
         have HB := n5_
         clear n0_ n1_ n2_ n3_ n4_ n5_
         (try clear hb)
         (try clear hb2)
         (try clear hk)
         (try clear hi)
         (try clear ho0)
         obtain ⟨Ao53, co53, eo53⟩ := Kd.R_slice HO189.out
         (first | subst eo53 | (injection eo53 with f1_ f2_ f3_; have f4_ := f1_.symm; have f5_ := f3_.symm; clear f1_ f2_ f3_; subst f4_; subst f5_))
         refine hK.out _ _ ⟨(blk_cell BK179.out 0).trans rfl, (blk_cell BK179.out 1).trans rfl, (blk_cell BK163.out 0).trans rfl, (blk_cell BK163.out 1).trans rfl⟩ (fun hHeld => ?_)
         clear hK K
         refine norm_ (a' := ?_) ?_ ?_
         rotate_left
         ·show Act.put _ (some 57) _ = _
          simp only [Act.put, List.setIfInBounds_toArray, List.set_cons_zero, List.set_cons_succ, i64_w, i32_w]
          rfl
         refine one_ (i := 3) (N := some 58) #[true, true, true, true, false] rfl rfl (by kernel_rfl) (by decide) (fun K hK => ?_)
         refine goes_ Try.func14 (by kernel_rfl) rfl #[.agg #[.int .i64 t175, .slice Ao31 t176.length co31], .agg #[.int .i64 t186, .slice Ao53 t187.length co53]] (by rfl) rfl rfl ls_ ?_
         with_reducible refine (laws_eqCells.calls kj15 t175 _ _ t176 t186 _ _ t187 true _ ?side1 ?side2 ?side3 ?side4 A40.out).mono ?_
         (case side1 => exact ca_ (Kd.R_reads' HO_180001.out).2.2)
         (case side2 => exact (Kd.R_reads' HO_180001.out).2.1)
         (case side3 => exact ca_ (Kd.R_reads' HO189.out).2.2)
         (case side4 => exact (Kd.R_reads' HO189.out).2.1)
         rintro e w54 ⟨rfl, hb⟩
         refine ⟨_, rfl, ?_⟩
         have n0_ := Aside0.mk (Kd.R_below (ra_ HO_10.out) hb)
         have n1_ := Aside0.mk (Kd.R_below (ra_ HO_180001.out) hb)
         have n2_ := Aside0.mk (Kd.R_below (ra_ HO189.out) hb)
         have n3_ := bb_ BK163 hb
         have n4_ := bb_ BK179 hb
         have n5_ := Aside0.mk (below_step hb_ hb)
         clear HO_10
         clear HO_180001
         clear HO189
         clear BK163
         clear BK179
         clear HB
         have HO_10 := n0_
         have HO_180001 := n1_
         have HO189 := n2_
         have BK163 := n3_
         have BK179 := n4_
         have HB := n5_
         clear n0_ n1_ n2_ n3_ n4_ n5_
         (try clear hb)
         (try clear hb2)
         (try clear hk)
         (try clear hi)
         refine hK.out _ _ ⟨(blk_cell BK179.out 0).trans rfl, (blk_cell BK179.out 1).trans rfl, (blk_cell BK163.out 0).trans rfl, (blk_cell BK163.out 1).trans rfl⟩ (fun hHeld => ?_)
         clear hK K
         refine norm_ (a' := ?_) ?_ ?_
         rotate_left
         ·show Act.put _ (some 58) _ = _
          simp only [Act.put, List.setIfInBounds_toArray, List.set_cons_zero, List.set_cons_succ, i64_w, i32_w]
          rfl
         refine pure_ (i := 4) (N := some 59) (v := ?_) (a' := ?_) #[true, true, true, true, true] rfl rfl (by kernel_rfl) (fun _ _ _ h => h) (Or.inl ⟨by rfl, ?_⟩) ?_ ?_
         rotate_left
         ·intro w'
          go_simp
          with_reducible rfl
         rotate_left
         ·simp only [Act.put, List.setIfInBounds_toArray, List.set_cons_zero, List.set_cons_succ, i64_w, i32_w]
          rfl
         refine done_ (by kernel_rfl) ?_
         try go_wp2_with (first | ((with_reducible refine gate_callee (f := 16) rfl ?_); refine goesL_ (some 62) rfl rfl Try.func16 (by kernel_rfl) rfl #[.slice A1 l1.length c1] rfl ls_ ?_; (with_reducible refine (laws_toIntS.calls kj15 _ _ l1 t191 _ ?side1 ?side2 A42.out).mono ?_); (case side1 => exact cb_ HR1.out); (case side2 => exact HC1.out); rintro e w55 ⟨v192, rfl, ho0, hb⟩; refine ⟨_, rfl, ?_⟩; have n0_ := Aside0.mk (Kd.R_elder' (ra_ HO_10.out) (Kd.R_base ho0) hb); have n1_ := Aside0.mk (Kd.R_elder' (ra_ HO_180001.out) (Kd.R_base ho0) hb); have n2_ := Aside0.mk (Kd.R_elder' (ra_ HO189.out) (Kd.R_base ho0) hb); have n3_ := Aside0.mk (Kd.R_lower (Kd.R_new' (Kd.R_new' (Kd.R_new' ho0 (Kd.R_lt (ra_ HO_10.out))) (Kd.R_lt (ra_ HO_180001.out))) (Kd.R_lt (ra_ HO189.out))) (below_size hb_)); have n4_ := bb_ BK163 hb; have n5_ := bb_ BK179 hb; have n6_ := Aside0.mk (below_step hb_ hb); clear HO_10; clear HO_180001; clear HO189; clear BK163; clear BK179; clear HB; have HO_10 := n0_; have HO_180001 := n1_; have HO189 := n2_; have HO193 := n3_; have BK163 := n4_; have BK179 := n5_; have HB := n6_; clear n0_ n1_ n2_ n3_ n4_ n5_ n6_; (try clear hb); (try clear hb2); (try clear hk); (try clear hi); (try clear ho0); obtain ⟨Ao56, co56, eo56⟩ := Kd.R_slice HO193.out; subst eo56) | ((with_reducible refine gate_callee (f := 18) rfl ?_); refine goesL_ (some 63) rfl rfl Try.func18 (by kernel_rfl) rfl #[.slice Ao34 t180.length co34, .slice Ao56 t191.length co56] rfl ls_ ?_; (with_reducible refine (laws_eqIntS.calls kj15 _ _ t180 _ _ t191 false _ ?side1 ?side2 ?side3 ?side4 A43.out).mono ?_); (case side1 => exact ca_ (Kd.R_reads' HO_10.out).2.2); (case side2 => exact (Kd.R_reads' HO_10.out).2.1); (case side3 => exact ca_ (Kd.R_reads' HO193.out).2.2); (case side4 => exact (Kd.R_reads' HO193.out).2.1); rintro e w' ⟨rfl, ⟨nd, rfl⟩⟩; refine ⟨_, rfl, ?_⟩))
         go_ret
         exact ⟨er_, hb_⟩
       ·replace c41 := Bool.eq_false_iff.mpr c41
        subst c41
        rw [if_neg (show ¬ (false = true) by decide)] at H
        obtain rfl := Option.some.inj H
        try go_wp2
        have n0_ := Aside0.mk (Kd.R_drew HO_10.out)
        have n1_ := Aside0.mk (Kd.R_drew HO_180001.out)
        have n2_ := Aside0.mk (blk_drew BK163.out)
        have n3_ := Aside0.mk (blk_drew BK179.out)
        have n4_ := Aside0.mk (below_drew1 HB.out)
        clear HO_10
        clear HO_180001
        clear BK163
        clear BK179
        clear HB
        have HO_10 := n0_
        have HO_180001 := n1_
        have BK163 := n2_
        have BK179 := n3_
        have HB := n4_
        clear n0_ n1_ n2_ n3_ n4_
        refine start_ (n := 5) (S := fun w' => w'.cell? ⟨gb179, 0, none⟩ = some (.int .i64 t175) ∧ w'.cell? ⟨gb179, 1, none⟩ = some (.slice Ao31 t176.length co31) ∧ w'.cell? ⟨gb163, 0, none⟩ = some (.int .i64 a0_0) ∧ w'.cell? ⟨gb163, 1, none⟩ = some (.slice A0_1 l0_1.length c0_1)) (ds := []) #[false, false, false, false, false] (by kernel_rfl) rfl rfl ⟨(blk_cell BK179.out 0).trans rfl, (blk_cell BK179.out 1).trans rfl, (blk_cell BK163.out 0).trans rfl, (blk_cell BK163.out 1).trans rfl⟩ (fun hHeld => ?_)
        generalize wc.drew = w57 at HO_10 HO_180001 BK163 BK179 HB hHeld ⊢
        refine take_ (i := 0) (N := some 55) (v := ?_) (a' := ?_) #[true, false, false, false, false] rfl rfl (by kernel_rfl) (fun _ _ _ h => h) (Or.inl ⟨by rfl, ?_⟩) hHeld ?_ ?_
        rotate_left
        ·rintro w' ⟨s0, s1, s2, s3⟩
         go_simp
         with_reducible rfl
        rotate_left
        ·simp only [Act.put, List.setIfInBounds_toArray, List.set_cons_zero, List.set_cons_succ, i64_w, i32_w]
         rfl
        refine take_ (i := 1) (N := some 56) (v := ?_) (a' := ?_) #[true, true, false, false, false] rfl rfl (by kernel_rfl) (fun _ _ _ h => h) (Or.inl ⟨by rfl, ?_⟩) hHeld ?_ ?_
        rotate_left
        ·rintro w' ⟨s0, s1, s2, s3⟩
         go_simp
         with_reducible rfl
        rotate_left
        ·simp only [Act.put, List.setIfInBounds_toArray, List.set_cons_zero, List.set_cons_succ, i64_w, i32_w]
         rfl
        refine one_ (i := 2) (N := some 57) #[true, true, true, false, false] rfl rfl (by kernel_rfl) (by decide) (fun K hK => ?_)
        refine goes_ Try.func12 (by kernel_rfl) rfl #[.agg #[.int .i64 a0_0, .slice A0_1 l0_1.length c0_1]] (by rfl) rfl rfl ls_ ?_
        with_reducible refine (laws_toCells.calls kj15 a0_0 _ _ l0_1 t186 t187 _ ?side1 ?side2 A39.out).mono ?_
        (case side1 => exact cb_ HR0_1.out)
        (case side2 => exact HC0_1.out)
        rintro e w58 ⟨v188, rfl, ho0, hb⟩
        refine ⟨_, rfl, ?_⟩
        have n0_ := Aside0.mk (Kd.R_elder' (ra_ HO_10.out) (Kd.R_base ho0) hb)
        have n1_ := Aside0.mk (Kd.R_elder' (ra_ HO_180001.out) (Kd.R_base ho0) hb)
        have n2_ := Aside0.mk (Kd.R_lower (Kd.R_new' (Kd.R_new' ho0 (Kd.R_lt (ra_ HO_10.out))) (Kd.R_lt (ra_ HO_180001.out))) (below_size hb_))
        have n3_ := bb_ BK163 hb
        have n4_ := bb_ BK179 hb
        have n5_ := Aside0.mk (below_step hb_ hb)
        clear HO_10
        clear HO_180001
        clear BK163
        clear BK179
        clear HB
        have HO_10 := n0_
        have HO_180001 := n1_
        have HO189 := n2_
        have BK163 := n3_
        have BK179 := n4_
        have HB := n5_
        clear n0_ n1_ n2_ n3_ n4_ n5_
        (try clear hb)
        (try clear hb2)
        (try clear hk)
        (try clear hi)
        (try clear ho0)
        obtain ⟨Ao59, co59, eo59⟩ := Kd.R_slice HO189.out
        (first | subst eo59 | (injection eo59 with f1_ f2_ f3_; have f4_ := f1_.symm; have f5_ := f3_.symm; clear f1_ f2_ f3_; subst f4_; subst f5_))
        refine hK.out _ _ ⟨(blk_cell BK179.out 0).trans rfl, (blk_cell BK179.out 1).trans rfl, (blk_cell BK163.out 0).trans rfl, (blk_cell BK163.out 1).trans rfl⟩ (fun hHeld => ?_)
        clear hK K
        refine norm_ (a' := ?_) ?_ ?_
        rotate_left
        ·show Act.put _ (some 57) _ = _
         simp only [Act.put, List.setIfInBounds_toArray, List.set_cons_zero, List.set_cons_succ, i64_w, i32_w]
         rfl
        refine one_ (i := 3) (N := some 58) #[true, true, true, true, false] rfl rfl (by kernel_rfl) (by decide) (fun K hK => ?_)
        refine goes_ Try.func14 (by kernel_rfl) rfl #[.agg #[.int .i64 t175, .slice Ao31 t176.length co31], .agg #[.int .i64 t186, .slice Ao59 t187.length co59]] (by rfl) rfl rfl ls_ ?_
        with_reducible refine (laws_eqCells.calls kj15 t175 _ _ t176 t186 _ _ t187 false _ ?side1 ?side2 ?side3 ?side4 A40.out).mono ?_
        (case side1 => exact ca_ (Kd.R_reads' HO_180001.out).2.2)
        (case side2 => exact (Kd.R_reads' HO_180001.out).2.1)
        (case side3 => exact ca_ (Kd.R_reads' HO189.out).2.2)
        (case side4 => exact (Kd.R_reads' HO189.out).2.1)
        rintro e w60 ⟨rfl, hb⟩
        refine ⟨_, rfl, ?_⟩
        have n0_ := Aside0.mk (Kd.R_below (ra_ HO_10.out) hb)
        have n1_ := Aside0.mk (Kd.R_below (ra_ HO_180001.out) hb)
        have n2_ := Aside0.mk (Kd.R_below (ra_ HO189.out) hb)
        have n3_ := bb_ BK163 hb
        have n4_ := bb_ BK179 hb
        have n5_ := Aside0.mk (below_step hb_ hb)
        clear HO_10
        clear HO_180001
        clear HO189
        clear BK163
        clear BK179
        clear HB
        have HO_10 := n0_
        have HO_180001 := n1_
        have HO189 := n2_
        have BK163 := n3_
        have BK179 := n4_
        have HB := n5_
        clear n0_ n1_ n2_ n3_ n4_ n5_
        (try clear hb)
        (try clear hb2)
        (try clear hk)
        (try clear hi)
        refine hK.out _ _ ⟨(blk_cell BK179.out 0).trans rfl, (blk_cell BK179.out 1).trans rfl, (blk_cell BK163.out 0).trans rfl, (blk_cell BK163.out 1).trans rfl⟩ (fun hHeld => ?_)
        clear hK K
        refine norm_ (a' := ?_) ?_ ?_
        rotate_left
        ·show Act.put _ (some 58) _ = _
         simp only [Act.put, List.setIfInBounds_toArray, List.set_cons_zero, List.set_cons_succ, i64_w, i32_w]
         rfl
        refine pure_ (i := 4) (N := some 59) (v := ?_) (a' := ?_) #[true, true, true, true, true] rfl rfl (by kernel_rfl) (fun _ _ _ h => h) (Or.inl ⟨by rfl, ?_⟩) ?_ ?_
        rotate_left
        ·intro w'
         go_simp
         with_reducible rfl
        rotate_left
        ·simp only [Act.put, List.setIfInBounds_toArray, List.set_cons_zero, List.set_cons_succ, i64_w, i32_w]
         rfl
        refine done_ (by kernel_rfl) ?_
        try go_wp2
        go_ret
        exact ⟨er_, hb_⟩

end Go.Proofs.Ytjcmlggdaajicaa.Pr
