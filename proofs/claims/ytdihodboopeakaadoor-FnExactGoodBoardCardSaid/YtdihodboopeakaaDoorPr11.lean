-- Written by this session's own print (wip/tools/mkmp.py) out of the translation. Lean checks it.
import Derived.Test.YtdihodboopeakaaDoorPr0
import Derived.Test.YtdihodboopeakaaDoorPr1
import Derived.Test.YtdihodboopeakaaDoorPr3
import Derived.Test.YtdihodboopeakaaDoorPr5
import Derived.Test.YtdihodboopeakaaDoorPr8
import Derived.Test.YtdihodboopeakaaDoorPr10
import Derived.Test.YtdihodboopeakaaDoorPrd1
import Derived.Test.YtdihodboopeakaaDoorPrd2
namespace Go.Proofs.YtdihodboopeakaaDoor.Pr
open Go.RowKit Go.Proofs.YtdihodboopeakaaDoorW.PrintWords Go.Proofs.YtdihodboopeakaaDoorW.PrintLast Go.Proofs.YtdihodboopeakaaDoorW.PrintMore
attribute [local go_sem] max2_int min2_int max_two min_two max_three min_three max_four min_four   -- for this text's walks alone
set_option linter.unusedVariables false
set_option linter.unusedSimpArgs false

set_option maxHeartbeats 8000000 in
set_option maxRecDepth 100000 in
theorem laws_FnExactGoodBoard.calls (k : Nat) (A0_0 : Option Addr) (c0_0 : Nat) (l0_0 : List ByteArray) (A0_1 : Option Addr) (c0_1 : Nat) (l0_1 : List Bool) (A0_2 : Option Addr) (c0_2 : Nat) (l0_2 : List (List Int)) (r : Bool) (w : World) (hr0_0 : Kd.C Kd.string w A0_0 l0_0.length l0_0) (hc0_0 : l0_0.length ≤ c0_0) (hr0_1 : Kd.C Kd.bool w A0_1 l0_1.length l0_1) (hc0_1 : l0_1.length ≤ c0_1) (hr0_2 : Kd.C (Kd.slice 3 (Kd.int .i64)) w A0_2 l0_2.length l0_2) (hc0_2 : l0_2.length ≤ c0_2) (h : laws_FnExactGoodBoard.f k l0_0 l0_1 l0_2 = some r) (ht_ : Tabs w := by exact tb_ HT_) :
   Calls Tryd.prog 5 #[.agg #[.slice A0_0 l0_0.length c0_0, .slice A0_1 l0_1.length c0_1, .slice A0_2 l0_2.length c0_2]] w fun e w' => e = .returned (.bool r) ∧ Below w.heap.size w w' := by
  have HT_ := Aside0.mk ht_
  clear ht_
  have hu26 := Tryd.underlying26
  have hu34 := Tryd.underlying34
  have HR0_0 := Aside0.mk hr0_0
  have HC0_0 := Aside0.mk hc0_0
  clear hr0_0 hc0_0
  have HR0_1 := Aside0.mk hr0_1
  have HC0_1 := Aside0.mk hc0_1
  clear hr0_1 hc0_1
  have HR0_2 := Aside0.mk hr0_2
  have HC0_2 := Aside0.mk hc0_2
  clear hr0_2 hc0_2
  have HB := Aside0.mk (Below.refl w.heap.size w)
  have H : ((laws_szBoard.f k l0_0 l0_1 l0_2 1048576).bind fun t178 => (if t178 < 0 then (some true) else ((laws_toBoard.f k l0_0 l0_1 l0_2).bind fun bt179 => ((spec_GoodBoard.f k bt179.1 bt179.2.1 bt179.2.2).bind fun t188 => ((laws_toBoard.f k l0_0 l0_1 l0_2).bind fun bt189 => ((impl_GoodBoard.f k bt189.1 bt189.2.1 bt189.2.2).bind fun t199 => (if (t199 != t188) = true then (some false) else ((laws_toBoard.f k l0_0 l0_1 l0_2).bind fun bt200 => ((laws_eqBoard.f k bt189.1 bt189.2.1 bt189.2.2 bt200.1 bt200.2.1 bt200.2.2).bind fun t209 => (if t209 = true then (some true) else (some false))))))))))) = some r := h
  clear h
  replace H := Option.bind_eq_some_iff.mp H
  obtain ⟨t178, A20, H⟩ := H
  replace H : (if t178 < 0 then (some true) else ((laws_toBoard.f k l0_0 l0_1 l0_2).bind fun bt179 => ((spec_GoodBoard.f k bt179.1 bt179.2.1 bt179.2.2).bind fun t188 => ((laws_toBoard.f k l0_0 l0_1 l0_2).bind fun bt189 => ((impl_GoodBoard.f k bt189.1 bt189.2.1 bt189.2.2).bind fun t199 => (if (t199 != t188) = true then (some false) else ((laws_toBoard.f k l0_0 l0_1 l0_2).bind fun bt200 => ((laws_eqBoard.f k bt189.1 bt189.2.1 bt189.2.2 bt200.1 bt200.2.1 bt200.2.2).bind fun t209 => (if t209 = true then (some true) else (some false)))))))))) = some r := H
  have A2 := Aside0.mk A20
  clear A20
  by_cases c3 : t178 < 0
  ·rw [if_pos c3] at H
   have c3b0 : decide (t178 < 0) = true := decide_eq_true c3
   clear c3
   obtain rfl := Option.some.inj H
   go_enter Tryd.func5, Tryd.ntmps5
   go_wp2_with (first | ((with_reducible refine gate_dst (N := 1) rfl ?_); refine box_event ?hg (N := 1) ?hd (cs := #[.slice A0_0 l0_0.length c0_0, .slice A0_1 l0_1.length c0_1, .slice A0_2 l0_2.length c0_2]) (t := 26) ?hr ?_; (case hd => rfl); (case hg => rfl); (case hr => first | (go_simp; done) | (go_simp; rfl)); intro gb177 hg w4 hbox hb; have n0_ := Aside0.mk (below_step hb_ hb); have n1_ := Aside0.mk (hbox); have n2_ : Aside0 (w.heap.size ≤ gb177) := gz_; have n3_ : Aside0 (w.heap.size ≤ gb177) := gz_; clear HB; have HB := n0_; have BK177 := n1_; have GW177 := n2_; have GE177 := n3_; clear n0_ n1_ n2_ n3_; clear hb hbox hg; have hcz5_0 : w4.cell? ⟨gb177, 0, none⟩ = some (.slice A0_0 l0_0.length c0_0) := (blk_cell BK177.out 0).trans rfl; have hcz5_1 : w4.cell? ⟨gb177, 1, none⟩ = some (.slice A0_1 l0_1.length c0_1) := (blk_cell BK177.out 1).trans rfl; have hcz5_2 : w4.cell? ⟨gb177, 2, none⟩ = some (.slice A0_2 l0_2.length c0_2) := (blk_cell BK177.out 2).trans rfl; have hfz5_0 := blk_frozen BK177.out 0; have hfz5_1 := blk_frozen BK177.out 1; have hfz5_2 := blk_frozen BK177.out 2) | ((with_reducible refine gate_callee (f := 12) rfl ?_); refine goesL_ (some 9) rfl rfl Tryd.func12 (by kernel_rfl) rfl #[.agg #[.slice A0_0 l0_0.length c0_0, .slice A0_1 l0_1.length c0_1, .slice A0_2 l0_2.length c0_2], .int .i64 1048576] rfl ls_ ?_; (with_reducible refine (laws_szBoard.calls k _ _ l0_0 _ _ l0_1 _ _ l0_2 1048576 t178 _ ?side1 ?side2 ?side3 ?side4 ?side5 ?side6 A2.out).mono ?_); (case side1 => exact cb_ HR0_0.out); (case side2 => exact HC0_0.out); (case side3 => exact cb_ HR0_1.out); (case side4 => exact HC0_1.out); (case side5 => exact cb_ HR0_2.out); (case side6 => exact HC0_2.out); rintro e w6 ⟨rfl, hb⟩; refine ⟨_, rfl, ?_⟩; have n0_ := bb_ BK177 hb; have n1_ := Aside0.mk (below_step hb_ hb); clear BK177; clear HB; have BK177 := n0_; have HB := n1_; clear n0_ n1_; (try clear hb); (try clear hb2); (try clear hk); (try clear hi)))
   go_ret
   exact ⟨er_, hb_⟩
  ·rw [if_neg c3] at H
   have c3b0 : decide (t178 < 0) = false := decide_eq_false c3
   clear c3
   replace H := Option.bind_eq_some_iff.mp H
   obtain ⟨⟨t179, t182, t185⟩, A70, H⟩ := H
   replace H : ((spec_GoodBoard.f k t179 t182 t185).bind fun t188 => ((laws_toBoard.f k l0_0 l0_1 l0_2).bind fun bt189 => ((impl_GoodBoard.f k bt189.1 bt189.2.1 bt189.2.2).bind fun t199 => (if (t199 != t188) = true then (some false) else ((laws_toBoard.f k l0_0 l0_1 l0_2).bind fun bt200 => ((laws_eqBoard.f k bt189.1 bt189.2.1 bt189.2.2 bt200.1 bt200.2.1 bt200.2.2).bind fun t209 => (if t209 = true then (some true) else (some false)))))))) = some r := H
   have A7 := Aside0.mk A70
   clear A70
   replace H := Option.bind_eq_some_iff.mp H
   obtain ⟨t188, A80, H⟩ := H
   replace H : ((laws_toBoard.f k l0_0 l0_1 l0_2).bind fun bt189 => ((impl_GoodBoard.f k bt189.1 bt189.2.1 bt189.2.2).bind fun t199 => (if (t199 != t188) = true then (some false) else ((laws_toBoard.f k l0_0 l0_1 l0_2).bind fun bt200 => ((laws_eqBoard.f k bt189.1 bt189.2.1 bt189.2.2 bt200.1 bt200.2.1 bt200.2.2).bind fun t209 => (if t209 = true then (some true) else (some false))))))) = some r := H
   have A8 := Aside0.mk A80
   clear A80
   replace H := Option.bind_eq_some_iff.mp H
   obtain ⟨⟨t189, t192, t195⟩, A90, H⟩ := H
   replace H : ((impl_GoodBoard.f k t189 t192 t195).bind fun t199 => (if (t199 != t188) = true then (some false) else ((laws_toBoard.f k l0_0 l0_1 l0_2).bind fun bt200 => ((laws_eqBoard.f k t189 t192 t195 bt200.1 bt200.2.1 bt200.2.2).bind fun t209 => (if t209 = true then (some true) else (some false)))))) = some r := H
   have A9 := Aside0.mk A90
   clear A90
   replace H := Option.bind_eq_some_iff.mp H
   obtain ⟨t199, A100, H⟩ := H
   replace H : (if (t199 != t188) = true then (some false) else ((laws_toBoard.f k l0_0 l0_1 l0_2).bind fun bt200 => ((laws_eqBoard.f k t189 t192 t195 bt200.1 bt200.2.1 bt200.2.2).bind fun t209 => (if t209 = true then (some true) else (some false))))) = some r := H
   have A10 := Aside0.mk A100
   clear A100
   by_cases c11 : (t199 != t188) = true
   ·rw [if_pos c11] at H
    have c11b0 : (t199 != t188) = true := c11
    (try (have c11b1 : decide (t199 = t188) = false := by simpa using c11))
    (try (have c11b2 : (t199 == t188) = false := by simpa using c11))
    (try (have c11b3 : ¬ (t199 = t188) := by simpa using c11))
    clear c11
    obtain rfl := Option.some.inj H
    go_enter Tryd.func5, Tryd.ntmps5
    go_wp2_with (first | ((with_reducible refine gate_dst (N := 1) rfl ?_); refine box_event ?hg (N := 1) ?hd (cs := #[.slice A0_0 l0_0.length c0_0, .slice A0_1 l0_1.length c0_1, .slice A0_2 l0_2.length c0_2]) (t := 26) ?hr ?_; (case hd => rfl); (case hg => rfl); (case hr => first | (go_simp; done) | (go_simp; rfl)); intro gb177 hg w12 hbox hb; have n0_ := Aside0.mk (below_step hb_ hb); have n1_ := Aside0.mk (hbox); have n2_ : Aside0 (w.heap.size ≤ gb177) := gz_; have n3_ : Aside0 (w.heap.size ≤ gb177) := gz_; clear HB; have HB := n0_; have BK177 := n1_; have GW177 := n2_; have GE177 := n3_; clear n0_ n1_ n2_ n3_; clear hb hbox hg; have hcz13_0 : w12.cell? ⟨gb177, 0, none⟩ = some (.slice A0_0 l0_0.length c0_0) := (blk_cell BK177.out 0).trans rfl; have hcz13_1 : w12.cell? ⟨gb177, 1, none⟩ = some (.slice A0_1 l0_1.length c0_1) := (blk_cell BK177.out 1).trans rfl; have hcz13_2 : w12.cell? ⟨gb177, 2, none⟩ = some (.slice A0_2 l0_2.length c0_2) := (blk_cell BK177.out 2).trans rfl; have hfz13_0 := blk_frozen BK177.out 0; have hfz13_1 := blk_frozen BK177.out 1; have hfz13_2 := blk_frozen BK177.out 2) | ((with_reducible refine gate_callee (f := 12) rfl ?_); refine goesL_ (some 9) rfl rfl Tryd.func12 (by kernel_rfl) rfl #[.agg #[.slice A0_0 l0_0.length c0_0, .slice A0_1 l0_1.length c0_1, .slice A0_2 l0_2.length c0_2], .int .i64 1048576] rfl ls_ ?_; (with_reducible refine (laws_szBoard.calls k _ _ l0_0 _ _ l0_1 _ _ l0_2 1048576 t178 _ ?side1 ?side2 ?side3 ?side4 ?side5 ?side6 A2.out).mono ?_); (case side1 => exact cb_ HR0_0.out); (case side2 => exact HC0_0.out); (case side3 => exact cb_ HR0_1.out); (case side4 => exact HC0_1.out); (case side5 => exact cb_ HR0_2.out); (case side6 => exact HC0_2.out); rintro e w14 ⟨rfl, hb⟩; refine ⟨_, rfl, ?_⟩; have n0_ := bb_ BK177 hb; have n1_ := Aside0.mk (below_step hb_ hb); clear BK177; clear HB; have BK177 := n0_; have HB := n1_; clear n0_ n1_; (try clear hb); (try clear hb2); (try clear hk); (try clear hi); have hcz15_0 : w14.cell? ⟨gb177, 0, none⟩ = some (.slice A0_0 l0_0.length c0_0) := (blk_cell BK177.out 0).trans rfl; have hcz15_1 : w14.cell? ⟨gb177, 1, none⟩ = some (.slice A0_1 l0_1.length c0_1) := (blk_cell BK177.out 1).trans rfl; have hcz15_2 : w14.cell? ⟨gb177, 2, none⟩ = some (.slice A0_2 l0_2.length c0_2) := (blk_cell BK177.out 2).trans rfl; have hfz15_0 := blk_frozen BK177.out 0; have hfz15_1 := blk_frozen BK177.out 1; have hfz15_2 := blk_frozen BK177.out 2) | ((with_reducible refine gate_callee (f := 15) rfl ?_); refine goesL_ (some 13) rfl rfl Tryd.func15 (by kernel_rfl) rfl #[.agg #[.slice A0_0 l0_0.length c0_0, .slice A0_1 l0_1.length c0_1, .slice A0_2 l0_2.length c0_2]] rfl ls_ ?_; (with_reducible refine (laws_toBoard.calls k _ _ l0_0 _ _ l0_1 _ _ l0_2 t179 t182 t185 _ ?side1 ?side2 ?side3 ?side4 ?side5 ?side6 A7.out).mono ?_); (case side1 => exact cb_ HR0_0.out); (case side2 => exact HC0_0.out); (case side3 => exact cb_ HR0_1.out); (case side4 => exact HC0_1.out); (case side5 => exact cb_ HR0_2.out); (case side6 => exact HC0_2.out); rintro e w16 ⟨v180, v183, v186, rfl, ho0, ho1, ho2, hb⟩; refine ⟨_, rfl, ?_⟩; have n0_ := Aside0.mk (Kd.R_lower ho0 (below_size hb_)); have n1_ := Aside0.mk (Kd.R_lower ho1 (below_size hb_)); have n2_ := Aside0.mk (Kd.S_lower ho2 (below_size hb_)); have n3_ := bb_ BK177 hb; have n4_ := Aside0.mk (below_step hb_ hb); clear BK177; clear HB; have HO181 := n0_; have HO184 := n1_; have HO187 := n2_; have BK177 := n3_; have HB := n4_; clear n0_ n1_ n2_ n3_ n4_; (try clear hb); (try clear hb2); (try clear hk); (try clear hi); (try clear ho0); (try clear ho1); (try clear ho2); obtain ⟨Ao17, co17, eo17⟩ := Kd.R_slice HO181.out; subst eo17; obtain ⟨Ao18, co18, eo18⟩ := Kd.R_slice HO184.out; subst eo18; obtain ⟨Ao19, co19, eo19⟩ := Kd.S_slice HO187.out; subst eo19) | ((with_reducible refine gate_callee (f := 27) rfl ?_); refine goesL_ (some 14) rfl rfl Tryd.func27 (by kernel_rfl) rfl #[.agg #[.slice Ao17 t179.length co17, .slice Ao18 t182.length co18, .slice Ao19 t185.length co19]] rfl ls_ ?_; (with_reducible refine (spec_GoodBoard.calls k _ _ t179 _ _ t182 _ _ t185 t188 _ ?side1 ?side2 ?side3 ?side4 ?side5 ?side6 A8.out).mono ?_); (case side1 => exact ca_ (Kd.R_reads' HO181.out).2.2); (case side2 => exact (Kd.R_reads' HO181.out).2.1); (case side3 => exact ca_ (Kd.R_reads' HO184.out).2.2); (case side4 => exact (Kd.R_reads' HO184.out).2.1); (case side5 => exact ca_ (Kd.S_reads' HO187.out).2.2); (case side6 => exact (Kd.S_reads' HO187.out).2.1); rintro e w20 ⟨rfl, hb⟩; refine ⟨_, rfl, ?_⟩; have n0_ := Aside0.mk (Kd.R_below (ra_ HO181.out) hb); have n1_ := Aside0.mk (Kd.R_below (ra_ HO184.out) hb); have n2_ := Aside0.mk (Kd.S_below (sa_ HO187.out) hb); have n3_ := bb_ BK177 hb; have n4_ := Aside0.mk (below_step hb_ hb); clear HO181; clear HO184; clear HO187; clear BK177; clear HB; have HO181 := n0_; have HO184 := n1_; have HO187 := n2_; have BK177 := n3_; have HB := n4_; clear n0_ n1_ n2_ n3_ n4_; (try clear hb); (try clear hb2); (try clear hk); (try clear hi); have hcz21_0 : w20.cell? ⟨gb177, 0, none⟩ = some (.slice A0_0 l0_0.length c0_0) := (blk_cell BK177.out 0).trans rfl; have hcz21_1 : w20.cell? ⟨gb177, 1, none⟩ = some (.slice A0_1 l0_1.length c0_1) := (blk_cell BK177.out 1).trans rfl; have hcz21_2 : w20.cell? ⟨gb177, 2, none⟩ = some (.slice A0_2 l0_2.length c0_2) := (blk_cell BK177.out 2).trans rfl; have hfz21_0 := blk_frozen BK177.out 0; have hfz21_1 := blk_frozen BK177.out 1; have hfz21_2 := blk_frozen BK177.out 2) | ((with_reducible refine gate_callee (f := 15) rfl ?_); refine goesL_ (some 16) rfl rfl Tryd.func15 (by kernel_rfl) rfl #[.agg #[.slice A0_0 l0_0.length c0_0, .slice A0_1 l0_1.length c0_1, .slice A0_2 l0_2.length c0_2]] rfl ls_ ?_; (with_reducible refine (laws_toBoard.calls k _ _ l0_0 _ _ l0_1 _ _ l0_2 t189 t192 t195 _ ?side1 ?side2 ?side3 ?side4 ?side5 ?side6 A9.out).mono ?_); (case side1 => exact cb_ HR0_0.out); (case side2 => exact HC0_0.out); (case side3 => exact cb_ HR0_1.out); (case side4 => exact HC0_1.out); (case side5 => exact cb_ HR0_2.out); (case side6 => exact HC0_2.out); rintro e w22 ⟨v190, v193, v196, rfl, ho0, ho1, ho2, hb⟩; refine ⟨_, rfl, ?_⟩; have n0_ := Aside0.mk (Kd.R_elder' (ra_ HO181.out) (Kd.R_base ho0) hb); have n1_ := Aside0.mk (Kd.R_elder' (ra_ HO184.out) (Kd.R_base ho1) hb); have n2_ := Aside0.mk (Kd.S_elder' (sa_ HO187.out) (Kd.S_base ho2) hb); have n3_ := Aside0.mk (Kd.R_lower (Kd.R_new' ho0 (Kd.R_lt (ra_ HO181.out))) (below_size hb_)); have n4_ := Aside0.mk (Kd.R_lower (Kd.R_new' ho1 (Kd.R_lt (ra_ HO184.out))) (below_size hb_)); have n5_ := Aside0.mk (Kd.S_lower (Kd.S_new' ho2 (Kd.S_lt (sa_ HO187.out))) (below_size hb_)); have n6_ := bb_ BK177 hb; have n7_ := Aside0.mk (below_step hb_ hb); clear HO181; clear HO184; clear HO187; clear BK177; clear HB; have HO181 := n0_; have HO184 := n1_; have HO187 := n2_; have HO191 := n3_; have HO194 := n4_; have HO197 := n5_; have BK177 := n6_; have HB := n7_; clear n0_ n1_ n2_ n3_ n4_ n5_ n6_ n7_; (try clear hb); (try clear hb2); (try clear hk); (try clear hi); (try clear ho0); (try clear ho1); (try clear ho2)) | ((with_reducible refine gate_dst (N := 5) rfl ?_); refine box_event ?hg (N := 5) ?hd (cs := #[.slice none 0 0, .slice none 0 0, .slice none 0 0]) (t := 34) ?hr ?_; (case hd => rfl); (case hg => rfl); (case hr => first | (go_simp; done) | (go_simp; rfl)); intro gb198 hg w23 hbox hb; have n0_ := Aside0.mk (Kd.R_below (ra_ HO181.out) hb); have n1_ := Aside0.mk (Kd.R_below (ra_ HO184.out) hb); have n2_ := Aside0.mk (Kd.S_below (sa_ HO187.out) hb); have n3_ := Aside0.mk (Kd.R_below (ra_ HO191.out) hb); have n4_ := Aside0.mk (Kd.R_below (ra_ HO194.out) hb); have n5_ := Aside0.mk (Kd.S_below (sa_ HO197.out) hb); have n6_ := bb_ BK177 hb; have n7_ := Aside0.mk (below_step hb_ hb); have n8_ := Aside0.mk (hbox); have n9_ : Aside0 (w.heap.size ≤ gb198) := gz_; have n10_ : Aside0 (w.heap.size ≤ gb198) := gz_; have n11_ := Aside0.mk ((by rw [hg]; exact Nat.ne_of_lt (blk_lt (g := gb177) (o := .cells #[.slice A0_0 l0_0.length c0_0, .slice A0_1 l0_1.length c0_1, .slice A0_2 l0_2.length c0_2] 26 (0, 0)) (bk_ BK177.out)) : gb177 ≠ gb198)); have n12_ := Aside0.mk ((by rw [hg]; exact Nat.ne_of_gt (blk_lt (g := gb177) (o := .cells #[.slice A0_0 l0_0.length c0_0, .slice A0_1 l0_1.length c0_1, .slice A0_2 l0_2.length c0_2] 26 (0, 0)) (bk_ BK177.out)) : gb198 ≠ gb177)); clear HO181; clear HO184; clear HO187; clear HO191; clear HO194; clear HO197; clear BK177; clear HB; have HO181 := n0_; have HO184 := n1_; have HO187 := n2_; have HO191 := n3_; have HO194 := n4_; have HO197 := n5_; have BK177 := n6_; have HB := n7_; have BK198 := n8_; have GW198 := n9_; have GE198 := n10_; have NB177_198 := n11_; have NB198_177 := n12_; clear n0_ n1_ n2_ n3_ n4_ n5_ n6_ n7_ n8_ n9_ n10_ n11_ n12_; clear hb hbox hg; obtain ⟨Ao24, co24, eo24⟩ := Kd.R_slice HO191.out; subst eo24; have hnb25 := NB198_177.out; have hnc25 := NB177_198.out; have hcz26_0 : w23.cell? ⟨gb198, 0, none⟩ = some (.slice none 0 0) := (blk_cell BK198.out 0).trans rfl; have hcz26_1 : w23.cell? ⟨gb198, 1, none⟩ = some (.slice none 0 0) := (blk_cell BK198.out 1).trans rfl; have hcz26_2 : w23.cell? ⟨gb198, 2, none⟩ = some (.slice none 0 0) := (blk_cell BK198.out 2).trans rfl; have hfz26_0 := blk_frozen BK198.out 0; have hfz26_1 := blk_frozen BK198.out 1; have hfz26_2 := blk_frozen BK198.out 2; obtain ⟨Ao27, co27, eo27⟩ := Kd.R_slice HO194.out; subst eo27; obtain ⟨Ao28, co28, eo28⟩ := Kd.S_slice HO197.out; subst eo28) | ((with_reducible refine gate_callee (f := 28) rfl ?_); refine goesL_ (some 18) rfl rfl Tryd.func28 (by kernel_rfl) rfl #[.agg #[.slice Ao24 t189.length co24, .slice Ao27 t192.length co27, .slice Ao28 t195.length co28]] rfl ls_ ?_; (with_reducible refine (impl_GoodBoard.calls k _ _ t189 _ _ t192 _ _ t195 t199 _ ?side1 ?side2 ?side3 ?side4 ?side5 ?side6 A10.out).mono ?_); (case side1 => refine (Kd.R_reads' (e := 9) (base := w.heap.size) (ok := fun k_ => (True ∧ some k_ ≠ (.slice Ao17 t179.length co17 : Value).ownBlock)) (n := t189.length) (c := co24) ?_).2.2; exact (by (with_reducible repeat (first | apply Kd.R_alloc | apply Kd.R_drewN | apply Kd.R_drew)); exact (Kd.R_mono (Kd.R_far (p := ⟨gb198, 2, none⟩) (Kd.R_far (p := ⟨gb198, 1, none⟩) (Kd.R_far (p := ⟨gb198, 0, none⟩) (Kd.R_types HO191.out BK198.out (by decide)) (fun _ hk => hk.2) (.slice Ao24 t189.length co24)) (fun _ hk => hk.2) (.slice Ao27 t192.length co27)) (fun _ hk => hk.2) (.slice Ao28 t195.length co28)) (fun _ h_ => h_.1)))); (case side2 => exact (Kd.R_reads' HO191.out).2.1); (case side3 => refine (Kd.R_reads' (e := 4) (base := w.heap.size) (ok := fun k_ => (True ∧ some k_ ≠ (.slice Ao18 t182.length co18 : Value).ownBlock)) (n := t192.length) (c := co27) ?_).2.2; exact (by (with_reducible repeat (first | apply Kd.R_alloc | apply Kd.R_drewN | apply Kd.R_drew)); exact (Kd.R_mono (Kd.R_far (p := ⟨gb198, 2, none⟩) (Kd.R_far (p := ⟨gb198, 1, none⟩) (Kd.R_far (p := ⟨gb198, 0, none⟩) (Kd.R_types HO194.out BK198.out (by decide)) (fun _ hk => hk.2) (.slice Ao24 t189.length co24)) (fun _ hk => hk.2) (.slice Ao27 t192.length co27)) (fun _ hk => hk.2) (.slice Ao28 t195.length co28)) (fun _ h_ => h_.1)))); (case side4 => exact (Kd.R_reads' HO194.out).2.1); (case side5 => refine (Kd.S_reads' (e := 31) (base := w.heap.size) (ok := fun k_ => (True ∧ some k_ ≠ (.slice Ao19 t185.length co19 : Value).ownBlock)) (n := t195.length) (c := co28) ?_).2.2; exact (by (with_reducible repeat (first | apply Kd.S_alloc | apply Kd.S_drewN | apply Kd.S_drew)); exact (Kd.S_mono (Kd.S_far (p := ⟨gb198, 2, none⟩) (Kd.S_far (p := ⟨gb198, 1, none⟩) (Kd.S_far (p := ⟨gb198, 0, none⟩) (Kd.S_types HO197.out BK198.out (by decide)) (fun _ hk => hk.2) (.slice Ao24 t189.length co24)) (fun _ hk => hk.2) (.slice Ao27 t192.length co27)) (fun _ hk => hk.2) (.slice Ao28 t195.length co28)) (fun _ h_ => h_.1)))); (case side6 => exact (Kd.S_reads' HO197.out).2.1); rintro e w29 ⟨rfl, hb⟩; refine ⟨_, rfl, ?_⟩; have n0_ := Aside0.mk (Kd.R_below (by (with_reducible repeat (first | apply Kd.R_alloc | apply Kd.R_drewN | apply Kd.R_drew)); exact (Kd.R_mono (Kd.R_far (p := ⟨gb198, 2, none⟩) (Kd.R_far (p := ⟨gb198, 1, none⟩) (Kd.R_far (p := ⟨gb198, 0, none⟩) (Kd.R_types HO181.out BK198.out (by decide)) (fun _ hk => hk.2) (.slice Ao24 t189.length co24)) (fun _ hk => hk.2) (.slice Ao27 t192.length co27)) (fun _ hk => hk.2) (.slice Ao28 t195.length co28)) (fun _ h_ => h_.1))) hb); have n1_ := Aside0.mk (Kd.R_below (by (with_reducible repeat (first | apply Kd.R_alloc | apply Kd.R_drewN | apply Kd.R_drew)); exact (Kd.R_mono (Kd.R_far (p := ⟨gb198, 2, none⟩) (Kd.R_far (p := ⟨gb198, 1, none⟩) (Kd.R_far (p := ⟨gb198, 0, none⟩) (Kd.R_types HO184.out BK198.out (by decide)) (fun _ hk => hk.2) (.slice Ao24 t189.length co24)) (fun _ hk => hk.2) (.slice Ao27 t192.length co27)) (fun _ hk => hk.2) (.slice Ao28 t195.length co28)) (fun _ h_ => h_.1))) hb); have n2_ := Aside0.mk (Kd.S_below (by (with_reducible repeat (first | apply Kd.S_alloc | apply Kd.S_drewN | apply Kd.S_drew)); exact (Kd.S_mono (Kd.S_far (p := ⟨gb198, 2, none⟩) (Kd.S_far (p := ⟨gb198, 1, none⟩) (Kd.S_far (p := ⟨gb198, 0, none⟩) (Kd.S_types HO187.out BK198.out (by decide)) (fun _ hk => hk.2) (.slice Ao24 t189.length co24)) (fun _ hk => hk.2) (.slice Ao27 t192.length co27)) (fun _ hk => hk.2) (.slice Ao28 t195.length co28)) (fun _ h_ => h_.1))) hb); have n3_ := Aside0.mk (Kd.R_below (by (with_reducible repeat (first | apply Kd.R_alloc | apply Kd.R_drewN | apply Kd.R_drew)); exact (Kd.R_mono (Kd.R_far (p := ⟨gb198, 2, none⟩) (Kd.R_far (p := ⟨gb198, 1, none⟩) (Kd.R_far (p := ⟨gb198, 0, none⟩) (Kd.R_types HO191.out BK198.out (by decide)) (fun _ hk => hk.2) (.slice Ao24 t189.length co24)) (fun _ hk => hk.2) (.slice Ao27 t192.length co27)) (fun _ hk => hk.2) (.slice Ao28 t195.length co28)) (fun _ h_ => h_.1))) hb); have n4_ := Aside0.mk (Kd.R_below (by (with_reducible repeat (first | apply Kd.R_alloc | apply Kd.R_drewN | apply Kd.R_drew)); exact (Kd.R_mono (Kd.R_far (p := ⟨gb198, 2, none⟩) (Kd.R_far (p := ⟨gb198, 1, none⟩) (Kd.R_far (p := ⟨gb198, 0, none⟩) (Kd.R_types HO194.out BK198.out (by decide)) (fun _ hk => hk.2) (.slice Ao24 t189.length co24)) (fun _ hk => hk.2) (.slice Ao27 t192.length co27)) (fun _ hk => hk.2) (.slice Ao28 t195.length co28)) (fun _ h_ => h_.1))) hb); have n5_ := Aside0.mk (Kd.S_below (by (with_reducible repeat (first | apply Kd.S_alloc | apply Kd.S_drewN | apply Kd.S_drew)); exact (Kd.S_mono (Kd.S_far (p := ⟨gb198, 2, none⟩) (Kd.S_far (p := ⟨gb198, 1, none⟩) (Kd.S_far (p := ⟨gb198, 0, none⟩) (Kd.S_types HO197.out BK198.out (by decide)) (fun _ hk => hk.2) (.slice Ao24 t189.length co24)) (fun _ hk => hk.2) (.slice Ao27 t192.length co27)) (fun _ hk => hk.2) (.slice Ao28 t195.length co28)) (fun _ h_ => h_.1))) hb); have n6_ := Aside0.mk (blk_below (g := gb177) (o := .cells #[.slice A0_0 l0_0.length c0_0, .slice A0_1 l0_1.length c0_1, .slice A0_2 l0_2.length c0_2] 26 (0, 0)) (by (with_reducible repeat (first | refine blk_drewN ?_ _ | refine blk_drew ?_ | refine blk_alloc ?_ _)); refine blk_far ?_ NB177_198.out _; (with_reducible repeat (first | refine blk_drewN ?_ _ | refine blk_drew ?_ | refine blk_alloc ?_ _)); refine blk_far ?_ NB177_198.out _; (with_reducible repeat (first | refine blk_drewN ?_ _ | refine blk_drew ?_ | refine blk_alloc ?_ _)); refine blk_far ?_ NB177_198.out _; (with_reducible repeat (first | refine blk_drewN ?_ _ | refine blk_drew ?_ | refine blk_alloc ?_ _)); exact BK177.out) hb); have n7_ := Aside0.mk (blk_below (g := gb198) (o := .cells #[.slice Ao24 t189.length co24, .slice Ao27 t192.length co27, .slice Ao28 t195.length co28] 34 (0, 0)) (by (with_reducible repeat (first | refine blk_drewN ?_ _ | refine blk_drew ?_ | refine blk_alloc ?_ _)); refine blk_put (cs := #[.slice Ao24 t189.length co24, .slice Ao27 t192.length co27, .slice none 0 0]) ?_ 2 _ rfl; (with_reducible repeat (first | refine blk_drewN ?_ _ | refine blk_drew ?_ | refine blk_alloc ?_ _)); refine blk_put (cs := #[.slice Ao24 t189.length co24, .slice none 0 0, .slice none 0 0]) ?_ 1 _ rfl; (with_reducible repeat (first | refine blk_drewN ?_ _ | refine blk_drew ?_ | refine blk_alloc ?_ _)); refine blk_put (cs := #[.slice none 0 0, .slice none 0 0, .slice none 0 0]) ?_ 0 _ rfl; (with_reducible repeat (first | refine blk_drewN ?_ _ | refine blk_drew ?_ | refine blk_alloc ?_ _)); exact BK198.out) hb); have n8_ := Aside0.mk (below_step hb_ hb); clear HO181; clear HO184; clear HO187; clear HO191; clear HO194; clear HO197; clear BK177; clear BK198; clear HB; have HO181 := n0_; have HO184 := n1_; have HO187 := n2_; have HO191 := n3_; have HO194 := n4_; have HO197 := n5_; have BK177 := n6_; have BK198 := n7_; have HB := n8_; clear n0_ n1_ n2_ n3_ n4_ n5_ n6_ n7_ n8_; (try clear hb); (try clear hb2); (try clear hk); (try clear hi)))
    go_ret
    exact ⟨er_, hb_⟩
   ·rw [if_neg c11] at H
    have c11b0 : (t199 != t188) = false := by simpa using c11
    (try (have c11b1 : decide (t199 = t188) = true := by simpa using c11))
    (try (have c11b2 : (t199 == t188) = true := by simpa using c11))
    clear c11
    replace H := Option.bind_eq_some_iff.mp H
    obtain ⟨⟨t200, t203, t206⟩, A300, H⟩ := H
    replace H : ((laws_eqBoard.f k t189 t192 t195 t200 t203 t206).bind fun t209 => (if t209 = true then (some true) else (some false))) = some r := H
    have A30 := Aside0.mk A300
    clear A300
    replace H := Option.bind_eq_some_iff.mp H
    obtain ⟨t209, A310, H⟩ := H
    replace H : (if t209 = true then (some true) else (some false)) = some r := H
    have A31 := Aside0.mk A310
    clear A310
    by_cases c32 : t209 = true
    ·subst c32
     rw [if_pos rfl] at H
     obtain rfl := Option.some.inj H
     go_enter Tryd.func5, Tryd.ntmps5
     try go_wp2_with (first | ((with_reducible refine gate_dst (N := 1) rfl ?_); refine box_event ?hg (N := 1) ?hd (cs := #[.slice A0_0 l0_0.length c0_0, .slice A0_1 l0_1.length c0_1, .slice A0_2 l0_2.length c0_2]) (t := 26) ?hr ?_; (case hd => rfl); (case hg => rfl); (case hr => first | (go_simp; done) | (go_simp; rfl)); intro gb177 hg w33 hbox hb; have n0_ := Aside0.mk (below_step hb_ hb); have n1_ := Aside0.mk (hbox); have n2_ : Aside0 (w.heap.size ≤ gb177) := gz_; have n3_ : Aside0 (w.heap.size ≤ gb177) := gz_; clear HB; have HB := n0_; have BK177 := n1_; have GW177 := n2_; have GE177 := n3_; clear n0_ n1_ n2_ n3_; clear hb hbox hg; have hcz34_0 : w33.cell? ⟨gb177, 0, none⟩ = some (.slice A0_0 l0_0.length c0_0) := (blk_cell BK177.out 0).trans rfl; have hcz34_1 : w33.cell? ⟨gb177, 1, none⟩ = some (.slice A0_1 l0_1.length c0_1) := (blk_cell BK177.out 1).trans rfl; have hcz34_2 : w33.cell? ⟨gb177, 2, none⟩ = some (.slice A0_2 l0_2.length c0_2) := (blk_cell BK177.out 2).trans rfl; have hfz34_0 := blk_frozen BK177.out 0; have hfz34_1 := blk_frozen BK177.out 1; have hfz34_2 := blk_frozen BK177.out 2) | ((with_reducible refine gate_callee (f := 12) rfl ?_); refine goesL_ (some 9) rfl rfl Tryd.func12 (by kernel_rfl) rfl #[.agg #[.slice A0_0 l0_0.length c0_0, .slice A0_1 l0_1.length c0_1, .slice A0_2 l0_2.length c0_2], .int .i64 1048576] rfl ls_ ?_; (with_reducible refine (laws_szBoard.calls k _ _ l0_0 _ _ l0_1 _ _ l0_2 1048576 t178 _ ?side1 ?side2 ?side3 ?side4 ?side5 ?side6 A2.out).mono ?_); (case side1 => exact cb_ HR0_0.out); (case side2 => exact HC0_0.out); (case side3 => exact cb_ HR0_1.out); (case side4 => exact HC0_1.out); (case side5 => exact cb_ HR0_2.out); (case side6 => exact HC0_2.out); rintro e w35 ⟨rfl, hb⟩; refine ⟨_, rfl, ?_⟩; have n0_ := bb_ BK177 hb; have n1_ := Aside0.mk (below_step hb_ hb); clear BK177; clear HB; have BK177 := n0_; have HB := n1_; clear n0_ n1_; (try clear hb); (try clear hb2); (try clear hk); (try clear hi); have hcz36_0 : w35.cell? ⟨gb177, 0, none⟩ = some (.slice A0_0 l0_0.length c0_0) := (blk_cell BK177.out 0).trans rfl; have hcz36_1 : w35.cell? ⟨gb177, 1, none⟩ = some (.slice A0_1 l0_1.length c0_1) := (blk_cell BK177.out 1).trans rfl; have hcz36_2 : w35.cell? ⟨gb177, 2, none⟩ = some (.slice A0_2 l0_2.length c0_2) := (blk_cell BK177.out 2).trans rfl; have hfz36_0 := blk_frozen BK177.out 0; have hfz36_1 := blk_frozen BK177.out 1; have hfz36_2 := blk_frozen BK177.out 2) | ((with_reducible refine gate_callee (f := 15) rfl ?_); refine goesL_ (some 13) rfl rfl Tryd.func15 (by kernel_rfl) rfl #[.agg #[.slice A0_0 l0_0.length c0_0, .slice A0_1 l0_1.length c0_1, .slice A0_2 l0_2.length c0_2]] rfl ls_ ?_; (with_reducible refine (laws_toBoard.calls k _ _ l0_0 _ _ l0_1 _ _ l0_2 t179 t182 t185 _ ?side1 ?side2 ?side3 ?side4 ?side5 ?side6 A7.out).mono ?_); (case side1 => exact cb_ HR0_0.out); (case side2 => exact HC0_0.out); (case side3 => exact cb_ HR0_1.out); (case side4 => exact HC0_1.out); (case side5 => exact cb_ HR0_2.out); (case side6 => exact HC0_2.out); rintro e w37 ⟨v180, v183, v186, rfl, ho0, ho1, ho2, hb⟩; refine ⟨_, rfl, ?_⟩; have n0_ := Aside0.mk (Kd.R_lower ho0 (below_size hb_)); have n1_ := Aside0.mk (Kd.R_lower ho1 (below_size hb_)); have n2_ := Aside0.mk (Kd.S_lower ho2 (below_size hb_)); have n3_ := bb_ BK177 hb; have n4_ := Aside0.mk (below_step hb_ hb); clear BK177; clear HB; have HO181 := n0_; have HO184 := n1_; have HO187 := n2_; have BK177 := n3_; have HB := n4_; clear n0_ n1_ n2_ n3_ n4_; (try clear hb); (try clear hb2); (try clear hk); (try clear hi); (try clear ho0); (try clear ho1); (try clear ho2); obtain ⟨Ao38, co38, eo38⟩ := Kd.R_slice HO181.out; subst eo38; obtain ⟨Ao39, co39, eo39⟩ := Kd.R_slice HO184.out; subst eo39; obtain ⟨Ao40, co40, eo40⟩ := Kd.S_slice HO187.out; subst eo40) | ((with_reducible refine gate_callee (f := 27) rfl ?_); refine goesL_ (some 14) rfl rfl Tryd.func27 (by kernel_rfl) rfl #[.agg #[.slice Ao38 t179.length co38, .slice Ao39 t182.length co39, .slice Ao40 t185.length co40]] rfl ls_ ?_; (with_reducible refine (spec_GoodBoard.calls k _ _ t179 _ _ t182 _ _ t185 t188 _ ?side1 ?side2 ?side3 ?side4 ?side5 ?side6 A8.out).mono ?_); (case side1 => exact ca_ (Kd.R_reads' HO181.out).2.2); (case side2 => exact (Kd.R_reads' HO181.out).2.1); (case side3 => exact ca_ (Kd.R_reads' HO184.out).2.2); (case side4 => exact (Kd.R_reads' HO184.out).2.1); (case side5 => exact ca_ (Kd.S_reads' HO187.out).2.2); (case side6 => exact (Kd.S_reads' HO187.out).2.1); rintro e w41 ⟨rfl, hb⟩; refine ⟨_, rfl, ?_⟩; have n0_ := Aside0.mk (Kd.R_below (ra_ HO181.out) hb); have n1_ := Aside0.mk (Kd.R_below (ra_ HO184.out) hb); have n2_ := Aside0.mk (Kd.S_below (sa_ HO187.out) hb); have n3_ := bb_ BK177 hb; have n4_ := Aside0.mk (below_step hb_ hb); clear HO181; clear HO184; clear HO187; clear BK177; clear HB; have HO181 := n0_; have HO184 := n1_; have HO187 := n2_; have BK177 := n3_; have HB := n4_; clear n0_ n1_ n2_ n3_ n4_; (try clear hb); (try clear hb2); (try clear hk); (try clear hi); have hcz42_0 : w41.cell? ⟨gb177, 0, none⟩ = some (.slice A0_0 l0_0.length c0_0) := (blk_cell BK177.out 0).trans rfl; have hcz42_1 : w41.cell? ⟨gb177, 1, none⟩ = some (.slice A0_1 l0_1.length c0_1) := (blk_cell BK177.out 1).trans rfl; have hcz42_2 : w41.cell? ⟨gb177, 2, none⟩ = some (.slice A0_2 l0_2.length c0_2) := (blk_cell BK177.out 2).trans rfl; have hfz42_0 := blk_frozen BK177.out 0; have hfz42_1 := blk_frozen BK177.out 1; have hfz42_2 := blk_frozen BK177.out 2) | ((with_reducible refine gate_callee (f := 15) rfl ?_); refine goesL_ (some 16) rfl rfl Tryd.func15 (by kernel_rfl) rfl #[.agg #[.slice A0_0 l0_0.length c0_0, .slice A0_1 l0_1.length c0_1, .slice A0_2 l0_2.length c0_2]] rfl ls_ ?_; (with_reducible refine (laws_toBoard.calls k _ _ l0_0 _ _ l0_1 _ _ l0_2 t189 t192 t195 _ ?side1 ?side2 ?side3 ?side4 ?side5 ?side6 A9.out).mono ?_); (case side1 => exact cb_ HR0_0.out); (case side2 => exact HC0_0.out); (case side3 => exact cb_ HR0_1.out); (case side4 => exact HC0_1.out); (case side5 => exact cb_ HR0_2.out); (case side6 => exact HC0_2.out); rintro e w43 ⟨v190, v193, v196, rfl, ho0, ho1, ho2, hb⟩; refine ⟨_, rfl, ?_⟩; have n0_ := Aside0.mk (Kd.R_elder' (ra_ HO181.out) (Kd.R_base ho0) hb); have n1_ := Aside0.mk (Kd.R_elder' (ra_ HO184.out) (Kd.R_base ho1) hb); have n2_ := Aside0.mk (Kd.S_elder' (sa_ HO187.out) (Kd.S_base ho2) hb); have n3_ := Aside0.mk (Kd.R_lower (Kd.R_new' ho0 (Kd.R_lt (ra_ HO181.out))) (below_size hb_)); have n4_ := Aside0.mk (Kd.R_lower (Kd.R_new' ho1 (Kd.R_lt (ra_ HO184.out))) (below_size hb_)); have n5_ := Aside0.mk (Kd.S_lower (Kd.S_new' ho2 (Kd.S_lt (sa_ HO187.out))) (below_size hb_)); have n6_ := bb_ BK177 hb; have n7_ := Aside0.mk (below_step hb_ hb); clear HO181; clear HO184; clear HO187; clear BK177; clear HB; have HO181 := n0_; have HO184 := n1_; have HO187 := n2_; have HO191 := n3_; have HO194 := n4_; have HO197 := n5_; have BK177 := n6_; have HB := n7_; clear n0_ n1_ n2_ n3_ n4_ n5_ n6_ n7_; (try clear hb); (try clear hb2); (try clear hk); (try clear hi); (try clear ho0); (try clear ho1); (try clear ho2)) | ((with_reducible refine gate_dst (N := 5) rfl ?_); refine box_event ?hg (N := 5) ?hd (cs := #[.slice none 0 0, .slice none 0 0, .slice none 0 0]) (t := 34) ?hr ?_; (case hd => rfl); (case hg => rfl); (case hr => first | (go_simp; done) | (go_simp; rfl)); intro gb198 hg w44 hbox hb; have n0_ := Aside0.mk (Kd.R_below (ra_ HO181.out) hb); have n1_ := Aside0.mk (Kd.R_below (ra_ HO184.out) hb); have n2_ := Aside0.mk (Kd.S_below (sa_ HO187.out) hb); have n3_ := Aside0.mk (Kd.R_below (ra_ HO191.out) hb); have n4_ := Aside0.mk (Kd.R_below (ra_ HO194.out) hb); have n5_ := Aside0.mk (Kd.S_below (sa_ HO197.out) hb); have n6_ := bb_ BK177 hb; have n7_ := Aside0.mk (below_step hb_ hb); have n8_ := Aside0.mk (hbox); have n9_ : Aside0 (w.heap.size ≤ gb198) := gz_; have n10_ : Aside0 (w.heap.size ≤ gb198) := gz_; have n11_ := Aside0.mk ((by rw [hg]; exact Nat.ne_of_lt (blk_lt (g := gb177) (o := .cells #[.slice A0_0 l0_0.length c0_0, .slice A0_1 l0_1.length c0_1, .slice A0_2 l0_2.length c0_2] 26 (0, 0)) (bk_ BK177.out)) : gb177 ≠ gb198)); have n12_ := Aside0.mk ((by rw [hg]; exact Nat.ne_of_gt (blk_lt (g := gb177) (o := .cells #[.slice A0_0 l0_0.length c0_0, .slice A0_1 l0_1.length c0_1, .slice A0_2 l0_2.length c0_2] 26 (0, 0)) (bk_ BK177.out)) : gb198 ≠ gb177)); clear HO181; clear HO184; clear HO187; clear HO191; clear HO194; clear HO197; clear BK177; clear HB; have HO181 := n0_; have HO184 := n1_; have HO187 := n2_; have HO191 := n3_; have HO194 := n4_; have HO197 := n5_; have BK177 := n6_; have HB := n7_; have BK198 := n8_; have GW198 := n9_; have GE198 := n10_; have NB177_198 := n11_; have NB198_177 := n12_; clear n0_ n1_ n2_ n3_ n4_ n5_ n6_ n7_ n8_ n9_ n10_ n11_ n12_; clear hb hbox hg; obtain ⟨Ao45, co45, eo45⟩ := Kd.R_slice HO191.out; subst eo45; have hnb46 := NB198_177.out; have hnc46 := NB177_198.out; have hcz47_0 : w44.cell? ⟨gb198, 0, none⟩ = some (.slice none 0 0) := (blk_cell BK198.out 0).trans rfl; have hcz47_1 : w44.cell? ⟨gb198, 1, none⟩ = some (.slice none 0 0) := (blk_cell BK198.out 1).trans rfl; have hcz47_2 : w44.cell? ⟨gb198, 2, none⟩ = some (.slice none 0 0) := (blk_cell BK198.out 2).trans rfl; have hfz47_0 := blk_frozen BK198.out 0; have hfz47_1 := blk_frozen BK198.out 1; have hfz47_2 := blk_frozen BK198.out 2; obtain ⟨Ao48, co48, eo48⟩ := Kd.R_slice HO194.out; subst eo48; obtain ⟨Ao49, co49, eo49⟩ := Kd.S_slice HO197.out; subst eo49) | ((with_reducible refine gate_callee (f := 28) rfl ?_); refine goesL_ (some 18) rfl rfl Tryd.func28 (by kernel_rfl) rfl #[.agg #[.slice Ao45 t189.length co45, .slice Ao48 t192.length co48, .slice Ao49 t195.length co49]] rfl ls_ ?_; (with_reducible refine (impl_GoodBoard.calls k _ _ t189 _ _ t192 _ _ t195 t199 _ ?side1 ?side2 ?side3 ?side4 ?side5 ?side6 A10.out).mono ?_); (case side1 => refine (Kd.R_reads' (e := 9) (base := w.heap.size) (ok := fun k_ => (True ∧ some k_ ≠ (.slice Ao38 t179.length co38 : Value).ownBlock)) (n := t189.length) (c := co45) ?_).2.2; exact (by (with_reducible repeat (first | apply Kd.R_alloc | apply Kd.R_drewN | apply Kd.R_drew)); exact (Kd.R_mono (Kd.R_far (p := ⟨gb198, 2, none⟩) (Kd.R_far (p := ⟨gb198, 1, none⟩) (Kd.R_far (p := ⟨gb198, 0, none⟩) (Kd.R_types HO191.out BK198.out (by decide)) (fun _ hk => hk.2) (.slice Ao45 t189.length co45)) (fun _ hk => hk.2) (.slice Ao48 t192.length co48)) (fun _ hk => hk.2) (.slice Ao49 t195.length co49)) (fun _ h_ => h_.1)))); (case side2 => exact (Kd.R_reads' HO191.out).2.1); (case side3 => refine (Kd.R_reads' (e := 4) (base := w.heap.size) (ok := fun k_ => (True ∧ some k_ ≠ (.slice Ao39 t182.length co39 : Value).ownBlock)) (n := t192.length) (c := co48) ?_).2.2; exact (by (with_reducible repeat (first | apply Kd.R_alloc | apply Kd.R_drewN | apply Kd.R_drew)); exact (Kd.R_mono (Kd.R_far (p := ⟨gb198, 2, none⟩) (Kd.R_far (p := ⟨gb198, 1, none⟩) (Kd.R_far (p := ⟨gb198, 0, none⟩) (Kd.R_types HO194.out BK198.out (by decide)) (fun _ hk => hk.2) (.slice Ao45 t189.length co45)) (fun _ hk => hk.2) (.slice Ao48 t192.length co48)) (fun _ hk => hk.2) (.slice Ao49 t195.length co49)) (fun _ h_ => h_.1)))); (case side4 => exact (Kd.R_reads' HO194.out).2.1); (case side5 => refine (Kd.S_reads' (e := 31) (base := w.heap.size) (ok := fun k_ => (True ∧ some k_ ≠ (.slice Ao40 t185.length co40 : Value).ownBlock)) (n := t195.length) (c := co49) ?_).2.2; exact (by (with_reducible repeat (first | apply Kd.S_alloc | apply Kd.S_drewN | apply Kd.S_drew)); exact (Kd.S_mono (Kd.S_far (p := ⟨gb198, 2, none⟩) (Kd.S_far (p := ⟨gb198, 1, none⟩) (Kd.S_far (p := ⟨gb198, 0, none⟩) (Kd.S_types HO197.out BK198.out (by decide)) (fun _ hk => hk.2) (.slice Ao45 t189.length co45)) (fun _ hk => hk.2) (.slice Ao48 t192.length co48)) (fun _ hk => hk.2) (.slice Ao49 t195.length co49)) (fun _ h_ => h_.1)))); (case side6 => exact (Kd.S_reads' HO197.out).2.1); rintro e w50 ⟨rfl, hb⟩; refine ⟨_, rfl, ?_⟩; have n0_ := Aside0.mk (Kd.R_below (by (with_reducible repeat (first | apply Kd.R_alloc | apply Kd.R_drewN | apply Kd.R_drew)); exact (Kd.R_mono (Kd.R_far (p := ⟨gb198, 2, none⟩) (Kd.R_far (p := ⟨gb198, 1, none⟩) (Kd.R_far (p := ⟨gb198, 0, none⟩) (Kd.R_types HO181.out BK198.out (by decide)) (fun _ hk => hk.2) (.slice Ao45 t189.length co45)) (fun _ hk => hk.2) (.slice Ao48 t192.length co48)) (fun _ hk => hk.2) (.slice Ao49 t195.length co49)) (fun _ h_ => h_.1))) hb); have n1_ := Aside0.mk (Kd.R_below (by (with_reducible repeat (first | apply Kd.R_alloc | apply Kd.R_drewN | apply Kd.R_drew)); exact (Kd.R_mono (Kd.R_far (p := ⟨gb198, 2, none⟩) (Kd.R_far (p := ⟨gb198, 1, none⟩) (Kd.R_far (p := ⟨gb198, 0, none⟩) (Kd.R_types HO184.out BK198.out (by decide)) (fun _ hk => hk.2) (.slice Ao45 t189.length co45)) (fun _ hk => hk.2) (.slice Ao48 t192.length co48)) (fun _ hk => hk.2) (.slice Ao49 t195.length co49)) (fun _ h_ => h_.1))) hb); have n2_ := Aside0.mk (Kd.S_below (by (with_reducible repeat (first | apply Kd.S_alloc | apply Kd.S_drewN | apply Kd.S_drew)); exact (Kd.S_mono (Kd.S_far (p := ⟨gb198, 2, none⟩) (Kd.S_far (p := ⟨gb198, 1, none⟩) (Kd.S_far (p := ⟨gb198, 0, none⟩) (Kd.S_types HO187.out BK198.out (by decide)) (fun _ hk => hk.2) (.slice Ao45 t189.length co45)) (fun _ hk => hk.2) (.slice Ao48 t192.length co48)) (fun _ hk => hk.2) (.slice Ao49 t195.length co49)) (fun _ h_ => h_.1))) hb); have n3_ := Aside0.mk (Kd.R_below (by (with_reducible repeat (first | apply Kd.R_alloc | apply Kd.R_drewN | apply Kd.R_drew)); exact (Kd.R_mono (Kd.R_far (p := ⟨gb198, 2, none⟩) (Kd.R_far (p := ⟨gb198, 1, none⟩) (Kd.R_far (p := ⟨gb198, 0, none⟩) (Kd.R_types HO191.out BK198.out (by decide)) (fun _ hk => hk.2) (.slice Ao45 t189.length co45)) (fun _ hk => hk.2) (.slice Ao48 t192.length co48)) (fun _ hk => hk.2) (.slice Ao49 t195.length co49)) (fun _ h_ => h_.1))) hb); have n4_ := Aside0.mk (Kd.R_below (by (with_reducible repeat (first | apply Kd.R_alloc | apply Kd.R_drewN | apply Kd.R_drew)); exact (Kd.R_mono (Kd.R_far (p := ⟨gb198, 2, none⟩) (Kd.R_far (p := ⟨gb198, 1, none⟩) (Kd.R_far (p := ⟨gb198, 0, none⟩) (Kd.R_types HO194.out BK198.out (by decide)) (fun _ hk => hk.2) (.slice Ao45 t189.length co45)) (fun _ hk => hk.2) (.slice Ao48 t192.length co48)) (fun _ hk => hk.2) (.slice Ao49 t195.length co49)) (fun _ h_ => h_.1))) hb); have n5_ := Aside0.mk (Kd.S_below (by (with_reducible repeat (first | apply Kd.S_alloc | apply Kd.S_drewN | apply Kd.S_drew)); exact (Kd.S_mono (Kd.S_far (p := ⟨gb198, 2, none⟩) (Kd.S_far (p := ⟨gb198, 1, none⟩) (Kd.S_far (p := ⟨gb198, 0, none⟩) (Kd.S_types HO197.out BK198.out (by decide)) (fun _ hk => hk.2) (.slice Ao45 t189.length co45)) (fun _ hk => hk.2) (.slice Ao48 t192.length co48)) (fun _ hk => hk.2) (.slice Ao49 t195.length co49)) (fun _ h_ => h_.1))) hb); have n6_ := Aside0.mk (blk_below (g := gb177) (o := .cells #[.slice A0_0 l0_0.length c0_0, .slice A0_1 l0_1.length c0_1, .slice A0_2 l0_2.length c0_2] 26 (0, 0)) (by (with_reducible repeat (first | refine blk_drewN ?_ _ | refine blk_drew ?_ | refine blk_alloc ?_ _)); refine blk_far ?_ NB177_198.out _; (with_reducible repeat (first | refine blk_drewN ?_ _ | refine blk_drew ?_ | refine blk_alloc ?_ _)); refine blk_far ?_ NB177_198.out _; (with_reducible repeat (first | refine blk_drewN ?_ _ | refine blk_drew ?_ | refine blk_alloc ?_ _)); refine blk_far ?_ NB177_198.out _; (with_reducible repeat (first | refine blk_drewN ?_ _ | refine blk_drew ?_ | refine blk_alloc ?_ _)); exact BK177.out) hb); have n7_ := Aside0.mk (blk_below (g := gb198) (o := .cells #[.slice Ao45 t189.length co45, .slice Ao48 t192.length co48, .slice Ao49 t195.length co49] 34 (0, 0)) (by (with_reducible repeat (first | refine blk_drewN ?_ _ | refine blk_drew ?_ | refine blk_alloc ?_ _)); refine blk_put (cs := #[.slice Ao45 t189.length co45, .slice Ao48 t192.length co48, .slice none 0 0]) ?_ 2 _ rfl; (with_reducible repeat (first | refine blk_drewN ?_ _ | refine blk_drew ?_ | refine blk_alloc ?_ _)); refine blk_put (cs := #[.slice Ao45 t189.length co45, .slice none 0 0, .slice none 0 0]) ?_ 1 _ rfl; (with_reducible repeat (first | refine blk_drewN ?_ _ | refine blk_drew ?_ | refine blk_alloc ?_ _)); refine blk_put (cs := #[.slice none 0 0, .slice none 0 0, .slice none 0 0]) ?_ 0 _ rfl; (with_reducible repeat (first | refine blk_drewN ?_ _ | refine blk_drew ?_ | refine blk_alloc ?_ _)); exact BK198.out) hb); have n8_ := Aside0.mk (below_step hb_ hb); clear HO181; clear HO184; clear HO187; clear HO191; clear HO194; clear HO197; clear BK177; clear BK198; clear HB; have HO181 := n0_; have HO184 := n1_; have HO187 := n2_; have HO191 := n3_; have HO194 := n4_; have HO197 := n5_; have BK177 := n6_; have BK198 := n7_; have HB := n8_; clear n0_ n1_ n2_ n3_ n4_ n5_ n6_ n7_ n8_; (try clear hb); (try clear hb2); (try clear hk); (try clear hi)))
     have n0_ := Aside0.mk (Kd.R_drew HO181.out)
     have n1_ := Aside0.mk (Kd.R_drew HO184.out)
     have n2_ := Aside0.mk (Kd.S_drew HO187.out)
     have n3_ := Aside0.mk (Kd.R_drew HO191.out)
     have n4_ := Aside0.mk (Kd.R_drew HO194.out)
     have n5_ := Aside0.mk (Kd.S_drew HO197.out)
     have n6_ := Aside0.mk (blk_drew BK177.out)
     have n7_ := Aside0.mk (blk_drew BK198.out)
     have n8_ := Aside0.mk (below_drew1 HB.out)
     clear HO181
     clear HO184
     clear HO187
     clear HO191
     clear HO194
     clear HO197
     clear BK177
     clear BK198
     clear HB
     have HO181 := n0_
     have HO184 := n1_
     have HO187 := n2_
     have HO191 := n3_
     have HO194 := n4_
     have HO197 := n5_
     have BK177 := n6_
     have BK198 := n7_
     have HB := n8_
     clear n0_ n1_ n2_ n3_ n4_ n5_ n6_ n7_ n8_
     refine start_ (n := 5) (S := fun w' => w'.cell? ⟨gb198, 0, none⟩ = some (.slice Ao45 t189.length co45) ∧ w'.cell? ⟨gb198, 1, none⟩ = some (.slice Ao48 t192.length co48) ∧ w'.cell? ⟨gb198, 2, none⟩ = some (.slice Ao49 t195.length co49) ∧ w'.cell? ⟨gb177, 0, none⟩ = some (.slice A0_0 l0_0.length c0_0) ∧ w'.cell? ⟨gb177, 1, none⟩ = some (.slice A0_1 l0_1.length c0_1) ∧ w'.cell? ⟨gb177, 2, none⟩ = some (.slice A0_2 l0_2.length c0_2)) (ds := []) #[false, false, false, false, false] (by kernel_rfl) rfl rfl ⟨(blk_cell BK198.out 0).trans rfl, (blk_cell BK198.out 1).trans rfl, (blk_cell BK198.out 2).trans rfl, (blk_cell BK177.out 0).trans rfl, (blk_cell BK177.out 1).trans rfl, (blk_cell BK177.out 2).trans rfl⟩ (fun hHeld => ?_)
     generalize w50.drew = w51 at HO181 HO184 HO187 HO191 HO194 HO197 BK177 BK198 HB hHeld ⊢
     refine take_ (i := 0) (N := some 22) (v := ?_) (a' := ?_) #[true, false, false, false, false] rfl rfl (by kernel_rfl) (fun _ _ _ h => h) (Or.inl ⟨by rfl, ?_⟩) hHeld ?_ ?_
     rotate_left
     ·rintro w' ⟨s0, s1, s2, s3, s4, s5⟩
      go_simp
      with_reducible rfl
     rotate_left
     ·simp only [Act.put, List.setIfInBounds_toArray, List.set_cons_zero, List.set_cons_succ, i64_w, i32_w]
      rfl
     refine take_ (i := 1) (N := some 23) (v := ?_) (a' := ?_) #[true, true, false, false, false] rfl rfl (by kernel_rfl) (fun _ _ _ h => h) (Or.inl ⟨by rfl, ?_⟩) hHeld ?_ ?_
     rotate_left
     ·rintro w' ⟨s0, s1, s2, s3, s4, s5⟩
      go_simp
      with_reducible rfl
     rotate_left
     ·simp only [Act.put, List.setIfInBounds_toArray, List.set_cons_zero, List.set_cons_succ, i64_w, i32_w]
      rfl
     refine one_ (i := 2) (N := some 24) #[true, true, true, false, false] rfl rfl (by kernel_rfl) (by decide) (fun K hK => ?_)
     refine goes_ Tryd.func15 (by kernel_rfl) rfl #[.agg #[.slice A0_0 l0_0.length c0_0, .slice A0_1 l0_1.length c0_1, .slice A0_2 l0_2.length c0_2]] (by rfl) rfl rfl ls_ ?_
     with_reducible refine (laws_toBoard.calls k _ _ l0_0 _ _ l0_1 _ _ l0_2 t200 t203 t206 _ ?side1 ?side2 ?side3 ?side4 ?side5 ?side6 A30.out).mono ?_
     (case side1 => exact cb_ HR0_0.out)
     (case side2 => exact HC0_0.out)
     (case side3 => exact cb_ HR0_1.out)
     (case side4 => exact HC0_1.out)
     (case side5 => exact cb_ HR0_2.out)
     (case side6 => exact HC0_2.out)
     rintro e w52 ⟨v201, v204, v207, rfl, ho0, ho1, ho2, hb⟩
     refine ⟨_, rfl, ?_⟩
     have n0_ := Aside0.mk (Kd.R_elder' (ra_ HO181.out) (Kd.R_base ho0) hb)
     have n1_ := Aside0.mk (Kd.R_elder' (ra_ HO184.out) (Kd.R_base ho1) hb)
     have n2_ := Aside0.mk (Kd.S_elder' (sa_ HO187.out) (Kd.S_base ho2) hb)
     have n3_ := Aside0.mk (Kd.R_elder' (ra_ HO191.out) (Kd.R_base ho0) hb)
     have n4_ := Aside0.mk (Kd.R_elder' (ra_ HO194.out) (Kd.R_base ho1) hb)
     have n5_ := Aside0.mk (Kd.S_elder' (sa_ HO197.out) (Kd.S_base ho2) hb)
     have n6_ := Aside0.mk (Kd.R_lower (Kd.R_new' (Kd.R_new' ho0 (Kd.R_lt (ra_ HO181.out))) (Kd.R_lt (ra_ HO191.out))) (below_size hb_))
     have n7_ := Aside0.mk (Kd.R_lower (Kd.R_new' (Kd.R_new' ho1 (Kd.R_lt (ra_ HO184.out))) (Kd.R_lt (ra_ HO194.out))) (below_size hb_))
     have n8_ := Aside0.mk (Kd.S_lower (Kd.S_new' (Kd.S_new' ho2 (Kd.S_lt (sa_ HO187.out))) (Kd.S_lt (sa_ HO197.out))) (below_size hb_))
     have n9_ := bb_ BK177 hb
     have n10_ := bb_ BK198 hb
     have n11_ := Aside0.mk (below_step hb_ hb)
     clear HO181
     clear HO184
     clear HO187
     clear HO191
     clear HO194
     clear HO197
     clear BK177
     clear BK198
     clear HB
     have HO181 := n0_
     have HO184 := n1_
     have HO187 := n2_
     have HO191 := n3_
     have HO194 := n4_
     have HO197 := n5_
     have HO202 := n6_
     have HO205 := n7_
     have HO208 := n8_
     have BK177 := n9_
     have BK198 := n10_
     have HB := n11_
     clear n0_ n1_ n2_ n3_ n4_ n5_ n6_ n7_ n8_ n9_ n10_ n11_
     (try clear hb)
     (try clear hb2)
     (try clear hk)
     (try clear hi)
     (try clear ho0)
     (try clear ho1)
     (try clear ho2)
     obtain ⟨Ao53, co53, eo53⟩ := Kd.R_slice HO202.out
     (first | subst eo53 | (injection eo53 with f1_ f2_ f3_; have f4_ := f1_.symm; have f5_ := f3_.symm; clear f1_ f2_ f3_; subst f4_; subst f5_))
     obtain ⟨Ao54, co54, eo54⟩ := Kd.R_slice HO205.out
     (first | subst eo54 | (injection eo54 with f1_ f2_ f3_; have f4_ := f1_.symm; have f5_ := f3_.symm; clear f1_ f2_ f3_; subst f4_; subst f5_))
     obtain ⟨Ao55, co55, eo55⟩ := Kd.S_slice HO208.out
     (first | subst eo55 | (injection eo55 with f1_ f2_ f3_; have f4_ := f1_.symm; have f5_ := f3_.symm; clear f1_ f2_ f3_; subst f4_; subst f5_))
     refine hK.out _ _ ⟨(blk_cell BK198.out 0).trans rfl, (blk_cell BK198.out 1).trans rfl, (blk_cell BK198.out 2).trans rfl, (blk_cell BK177.out 0).trans rfl, (blk_cell BK177.out 1).trans rfl, (blk_cell BK177.out 2).trans rfl⟩ (fun hHeld => ?_)
     clear hK K
     refine norm_ (a' := ?_) ?_ ?_
     rotate_left
     ·show Act.put _ (some 24) _ = _
      simp only [Act.put, List.setIfInBounds_toArray, List.set_cons_zero, List.set_cons_succ, i64_w, i32_w]
      rfl
     refine one_ (i := 3) (N := some 25) #[true, true, true, true, false] rfl rfl (by kernel_rfl) (by decide) (fun K hK => ?_)
     refine goes_ Tryd.func19 (by kernel_rfl) rfl #[.agg #[.slice Ao45 t189.length co45, .slice Ao48 t192.length co48, .slice Ao49 t195.length co49], .agg #[.slice Ao53 t200.length co53, .slice Ao54 t203.length co54, .slice Ao55 t206.length co55]] (by rfl) rfl rfl ls_ ?_
     with_reducible refine (laws_eqBoard.calls k _ _ t189 _ _ t192 _ _ t195 _ _ t200 _ _ t203 _ _ t206 true _ ?side1 ?side2 ?side3 ?side4 ?side5 ?side6 ?side7 ?side8 ?side9 ?side10 ?side11 ?side12 A31.out).mono ?_
     (case side1 => exact ca_ (Kd.R_reads' HO191.out).2.2)
     (case side2 => exact (Kd.R_reads' HO191.out).2.1)
     (case side3 => exact ca_ (Kd.R_reads' HO194.out).2.2)
     (case side4 => exact (Kd.R_reads' HO194.out).2.1)
     (case side5 => exact ca_ (Kd.S_reads' HO197.out).2.2)
     (case side6 => exact (Kd.S_reads' HO197.out).2.1)
     (case side7 => exact ca_ (Kd.R_reads' HO202.out).2.2)
     (case side8 => exact (Kd.R_reads' HO202.out).2.1)
     (case side9 => exact ca_ (Kd.R_reads' HO205.out).2.2)
     (case side10 => exact (Kd.R_reads' HO205.out).2.1)
     (case side11 => exact ca_ (Kd.S_reads' HO208.out).2.2)
     (case side12 => exact (Kd.S_reads' HO208.out).2.1)
     rintro e w56 ⟨rfl, hb⟩
     refine ⟨_, rfl, ?_⟩
     have n0_ := Aside0.mk (Kd.R_below (ra_ HO181.out) hb)
     have n1_ := Aside0.mk (Kd.R_below (ra_ HO184.out) hb)
     have n2_ := Aside0.mk (Kd.S_below (sa_ HO187.out) hb)
     have n3_ := Aside0.mk (Kd.R_below (ra_ HO191.out) hb)
     have n4_ := Aside0.mk (Kd.R_below (ra_ HO194.out) hb)
     have n5_ := Aside0.mk (Kd.S_below (sa_ HO197.out) hb)
     have n6_ := Aside0.mk (Kd.R_below (ra_ HO202.out) hb)
     have n7_ := Aside0.mk (Kd.R_below (ra_ HO205.out) hb)
     have n8_ := Aside0.mk (Kd.S_below (sa_ HO208.out) hb)
     have n9_ := bb_ BK177 hb
     have n10_ := bb_ BK198 hb
     have n11_ := Aside0.mk (below_step hb_ hb)
     clear HO181
     clear HO184
     clear HO187
     clear HO191
     clear HO194
     clear HO197
     clear HO202
     clear HO205
     clear HO208
     clear BK177
     clear BK198
     clear HB
     have HO181 := n0_
     have HO184 := n1_
     have HO187 := n2_
     have HO191 := n3_
     have HO194 := n4_
     have HO197 := n5_
     have HO202 := n6_
     have HO205 := n7_
     have HO208 := n8_
     have BK177 := n9_
     have BK198 := n10_
     have HB := n11_
     clear n0_ n1_ n2_ n3_ n4_ n5_ n6_ n7_ n8_ n9_ n10_ n11_
     (try clear hb)
     (try clear hb2)
     (try clear hk)
     (try clear hi)
     refine hK.out _ _ ⟨(blk_cell BK198.out 0).trans rfl, (blk_cell BK198.out 1).trans rfl, (blk_cell BK198.out 2).trans rfl, (blk_cell BK177.out 0).trans rfl, (blk_cell BK177.out 1).trans rfl, (blk_cell BK177.out 2).trans rfl⟩ (fun hHeld => ?_)
     clear hK K
     refine norm_ (a' := ?_) ?_ ?_
     rotate_left
     ·show Act.put _ (some 25) _ = _
      simp only [Act.put, List.setIfInBounds_toArray, List.set_cons_zero, List.set_cons_succ, i64_w, i32_w]
      rfl
     refine pure_ (i := 4) (N := some 26) (v := ?_) (a' := ?_) #[true, true, true, true, true] rfl rfl (by kernel_rfl) (fun _ _ _ h => h) (Or.inl ⟨by rfl, ?_⟩) ?_ ?_
     rotate_left
     ·intro w'
      go_simp
      with_reducible rfl
     rotate_left
     ·simp only [Act.put, List.setIfInBounds_toArray, List.set_cons_zero, List.set_cons_succ, i64_w, i32_w]
      rfl
     refine done_ (by kernel_rfl) ?_
     try go_wp2
     go_ret
     exact ⟨er_, hb_⟩
    ·replace c32 := Bool.eq_false_iff.mpr c32
     subst c32
     rw [if_neg (show ¬ (false = true) by decide)] at H
     obtain rfl := Option.some.inj H
     go_enter Tryd.func5, Tryd.ntmps5
     try go_wp2_with (first | ((with_reducible refine gate_dst (N := 1) rfl ?_); refine box_event ?hg (N := 1) ?hd (cs := #[.slice A0_0 l0_0.length c0_0, .slice A0_1 l0_1.length c0_1, .slice A0_2 l0_2.length c0_2]) (t := 26) ?hr ?_; (case hd => rfl); (case hg => rfl); (case hr => first | (go_simp; done) | (go_simp; rfl)); intro gb177 hg w57 hbox hb; have n0_ := Aside0.mk (below_step hb_ hb); have n1_ := Aside0.mk (hbox); have n2_ : Aside0 (w.heap.size ≤ gb177) := gz_; have n3_ : Aside0 (w.heap.size ≤ gb177) := gz_; clear HB; have HB := n0_; have BK177 := n1_; have GW177 := n2_; have GE177 := n3_; clear n0_ n1_ n2_ n3_; clear hb hbox hg; have hcz58_0 : w57.cell? ⟨gb177, 0, none⟩ = some (.slice A0_0 l0_0.length c0_0) := (blk_cell BK177.out 0).trans rfl; have hcz58_1 : w57.cell? ⟨gb177, 1, none⟩ = some (.slice A0_1 l0_1.length c0_1) := (blk_cell BK177.out 1).trans rfl; have hcz58_2 : w57.cell? ⟨gb177, 2, none⟩ = some (.slice A0_2 l0_2.length c0_2) := (blk_cell BK177.out 2).trans rfl; have hfz58_0 := blk_frozen BK177.out 0; have hfz58_1 := blk_frozen BK177.out 1; have hfz58_2 := blk_frozen BK177.out 2) | ((with_reducible refine gate_callee (f := 12) rfl ?_); refine goesL_ (some 9) rfl rfl Tryd.func12 (by kernel_rfl) rfl #[.agg #[.slice A0_0 l0_0.length c0_0, .slice A0_1 l0_1.length c0_1, .slice A0_2 l0_2.length c0_2], .int .i64 1048576] rfl ls_ ?_; (with_reducible refine (laws_szBoard.calls k _ _ l0_0 _ _ l0_1 _ _ l0_2 1048576 t178 _ ?side1 ?side2 ?side3 ?side4 ?side5 ?side6 A2.out).mono ?_); (case side1 => exact cb_ HR0_0.out); (case side2 => exact HC0_0.out); (case side3 => exact cb_ HR0_1.out); (case side4 => exact HC0_1.out); (case side5 => exact cb_ HR0_2.out); (case side6 => exact HC0_2.out); rintro e w59 ⟨rfl, hb⟩; refine ⟨_, rfl, ?_⟩; have n0_ := bb_ BK177 hb; have n1_ := Aside0.mk (below_step hb_ hb); clear BK177; clear HB; have BK177 := n0_; have HB := n1_; clear n0_ n1_; (try clear hb); (try clear hb2); (try clear hk); (try clear hi); have hcz60_0 : w59.cell? ⟨gb177, 0, none⟩ = some (.slice A0_0 l0_0.length c0_0) := (blk_cell BK177.out 0).trans rfl; have hcz60_1 : w59.cell? ⟨gb177, 1, none⟩ = some (.slice A0_1 l0_1.length c0_1) := (blk_cell BK177.out 1).trans rfl; have hcz60_2 : w59.cell? ⟨gb177, 2, none⟩ = some (.slice A0_2 l0_2.length c0_2) := (blk_cell BK177.out 2).trans rfl; have hfz60_0 := blk_frozen BK177.out 0; have hfz60_1 := blk_frozen BK177.out 1; have hfz60_2 := blk_frozen BK177.out 2) | ((with_reducible refine gate_callee (f := 15) rfl ?_); refine goesL_ (some 13) rfl rfl Tryd.func15 (by kernel_rfl) rfl #[.agg #[.slice A0_0 l0_0.length c0_0, .slice A0_1 l0_1.length c0_1, .slice A0_2 l0_2.length c0_2]] rfl ls_ ?_; (with_reducible refine (laws_toBoard.calls k _ _ l0_0 _ _ l0_1 _ _ l0_2 t179 t182 t185 _ ?side1 ?side2 ?side3 ?side4 ?side5 ?side6 A7.out).mono ?_); (case side1 => exact cb_ HR0_0.out); (case side2 => exact HC0_0.out); (case side3 => exact cb_ HR0_1.out); (case side4 => exact HC0_1.out); (case side5 => exact cb_ HR0_2.out); (case side6 => exact HC0_2.out); rintro e w61 ⟨v180, v183, v186, rfl, ho0, ho1, ho2, hb⟩; refine ⟨_, rfl, ?_⟩; have n0_ := Aside0.mk (Kd.R_lower ho0 (below_size hb_)); have n1_ := Aside0.mk (Kd.R_lower ho1 (below_size hb_)); have n2_ := Aside0.mk (Kd.S_lower ho2 (below_size hb_)); have n3_ := bb_ BK177 hb; have n4_ := Aside0.mk (below_step hb_ hb); clear BK177; clear HB; have HO181 := n0_; have HO184 := n1_; have HO187 := n2_; have BK177 := n3_; have HB := n4_; clear n0_ n1_ n2_ n3_ n4_; (try clear hb); (try clear hb2); (try clear hk); (try clear hi); (try clear ho0); (try clear ho1); (try clear ho2); obtain ⟨Ao62, co62, eo62⟩ := Kd.R_slice HO181.out; subst eo62; obtain ⟨Ao63, co63, eo63⟩ := Kd.R_slice HO184.out; subst eo63; obtain ⟨Ao64, co64, eo64⟩ := Kd.S_slice HO187.out; subst eo64) | ((with_reducible refine gate_callee (f := 27) rfl ?_); refine goesL_ (some 14) rfl rfl Tryd.func27 (by kernel_rfl) rfl #[.agg #[.slice Ao62 t179.length co62, .slice Ao63 t182.length co63, .slice Ao64 t185.length co64]] rfl ls_ ?_; (with_reducible refine (spec_GoodBoard.calls k _ _ t179 _ _ t182 _ _ t185 t188 _ ?side1 ?side2 ?side3 ?side4 ?side5 ?side6 A8.out).mono ?_); (case side1 => exact ca_ (Kd.R_reads' HO181.out).2.2); (case side2 => exact (Kd.R_reads' HO181.out).2.1); (case side3 => exact ca_ (Kd.R_reads' HO184.out).2.2); (case side4 => exact (Kd.R_reads' HO184.out).2.1); (case side5 => exact ca_ (Kd.S_reads' HO187.out).2.2); (case side6 => exact (Kd.S_reads' HO187.out).2.1); rintro e w65 ⟨rfl, hb⟩; refine ⟨_, rfl, ?_⟩; have n0_ := Aside0.mk (Kd.R_below (ra_ HO181.out) hb); have n1_ := Aside0.mk (Kd.R_below (ra_ HO184.out) hb); have n2_ := Aside0.mk (Kd.S_below (sa_ HO187.out) hb); have n3_ := bb_ BK177 hb; have n4_ := Aside0.mk (below_step hb_ hb); clear HO181; clear HO184; clear HO187; clear BK177; clear HB; have HO181 := n0_; have HO184 := n1_; have HO187 := n2_; have BK177 := n3_; have HB := n4_; clear n0_ n1_ n2_ n3_ n4_; (try clear hb); (try clear hb2); (try clear hk); (try clear hi); have hcz66_0 : w65.cell? ⟨gb177, 0, none⟩ = some (.slice A0_0 l0_0.length c0_0) := (blk_cell BK177.out 0).trans rfl; have hcz66_1 : w65.cell? ⟨gb177, 1, none⟩ = some (.slice A0_1 l0_1.length c0_1) := (blk_cell BK177.out 1).trans rfl; have hcz66_2 : w65.cell? ⟨gb177, 2, none⟩ = some (.slice A0_2 l0_2.length c0_2) := (blk_cell BK177.out 2).trans rfl; have hfz66_0 := blk_frozen BK177.out 0; have hfz66_1 := blk_frozen BK177.out 1; have hfz66_2 := blk_frozen BK177.out 2) | ((with_reducible refine gate_callee (f := 15) rfl ?_); refine goesL_ (some 16) rfl rfl Tryd.func15 (by kernel_rfl) rfl #[.agg #[.slice A0_0 l0_0.length c0_0, .slice A0_1 l0_1.length c0_1, .slice A0_2 l0_2.length c0_2]] rfl ls_ ?_; (with_reducible refine (laws_toBoard.calls k _ _ l0_0 _ _ l0_1 _ _ l0_2 t189 t192 t195 _ ?side1 ?side2 ?side3 ?side4 ?side5 ?side6 A9.out).mono ?_); (case side1 => exact cb_ HR0_0.out); (case side2 => exact HC0_0.out); (case side3 => exact cb_ HR0_1.out); (case side4 => exact HC0_1.out); (case side5 => exact cb_ HR0_2.out); (case side6 => exact HC0_2.out); rintro e w67 ⟨v190, v193, v196, rfl, ho0, ho1, ho2, hb⟩; refine ⟨_, rfl, ?_⟩; have n0_ := Aside0.mk (Kd.R_elder' (ra_ HO181.out) (Kd.R_base ho0) hb); have n1_ := Aside0.mk (Kd.R_elder' (ra_ HO184.out) (Kd.R_base ho1) hb); have n2_ := Aside0.mk (Kd.S_elder' (sa_ HO187.out) (Kd.S_base ho2) hb); have n3_ := Aside0.mk (Kd.R_lower (Kd.R_new' ho0 (Kd.R_lt (ra_ HO181.out))) (below_size hb_)); have n4_ := Aside0.mk (Kd.R_lower (Kd.R_new' ho1 (Kd.R_lt (ra_ HO184.out))) (below_size hb_)); have n5_ := Aside0.mk (Kd.S_lower (Kd.S_new' ho2 (Kd.S_lt (sa_ HO187.out))) (below_size hb_)); have n6_ := bb_ BK177 hb; have n7_ := Aside0.mk (below_step hb_ hb); clear HO181; clear HO184; clear HO187; clear BK177; clear HB; have HO181 := n0_; have HO184 := n1_; have HO187 := n2_; have HO191 := n3_; have HO194 := n4_; have HO197 := n5_; have BK177 := n6_; have HB := n7_; clear n0_ n1_ n2_ n3_ n4_ n5_ n6_ n7_; (try clear hb); (try clear hb2); (try clear hk); (try clear hi); (try clear ho0); (try clear ho1); (try clear ho2)) | ((with_reducible refine gate_dst (N := 5) rfl ?_); refine box_event ?hg (N := 5) ?hd (cs := #[.slice none 0 0, .slice none 0 0, .slice none 0 0]) (t := 34) ?hr ?_; (case hd => rfl); (case hg => rfl); (case hr => first | (go_simp; done) | (go_simp; rfl)); intro gb198 hg w68 hbox hb; have n0_ := Aside0.mk (Kd.R_below (ra_ HO181.out) hb); have n1_ := Aside0.mk (Kd.R_below (ra_ HO184.out) hb); have n2_ := Aside0.mk (Kd.S_below (sa_ HO187.out) hb); have n3_ := Aside0.mk (Kd.R_below (ra_ HO191.out) hb); have n4_ := Aside0.mk (Kd.R_below (ra_ HO194.out) hb); have n5_ := Aside0.mk (Kd.S_below (sa_ HO197.out) hb); have n6_ := bb_ BK177 hb; have n7_ := Aside0.mk (below_step hb_ hb); have n8_ := Aside0.mk (hbox); have n9_ : Aside0 (w.heap.size ≤ gb198) := gz_; have n10_ : Aside0 (w.heap.size ≤ gb198) := gz_; have n11_ := Aside0.mk ((by rw [hg]; exact Nat.ne_of_lt (blk_lt (g := gb177) (o := .cells #[.slice A0_0 l0_0.length c0_0, .slice A0_1 l0_1.length c0_1, .slice A0_2 l0_2.length c0_2] 26 (0, 0)) (bk_ BK177.out)) : gb177 ≠ gb198)); have n12_ := Aside0.mk ((by rw [hg]; exact Nat.ne_of_gt (blk_lt (g := gb177) (o := .cells #[.slice A0_0 l0_0.length c0_0, .slice A0_1 l0_1.length c0_1, .slice A0_2 l0_2.length c0_2] 26 (0, 0)) (bk_ BK177.out)) : gb198 ≠ gb177)); clear HO181; clear HO184; clear HO187; clear HO191; clear HO194; clear HO197; clear BK177; clear HB; have HO181 := n0_; have HO184 := n1_; have HO187 := n2_; have HO191 := n3_; have HO194 := n4_; have HO197 := n5_; have BK177 := n6_; have HB := n7_; have BK198 := n8_; have GW198 := n9_; have GE198 := n10_; have NB177_198 := n11_; have NB198_177 := n12_; clear n0_ n1_ n2_ n3_ n4_ n5_ n6_ n7_ n8_ n9_ n10_ n11_ n12_; clear hb hbox hg; obtain ⟨Ao69, co69, eo69⟩ := Kd.R_slice HO191.out; subst eo69; have hnb70 := NB198_177.out; have hnc70 := NB177_198.out; have hcz71_0 : w68.cell? ⟨gb198, 0, none⟩ = some (.slice none 0 0) := (blk_cell BK198.out 0).trans rfl; have hcz71_1 : w68.cell? ⟨gb198, 1, none⟩ = some (.slice none 0 0) := (blk_cell BK198.out 1).trans rfl; have hcz71_2 : w68.cell? ⟨gb198, 2, none⟩ = some (.slice none 0 0) := (blk_cell BK198.out 2).trans rfl; have hfz71_0 := blk_frozen BK198.out 0; have hfz71_1 := blk_frozen BK198.out 1; have hfz71_2 := blk_frozen BK198.out 2; obtain ⟨Ao72, co72, eo72⟩ := Kd.R_slice HO194.out; subst eo72; obtain ⟨Ao73, co73, eo73⟩ := Kd.S_slice HO197.out; subst eo73) | ((with_reducible refine gate_callee (f := 28) rfl ?_); refine goesL_ (some 18) rfl rfl Tryd.func28 (by kernel_rfl) rfl #[.agg #[.slice Ao69 t189.length co69, .slice Ao72 t192.length co72, .slice Ao73 t195.length co73]] rfl ls_ ?_; (with_reducible refine (impl_GoodBoard.calls k _ _ t189 _ _ t192 _ _ t195 t199 _ ?side1 ?side2 ?side3 ?side4 ?side5 ?side6 A10.out).mono ?_); (case side1 => refine (Kd.R_reads' (e := 9) (base := w.heap.size) (ok := fun k_ => (True ∧ some k_ ≠ (.slice Ao62 t179.length co62 : Value).ownBlock)) (n := t189.length) (c := co69) ?_).2.2; exact (by (with_reducible repeat (first | apply Kd.R_alloc | apply Kd.R_drewN | apply Kd.R_drew)); exact (Kd.R_mono (Kd.R_far (p := ⟨gb198, 2, none⟩) (Kd.R_far (p := ⟨gb198, 1, none⟩) (Kd.R_far (p := ⟨gb198, 0, none⟩) (Kd.R_types HO191.out BK198.out (by decide)) (fun _ hk => hk.2) (.slice Ao69 t189.length co69)) (fun _ hk => hk.2) (.slice Ao72 t192.length co72)) (fun _ hk => hk.2) (.slice Ao73 t195.length co73)) (fun _ h_ => h_.1)))); (case side2 => exact (Kd.R_reads' HO191.out).2.1); (case side3 => refine (Kd.R_reads' (e := 4) (base := w.heap.size) (ok := fun k_ => (True ∧ some k_ ≠ (.slice Ao63 t182.length co63 : Value).ownBlock)) (n := t192.length) (c := co72) ?_).2.2; exact (by (with_reducible repeat (first | apply Kd.R_alloc | apply Kd.R_drewN | apply Kd.R_drew)); exact (Kd.R_mono (Kd.R_far (p := ⟨gb198, 2, none⟩) (Kd.R_far (p := ⟨gb198, 1, none⟩) (Kd.R_far (p := ⟨gb198, 0, none⟩) (Kd.R_types HO194.out BK198.out (by decide)) (fun _ hk => hk.2) (.slice Ao69 t189.length co69)) (fun _ hk => hk.2) (.slice Ao72 t192.length co72)) (fun _ hk => hk.2) (.slice Ao73 t195.length co73)) (fun _ h_ => h_.1)))); (case side4 => exact (Kd.R_reads' HO194.out).2.1); (case side5 => refine (Kd.S_reads' (e := 31) (base := w.heap.size) (ok := fun k_ => (True ∧ some k_ ≠ (.slice Ao64 t185.length co64 : Value).ownBlock)) (n := t195.length) (c := co73) ?_).2.2; exact (by (with_reducible repeat (first | apply Kd.S_alloc | apply Kd.S_drewN | apply Kd.S_drew)); exact (Kd.S_mono (Kd.S_far (p := ⟨gb198, 2, none⟩) (Kd.S_far (p := ⟨gb198, 1, none⟩) (Kd.S_far (p := ⟨gb198, 0, none⟩) (Kd.S_types HO197.out BK198.out (by decide)) (fun _ hk => hk.2) (.slice Ao69 t189.length co69)) (fun _ hk => hk.2) (.slice Ao72 t192.length co72)) (fun _ hk => hk.2) (.slice Ao73 t195.length co73)) (fun _ h_ => h_.1)))); (case side6 => exact (Kd.S_reads' HO197.out).2.1); rintro e w74 ⟨rfl, hb⟩; refine ⟨_, rfl, ?_⟩; have n0_ := Aside0.mk (Kd.R_below (by (with_reducible repeat (first | apply Kd.R_alloc | apply Kd.R_drewN | apply Kd.R_drew)); exact (Kd.R_mono (Kd.R_far (p := ⟨gb198, 2, none⟩) (Kd.R_far (p := ⟨gb198, 1, none⟩) (Kd.R_far (p := ⟨gb198, 0, none⟩) (Kd.R_types HO181.out BK198.out (by decide)) (fun _ hk => hk.2) (.slice Ao69 t189.length co69)) (fun _ hk => hk.2) (.slice Ao72 t192.length co72)) (fun _ hk => hk.2) (.slice Ao73 t195.length co73)) (fun _ h_ => h_.1))) hb); have n1_ := Aside0.mk (Kd.R_below (by (with_reducible repeat (first | apply Kd.R_alloc | apply Kd.R_drewN | apply Kd.R_drew)); exact (Kd.R_mono (Kd.R_far (p := ⟨gb198, 2, none⟩) (Kd.R_far (p := ⟨gb198, 1, none⟩) (Kd.R_far (p := ⟨gb198, 0, none⟩) (Kd.R_types HO184.out BK198.out (by decide)) (fun _ hk => hk.2) (.slice Ao69 t189.length co69)) (fun _ hk => hk.2) (.slice Ao72 t192.length co72)) (fun _ hk => hk.2) (.slice Ao73 t195.length co73)) (fun _ h_ => h_.1))) hb); have n2_ := Aside0.mk (Kd.S_below (by (with_reducible repeat (first | apply Kd.S_alloc | apply Kd.S_drewN | apply Kd.S_drew)); exact (Kd.S_mono (Kd.S_far (p := ⟨gb198, 2, none⟩) (Kd.S_far (p := ⟨gb198, 1, none⟩) (Kd.S_far (p := ⟨gb198, 0, none⟩) (Kd.S_types HO187.out BK198.out (by decide)) (fun _ hk => hk.2) (.slice Ao69 t189.length co69)) (fun _ hk => hk.2) (.slice Ao72 t192.length co72)) (fun _ hk => hk.2) (.slice Ao73 t195.length co73)) (fun _ h_ => h_.1))) hb); have n3_ := Aside0.mk (Kd.R_below (by (with_reducible repeat (first | apply Kd.R_alloc | apply Kd.R_drewN | apply Kd.R_drew)); exact (Kd.R_mono (Kd.R_far (p := ⟨gb198, 2, none⟩) (Kd.R_far (p := ⟨gb198, 1, none⟩) (Kd.R_far (p := ⟨gb198, 0, none⟩) (Kd.R_types HO191.out BK198.out (by decide)) (fun _ hk => hk.2) (.slice Ao69 t189.length co69)) (fun _ hk => hk.2) (.slice Ao72 t192.length co72)) (fun _ hk => hk.2) (.slice Ao73 t195.length co73)) (fun _ h_ => h_.1))) hb); have n4_ := Aside0.mk (Kd.R_below (by (with_reducible repeat (first | apply Kd.R_alloc | apply Kd.R_drewN | apply Kd.R_drew)); exact (Kd.R_mono (Kd.R_far (p := ⟨gb198, 2, none⟩) (Kd.R_far (p := ⟨gb198, 1, none⟩) (Kd.R_far (p := ⟨gb198, 0, none⟩) (Kd.R_types HO194.out BK198.out (by decide)) (fun _ hk => hk.2) (.slice Ao69 t189.length co69)) (fun _ hk => hk.2) (.slice Ao72 t192.length co72)) (fun _ hk => hk.2) (.slice Ao73 t195.length co73)) (fun _ h_ => h_.1))) hb); have n5_ := Aside0.mk (Kd.S_below (by (with_reducible repeat (first | apply Kd.S_alloc | apply Kd.S_drewN | apply Kd.S_drew)); exact (Kd.S_mono (Kd.S_far (p := ⟨gb198, 2, none⟩) (Kd.S_far (p := ⟨gb198, 1, none⟩) (Kd.S_far (p := ⟨gb198, 0, none⟩) (Kd.S_types HO197.out BK198.out (by decide)) (fun _ hk => hk.2) (.slice Ao69 t189.length co69)) (fun _ hk => hk.2) (.slice Ao72 t192.length co72)) (fun _ hk => hk.2) (.slice Ao73 t195.length co73)) (fun _ h_ => h_.1))) hb); have n6_ := Aside0.mk (blk_below (g := gb177) (o := .cells #[.slice A0_0 l0_0.length c0_0, .slice A0_1 l0_1.length c0_1, .slice A0_2 l0_2.length c0_2] 26 (0, 0)) (by (with_reducible repeat (first | refine blk_drewN ?_ _ | refine blk_drew ?_ | refine blk_alloc ?_ _)); refine blk_far ?_ NB177_198.out _; (with_reducible repeat (first | refine blk_drewN ?_ _ | refine blk_drew ?_ | refine blk_alloc ?_ _)); refine blk_far ?_ NB177_198.out _; (with_reducible repeat (first | refine blk_drewN ?_ _ | refine blk_drew ?_ | refine blk_alloc ?_ _)); refine blk_far ?_ NB177_198.out _; (with_reducible repeat (first | refine blk_drewN ?_ _ | refine blk_drew ?_ | refine blk_alloc ?_ _)); exact BK177.out) hb); have n7_ := Aside0.mk (blk_below (g := gb198) (o := .cells #[.slice Ao69 t189.length co69, .slice Ao72 t192.length co72, .slice Ao73 t195.length co73] 34 (0, 0)) (by (with_reducible repeat (first | refine blk_drewN ?_ _ | refine blk_drew ?_ | refine blk_alloc ?_ _)); refine blk_put (cs := #[.slice Ao69 t189.length co69, .slice Ao72 t192.length co72, .slice none 0 0]) ?_ 2 _ rfl; (with_reducible repeat (first | refine blk_drewN ?_ _ | refine blk_drew ?_ | refine blk_alloc ?_ _)); refine blk_put (cs := #[.slice Ao69 t189.length co69, .slice none 0 0, .slice none 0 0]) ?_ 1 _ rfl; (with_reducible repeat (first | refine blk_drewN ?_ _ | refine blk_drew ?_ | refine blk_alloc ?_ _)); refine blk_put (cs := #[.slice none 0 0, .slice none 0 0, .slice none 0 0]) ?_ 0 _ rfl; (with_reducible repeat (first | refine blk_drewN ?_ _ | refine blk_drew ?_ | refine blk_alloc ?_ _)); exact BK198.out) hb); have n8_ := Aside0.mk (below_step hb_ hb); clear HO181; clear HO184; clear HO187; clear HO191; clear HO194; clear HO197; clear BK177; clear BK198; clear HB; have HO181 := n0_; have HO184 := n1_; have HO187 := n2_; have HO191 := n3_; have HO194 := n4_; have HO197 := n5_; have BK177 := n6_; have BK198 := n7_; have HB := n8_; clear n0_ n1_ n2_ n3_ n4_ n5_ n6_ n7_ n8_; (try clear hb); (try clear hb2); (try clear hk); (try clear hi)))
     have n0_ := Aside0.mk (Kd.R_drew HO181.out)
     have n1_ := Aside0.mk (Kd.R_drew HO184.out)
     have n2_ := Aside0.mk (Kd.S_drew HO187.out)
     have n3_ := Aside0.mk (Kd.R_drew HO191.out)
     have n4_ := Aside0.mk (Kd.R_drew HO194.out)
     have n5_ := Aside0.mk (Kd.S_drew HO197.out)
     have n6_ := Aside0.mk (blk_drew BK177.out)
     have n7_ := Aside0.mk (blk_drew BK198.out)
     have n8_ := Aside0.mk (below_drew1 HB.out)
     clear HO181
     clear HO184
     clear HO187
     clear HO191
     clear HO194
     clear HO197
     clear BK177
     clear BK198
     clear HB
     have HO181 := n0_
     have HO184 := n1_
     have HO187 := n2_
     have HO191 := n3_
     have HO194 := n4_
     have HO197 := n5_
     have BK177 := n6_
     have BK198 := n7_
     have HB := n8_
     clear n0_ n1_ n2_ n3_ n4_ n5_ n6_ n7_ n8_
     refine start_ (n := 5) (S := fun w' => w'.cell? ⟨gb198, 0, none⟩ = some (.slice Ao69 t189.length co69) ∧ w'.cell? ⟨gb198, 1, none⟩ = some (.slice Ao72 t192.length co72) ∧ w'.cell? ⟨gb198, 2, none⟩ = some (.slice Ao73 t195.length co73) ∧ w'.cell? ⟨gb177, 0, none⟩ = some (.slice A0_0 l0_0.length c0_0) ∧ w'.cell? ⟨gb177, 1, none⟩ = some (.slice A0_1 l0_1.length c0_1) ∧ w'.cell? ⟨gb177, 2, none⟩ = some (.slice A0_2 l0_2.length c0_2)) (ds := []) #[false, false, false, false, false] (by kernel_rfl) rfl rfl ⟨(blk_cell BK198.out 0).trans rfl, (blk_cell BK198.out 1).trans rfl, (blk_cell BK198.out 2).trans rfl, (blk_cell BK177.out 0).trans rfl, (blk_cell BK177.out 1).trans rfl, (blk_cell BK177.out 2).trans rfl⟩ (fun hHeld => ?_)
     generalize w74.drew = w75 at HO181 HO184 HO187 HO191 HO194 HO197 BK177 BK198 HB hHeld ⊢
     refine take_ (i := 0) (N := some 22) (v := ?_) (a' := ?_) #[true, false, false, false, false] rfl rfl (by kernel_rfl) (fun _ _ _ h => h) (Or.inl ⟨by rfl, ?_⟩) hHeld ?_ ?_
     rotate_left
     ·rintro w' ⟨s0, s1, s2, s3, s4, s5⟩
      go_simp
      with_reducible rfl
     rotate_left
     ·simp only [Act.put, List.setIfInBounds_toArray, List.set_cons_zero, List.set_cons_succ, i64_w, i32_w]
      rfl
     refine take_ (i := 1) (N := some 23) (v := ?_) (a' := ?_) #[true, true, false, false, false] rfl rfl (by kernel_rfl) (fun _ _ _ h => h) (Or.inl ⟨by rfl, ?_⟩) hHeld ?_ ?_
     rotate_left
     ·rintro w' ⟨s0, s1, s2, s3, s4, s5⟩
      go_simp
      with_reducible rfl
     rotate_left
     ·simp only [Act.put, List.setIfInBounds_toArray, List.set_cons_zero, List.set_cons_succ, i64_w, i32_w]
      rfl
     refine one_ (i := 2) (N := some 24) #[true, true, true, false, false] rfl rfl (by kernel_rfl) (by decide) (fun K hK => ?_)
     refine goes_ Tryd.func15 (by kernel_rfl) rfl #[.agg #[.slice A0_0 l0_0.length c0_0, .slice A0_1 l0_1.length c0_1, .slice A0_2 l0_2.length c0_2]] (by rfl) rfl rfl ls_ ?_
     with_reducible refine (laws_toBoard.calls k _ _ l0_0 _ _ l0_1 _ _ l0_2 t200 t203 t206 _ ?side1 ?side2 ?side3 ?side4 ?side5 ?side6 A30.out).mono ?_
     (case side1 => exact cb_ HR0_0.out)
     (case side2 => exact HC0_0.out)
     (case side3 => exact cb_ HR0_1.out)
     (case side4 => exact HC0_1.out)
     (case side5 => exact cb_ HR0_2.out)
     (case side6 => exact HC0_2.out)
     rintro e w76 ⟨v201, v204, v207, rfl, ho0, ho1, ho2, hb⟩
     refine ⟨_, rfl, ?_⟩
     have n0_ := Aside0.mk (Kd.R_elder' (ra_ HO181.out) (Kd.R_base ho0) hb)
     have n1_ := Aside0.mk (Kd.R_elder' (ra_ HO184.out) (Kd.R_base ho1) hb)
     have n2_ := Aside0.mk (Kd.S_elder' (sa_ HO187.out) (Kd.S_base ho2) hb)
     have n3_ := Aside0.mk (Kd.R_elder' (ra_ HO191.out) (Kd.R_base ho0) hb)
     have n4_ := Aside0.mk (Kd.R_elder' (ra_ HO194.out) (Kd.R_base ho1) hb)
     have n5_ := Aside0.mk (Kd.S_elder' (sa_ HO197.out) (Kd.S_base ho2) hb)
     have n6_ := Aside0.mk (Kd.R_lower (Kd.R_new' (Kd.R_new' ho0 (Kd.R_lt (ra_ HO181.out))) (Kd.R_lt (ra_ HO191.out))) (below_size hb_))
     have n7_ := Aside0.mk (Kd.R_lower (Kd.R_new' (Kd.R_new' ho1 (Kd.R_lt (ra_ HO184.out))) (Kd.R_lt (ra_ HO194.out))) (below_size hb_))
     have n8_ := Aside0.mk (Kd.S_lower (Kd.S_new' (Kd.S_new' ho2 (Kd.S_lt (sa_ HO187.out))) (Kd.S_lt (sa_ HO197.out))) (below_size hb_))
     have n9_ := bb_ BK177 hb
     have n10_ := bb_ BK198 hb
     have n11_ := Aside0.mk (below_step hb_ hb)
     clear HO181
     clear HO184
     clear HO187
     clear HO191
     clear HO194
     clear HO197
     clear BK177
     clear BK198
     clear HB
     have HO181 := n0_
     have HO184 := n1_
     have HO187 := n2_
     have HO191 := n3_
     have HO194 := n4_
     have HO197 := n5_
     have HO202 := n6_
     have HO205 := n7_
     have HO208 := n8_
     have BK177 := n9_
     have BK198 := n10_
     have HB := n11_
     clear n0_ n1_ n2_ n3_ n4_ n5_ n6_ n7_ n8_ n9_ n10_ n11_
     (try clear hb)
     (try clear hb2)
     (try clear hk)
     (try clear hi)
     (try clear ho0)
     (try clear ho1)
     (try clear ho2)
     obtain ⟨Ao77, co77, eo77⟩ := Kd.R_slice HO202.out
     (first | subst eo77 | (injection eo77 with f1_ f2_ f3_; have f4_ := f1_.symm; have f5_ := f3_.symm; clear f1_ f2_ f3_; subst f4_; subst f5_))
     obtain ⟨Ao78, co78, eo78⟩ := Kd.R_slice HO205.out
     (first | subst eo78 | (injection eo78 with f1_ f2_ f3_; have f4_ := f1_.symm; have f5_ := f3_.symm; clear f1_ f2_ f3_; subst f4_; subst f5_))
     obtain ⟨Ao79, co79, eo79⟩ := Kd.S_slice HO208.out
     (first | subst eo79 | (injection eo79 with f1_ f2_ f3_; have f4_ := f1_.symm; have f5_ := f3_.symm; clear f1_ f2_ f3_; subst f4_; subst f5_))
     refine hK.out _ _ ⟨(blk_cell BK198.out 0).trans rfl, (blk_cell BK198.out 1).trans rfl, (blk_cell BK198.out 2).trans rfl, (blk_cell BK177.out 0).trans rfl, (blk_cell BK177.out 1).trans rfl, (blk_cell BK177.out 2).trans rfl⟩ (fun hHeld => ?_)
     clear hK K
     refine norm_ (a' := ?_) ?_ ?_
     rotate_left
     ·show Act.put _ (some 24) _ = _
      simp only [Act.put, List.setIfInBounds_toArray, List.set_cons_zero, List.set_cons_succ, i64_w, i32_w]
      rfl
     refine one_ (i := 3) (N := some 25) #[true, true, true, true, false] rfl rfl (by kernel_rfl) (by decide) (fun K hK => ?_)
     refine goes_ Tryd.func19 (by kernel_rfl) rfl #[.agg #[.slice Ao69 t189.length co69, .slice Ao72 t192.length co72, .slice Ao73 t195.length co73], .agg #[.slice Ao77 t200.length co77, .slice Ao78 t203.length co78, .slice Ao79 t206.length co79]] (by rfl) rfl rfl ls_ ?_
     with_reducible refine (laws_eqBoard.calls k _ _ t189 _ _ t192 _ _ t195 _ _ t200 _ _ t203 _ _ t206 false _ ?side1 ?side2 ?side3 ?side4 ?side5 ?side6 ?side7 ?side8 ?side9 ?side10 ?side11 ?side12 A31.out).mono ?_
     (case side1 => exact ca_ (Kd.R_reads' HO191.out).2.2)
     (case side2 => exact (Kd.R_reads' HO191.out).2.1)
     (case side3 => exact ca_ (Kd.R_reads' HO194.out).2.2)
     (case side4 => exact (Kd.R_reads' HO194.out).2.1)
     (case side5 => exact ca_ (Kd.S_reads' HO197.out).2.2)
     (case side6 => exact (Kd.S_reads' HO197.out).2.1)
     (case side7 => exact ca_ (Kd.R_reads' HO202.out).2.2)
     (case side8 => exact (Kd.R_reads' HO202.out).2.1)
     (case side9 => exact ca_ (Kd.R_reads' HO205.out).2.2)
     (case side10 => exact (Kd.R_reads' HO205.out).2.1)
     (case side11 => exact ca_ (Kd.S_reads' HO208.out).2.2)
     (case side12 => exact (Kd.S_reads' HO208.out).2.1)
     rintro e w80 ⟨rfl, hb⟩
     refine ⟨_, rfl, ?_⟩
     have n0_ := Aside0.mk (Kd.R_below (ra_ HO181.out) hb)
     have n1_ := Aside0.mk (Kd.R_below (ra_ HO184.out) hb)
     have n2_ := Aside0.mk (Kd.S_below (sa_ HO187.out) hb)
     have n3_ := Aside0.mk (Kd.R_below (ra_ HO191.out) hb)
     have n4_ := Aside0.mk (Kd.R_below (ra_ HO194.out) hb)
     have n5_ := Aside0.mk (Kd.S_below (sa_ HO197.out) hb)
     have n6_ := Aside0.mk (Kd.R_below (ra_ HO202.out) hb)
     have n7_ := Aside0.mk (Kd.R_below (ra_ HO205.out) hb)
     have n8_ := Aside0.mk (Kd.S_below (sa_ HO208.out) hb)
     have n9_ := bb_ BK177 hb
     have n10_ := bb_ BK198 hb
     have n11_ := Aside0.mk (below_step hb_ hb)
     clear HO181
     clear HO184
     clear HO187
     clear HO191
     clear HO194
     clear HO197
     clear HO202
     clear HO205
     clear HO208
     clear BK177
     clear BK198
     clear HB
     have HO181 := n0_
     have HO184 := n1_
     have HO187 := n2_
     have HO191 := n3_
     have HO194 := n4_
     have HO197 := n5_
     have HO202 := n6_
     have HO205 := n7_
     have HO208 := n8_
     have BK177 := n9_
     have BK198 := n10_
     have HB := n11_
     clear n0_ n1_ n2_ n3_ n4_ n5_ n6_ n7_ n8_ n9_ n10_ n11_
     (try clear hb)
     (try clear hb2)
     (try clear hk)
     (try clear hi)
     refine hK.out _ _ ⟨(blk_cell BK198.out 0).trans rfl, (blk_cell BK198.out 1).trans rfl, (blk_cell BK198.out 2).trans rfl, (blk_cell BK177.out 0).trans rfl, (blk_cell BK177.out 1).trans rfl, (blk_cell BK177.out 2).trans rfl⟩ (fun hHeld => ?_)
     clear hK K
     refine norm_ (a' := ?_) ?_ ?_
     rotate_left
     ·show Act.put _ (some 25) _ = _
      simp only [Act.put, List.setIfInBounds_toArray, List.set_cons_zero, List.set_cons_succ, i64_w, i32_w]
      rfl
     refine pure_ (i := 4) (N := some 26) (v := ?_) (a' := ?_) #[true, true, true, true, true] rfl rfl (by kernel_rfl) (fun _ _ _ h => h) (Or.inl ⟨by rfl, ?_⟩) ?_ ?_
     rotate_left
     ·intro w'
      go_simp
      with_reducible rfl
     rotate_left
     ·simp only [Act.put, List.setIfInBounds_toArray, List.set_cons_zero, List.set_cons_succ, i64_w, i32_w]
      rfl
     refine done_ (by kernel_rfl) ?_
     try go_wp2
     go_ret
     exact ⟨er_, hb_⟩

end Go.Proofs.YtdihodboopeakaaDoor.Pr
