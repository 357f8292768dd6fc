-- Joined and pruned by wip/tools/prune.py out of this session's own texts (Pr20)
import Derived.Test.YtdihodboopeakaaDoorZwm8
-- Written by this session's own print (wip/tools/mkmp.py) out of the translation. Lean checks it.
namespace Go.Proofs.YtdihodboopeakaaDoor.Pr
open Go.RowKit Go.Proofs.YtdihodboopeakaaDoorW.PrintWords Go.Proofs.YtdihodboopeakaaDoorW.PrintLast Go.Proofs.YtdihodboopeakaaDoorW.PrintMore
attribute [local go_sem] max2_int min2_int max_two min_two max_three min_three max_four min_four   -- for this text's walks alone
set_option linter.unusedVariables false
set_option linter.unusedSimpArgs false

def laws_FnExactWishMet.T10 : Bool × List (List Nat × List Nat) := (true, [([], []), ([0], [0]), ([], []), ([2, 1], [2]), ([], []), ([4, 3], [4]), ([1, 3, 5, 5], [1, 3, 5]), ([6], [6]), ([7], [7]), ([7], [7]), ([8, 6, 0, 1, 2, 3, 4, 5, 6, 7, 8], [8]), ([9, 10, 0, 1, 2, 3, 4, 5, 6, 7, 8, 9, 10], [9])])
def laws_FnExactWishMet.B10 : List Nat := [0, 1, 0, 7, 0, 31, 63, 127, 255, 255, 511, 2047]
theorem laws_FnExactWishMet.tab10 : rtab .any (opsOf Tryd.f8 10) = laws_FnExactWishMet.T10 := by kernel_rfl
theorem laws_FnExactWishMet.bits10 : waitsOk laws_FnExactWishMet.T10.2 laws_FnExactWishMet.B10 = true := by kernel_rfl
set_option maxHeartbeats 8000000 in
set_option maxRecDepth 100000 in
theorem laws_FnExactWishMet.calls (k : Nat) (A0_0 : Option Addr) (c0_0 : Nat) (l0_0 : List ByteArray) (A0_1 : Option Addr) (c0_1 : Nat) (l0_1 : List Bool) (A0_2 : Option Addr) (c0_2 : Nat) (l0_2 : List (List Int)) (A1_0 : Option Addr) (c1_0 : Nat) (l1_0 : List ByteArray) (A1_1 : Option Addr) (c1_1 : Nat) (l1_1 : List ByteArray) (A2 : Option Addr) (c2 : Nat) (l2 : List Int) (r : Bool) (w : World) (hr0_0 : Kd.C Kd.string w A0_0 l0_0.length l0_0) (hc0_0 : l0_0.length ≤ c0_0) (hr0_1 : Kd.C Kd.bool w A0_1 l0_1.length l0_1) (hc0_1 : l0_1.length ≤ c0_1) (hr0_2 : Kd.C (Kd.slice 3 (Kd.int .i64)) w A0_2 l0_2.length l0_2) (hc0_2 : l0_2.length ≤ c0_2) (hr1_0 : Kd.C Kd.string w A1_0 l1_0.length l1_0) (hc1_0 : l1_0.length ≤ c1_0) (hr1_1 : Kd.C Kd.string w A1_1 l1_1.length l1_1) (hc1_1 : l1_1.length ≤ c1_1) (hr2 : Kd.C (Kd.int .i64) w A2 l2.length l2) (hc2 : l2.length ≤ c2) (h : laws_FnExactWishMet.f k l0_0 l0_1 l0_2 l1_0 l1_1 l2 = some r) (ht_ : Tabs w := by exact tb_ HTb_) :
   Calls Tryd.prog 8 #[.agg #[.slice A0_0 l0_0.length c0_0, .slice A0_1 l0_1.length c0_1, .slice A0_2 l0_2.length c0_2], .agg #[.slice A1_0 l1_0.length c1_0, .slice A1_1 l1_1.length c1_1], .slice A2 l2.length c2] w fun e w' => e = .returned (.bool r) ∧ Below w.heap.size w w' := by
  have HTb_ := Aside0.mk ht_
  clear ht_
  have hu26 := Tryd.underlying26
  have hu28 := Tryd.underlying28
  have hu34 := Tryd.underlying34
  have hu36 := Tryd.underlying36
  have HR0_0 := Aside0.mk hr0_0
  have HC0_0 := Aside0.mk hc0_0
  clear hr0_0 hc0_0
  have HR0_1 := Aside0.mk hr0_1
  have HC0_1 := Aside0.mk hc0_1
  clear hr0_1 hc0_1
  have HR0_2 := Aside0.mk hr0_2
  have HC0_2 := Aside0.mk hc0_2
  clear hr0_2 hc0_2
  have HR1_0 := Aside0.mk hr1_0
  have HC1_0 := Aside0.mk hc1_0
  clear hr1_0 hc1_0
  have HR1_1 := Aside0.mk hr1_1
  have HC1_1 := Aside0.mk hc1_1
  clear hr1_1 hc1_1
  have HR2 := Aside0.mk hr2
  have HC2 := Aside0.mk hc2
  clear hr2 hc2
  have HB := Aside0.mk (Below.refl w.heap.size w)
  have H : (if (l2.length : Int) > 1048576 then (some true) else ((laws_szBoard.f k l0_0 l0_1 l0_2 1048576).bind fun t274 => (if t274 < 0 then (some true) else ((laws_szWish.f k l1_0 l1_1 t274).bind fun t275 => (if t275 < 0 then (some true) else ((laws_toBoard.f k l0_0 l0_1 l0_2).bind fun bt276 => ((laws_toWish.f k l1_0 l1_1).bind fun bt285 => ((laws_toIntS.f k l2).bind fun t291 => ((spec_WishMet.f k bt276.1 bt276.2.1 bt276.2.2 bt285.1 bt285.2 t291).bind fun bt294 => ((laws_toBoard.f k l0_0 l0_1 l0_2).bind fun bt296 => ((laws_toWish.f k l1_0 l1_1).bind fun bt306 => ((laws_toIntS.f k l2).bind fun t313 => ((impl_WishMet.f k bt296.1 bt296.2.1 bt296.2.2 bt306.1 bt306.2 t313).bind fun bt316 => (if (bt316.1 != bt294.1) = true then (laws_FnExactWishMet.j0 k l2 t313 true l0_0 l0_1 l0_2 l1_0 l1_1 bt296.1 bt296.2.1 bt296.2.2 bt306.1 bt306.2) else (laws_FnExactWishMet.j0 k l2 t313 (bt316.2 != bt294.2) l0_0 l0_1 l0_2 l1_0 l1_1 bt296.1 bt296.2.1 bt296.2.2 bt306.1 bt306.2))))))))))))))) = some r := h
  clear h
  by_cases c4 : (l2.length : Int) > 1048576
  ·rw [if_pos c4] at H
   have c4b0 : decide (1048576 < (l2.length : Int)) = true := decide_eq_true c4
   have c4b1 : decide (1048576 < l2.length) = true := decide_eq_true (by omega)
   clear c4
   obtain rfl := Option.some.inj H
   go_enter Tryd.func8, Tryd.ntmps8
   go_wp2_with (first | ((with_reducible refine gate_dst (N := 3) rfl ?_); refine box_event ?hg (N := 3) ?hd (cs := #[.slice A0_0 l0_0.length c0_0, .slice A0_1 l0_1.length c0_1, .slice A0_2 l0_2.length c0_2]) (t := 26) ?hr ?_; (case hd => rfl); (case hg => rfl); (case hr => first | (go_simp; done) | (go_simp; rfl)); intro gb272 hg w5 hbox hb; have n0_ := Aside0.mk (below_step hb_ hb); have n1_ := Aside0.mk (hbox); have n2_ : Aside0 (w.heap.size ≤ gb272) := gz_; have n3_ : Aside0 (w.heap.size ≤ gb272) := gz_; clear HB; have HB := n0_; have BK272 := n1_; have GW272 := n2_; have GE272 := n3_; clear n0_ n1_ n2_ n3_; clear hb hbox hg) | ((with_reducible refine gate_dst (N := 4) rfl ?_); refine box_event ?hg (N := 4) ?hd (cs := #[.slice A1_0 l1_0.length c1_0, .slice A1_1 l1_1.length c1_1]) (t := 28) ?hr ?_; (case hd => rfl); (case hg => rfl); (case hr => first | (go_simp; done) | (go_simp; rfl)); intro gb273 hg w6 hbox hb; have n0_ := bb_ BK272 hb; have n1_ := Aside0.mk (below_step hb_ hb); have n2_ := Aside0.mk (hbox); have n3_ : Aside0 (w.heap.size ≤ gb273) := gz_; have n4_ : Aside0 (w.heap.size ≤ gb273) := gz_; have n5_ := Aside0.mk ((by rw [hg]; exact Nat.ne_of_lt (blk_lt (g := gb272) (o := .cells #[.slice A0_0 l0_0.length c0_0, .slice A0_1 l0_1.length c0_1, .slice A0_2 l0_2.length c0_2] 26 (0, 0)) (bk_ BK272.out)) : gb272 ≠ gb273)); have n6_ := Aside0.mk ((by rw [hg]; exact Nat.ne_of_gt (blk_lt (g := gb272) (o := .cells #[.slice A0_0 l0_0.length c0_0, .slice A0_1 l0_1.length c0_1, .slice A0_2 l0_2.length c0_2] 26 (0, 0)) (bk_ BK272.out)) : gb273 ≠ gb272)); clear BK272; clear HB; have BK272 := n0_; have HB := n1_; have BK273 := n2_; have GW273 := n3_; have GE273 := n4_; have NB272_273 := n5_; have NB273_272 := n6_; clear n0_ n1_ n2_ n3_ n4_ n5_ n6_; clear hb hbox hg))
   go_ret
   exact ⟨er_, hb_⟩
  ·rw [if_neg c4] at H
   have c4b0 : decide (1048576 < (l2.length : Int)) = false := decide_eq_false c4
   have c4b1 : decide (1048576 < l2.length) = false := decide_eq_false (by omega)
   clear c4
   replace H := Option.bind_eq_some_iff.mp H
   obtain ⟨t274, A70, H⟩ := H
   replace H : (if t274 < 0 then (some true) else ((laws_szWish.f k l1_0 l1_1 t274).bind fun t275 => (if t275 < 0 then (some true) else ((laws_toBoard.f k l0_0 l0_1 l0_2).bind fun bt276 => ((laws_toWish.f k l1_0 l1_1).bind fun bt285 => ((laws_toIntS.f k l2).bind fun t291 => ((spec_WishMet.f k bt276.1 bt276.2.1 bt276.2.2 bt285.1 bt285.2 t291).bind fun bt294 => ((laws_toBoard.f k l0_0 l0_1 l0_2).bind fun bt296 => ((laws_toWish.f k l1_0 l1_1).bind fun bt306 => ((laws_toIntS.f k l2).bind fun t313 => ((impl_WishMet.f k bt296.1 bt296.2.1 bt296.2.2 bt306.1 bt306.2 t313).bind fun bt316 => (if (bt316.1 != bt294.1) = true then (laws_FnExactWishMet.j0 k l2 t313 true l0_0 l0_1 l0_2 l1_0 l1_1 bt296.1 bt296.2.1 bt296.2.2 bt306.1 bt306.2) else (laws_FnExactWishMet.j0 k l2 t313 (bt316.2 != bt294.2) l0_0 l0_1 l0_2 l1_0 l1_1 bt296.1 bt296.2.1 bt296.2.2 bt306.1 bt306.2))))))))))))) = some r := H
   have A7 := Aside0.mk A70
   clear A70
   by_cases c8 : t274 < 0
   ·rw [if_pos c8] at H
    have c8b0 : decide (t274 < 0) = true := decide_eq_true c8
    clear c8
    obtain rfl := Option.some.inj H
    go_enter Tryd.func8, Tryd.ntmps8
    go_wp2_with (first | ((with_reducible refine gate_dst (N := 3) rfl ?_); refine box_event ?hg (N := 3) ?hd (cs := #[.slice A0_0 l0_0.length c0_0, .slice A0_1 l0_1.length c0_1, .slice A0_2 l0_2.length c0_2]) (t := 26) ?hr ?_; (case hd => rfl); (case hg => rfl); (case hr => first | (go_simp; done) | (go_simp; rfl)); intro gb272 hg w9 hbox hb; have n0_ := Aside0.mk (below_step hb_ hb); have n1_ := Aside0.mk (hbox); have n2_ : Aside0 (w.heap.size ≤ gb272) := gz_; have n3_ : Aside0 (w.heap.size ≤ gb272) := gz_; clear HB; have HB := n0_; have BK272 := n1_; have GW272 := n2_; have GE272 := n3_; clear n0_ n1_ n2_ n3_; clear hb hbox hg) | ((with_reducible refine gate_dst (N := 4) rfl ?_); refine box_event ?hg (N := 4) ?hd (cs := #[.slice A1_0 l1_0.length c1_0, .slice A1_1 l1_1.length c1_1]) (t := 28) ?hr ?_; (case hd => rfl); (case hg => rfl); (case hr => first | (go_simp; done) | (go_simp; rfl)); intro gb273 hg w10 hbox hb; have n0_ := bb_ BK272 hb; have n1_ := Aside0.mk (below_step hb_ hb); have n2_ := Aside0.mk (hbox); have n3_ : Aside0 (w.heap.size ≤ gb273) := gz_; have n4_ : Aside0 (w.heap.size ≤ gb273) := gz_; have n5_ := Aside0.mk ((by rw [hg]; exact Nat.ne_of_lt (blk_lt (g := gb272) (o := .cells #[.slice A0_0 l0_0.length c0_0, .slice A0_1 l0_1.length c0_1, .slice A0_2 l0_2.length c0_2] 26 (0, 0)) (bk_ BK272.out)) : gb272 ≠ gb273)); have n6_ := Aside0.mk ((by rw [hg]; exact Nat.ne_of_gt (blk_lt (g := gb272) (o := .cells #[.slice A0_0 l0_0.length c0_0, .slice A0_1 l0_1.length c0_1, .slice A0_2 l0_2.length c0_2] 26 (0, 0)) (bk_ BK272.out)) : gb273 ≠ gb272)); clear BK272; clear HB; have BK272 := n0_; have HB := n1_; have BK273 := n2_; have GW273 := n3_; have GE273 := n4_; have NB272_273 := n5_; have NB273_272 := n6_; clear n0_ n1_ n2_ n3_ n4_ n5_ n6_; clear hb hbox hg; have hnb11 := NB272_273.out; have hnc11 := NB273_272.out; have hcz12_0 : w10.cell? ⟨gb272, 0, none⟩ = some (.slice A0_0 l0_0.length c0_0) := (blk_cell BK272.out 0).trans rfl; have hcz12_1 : w10.cell? ⟨gb272, 1, none⟩ = some (.slice A0_1 l0_1.length c0_1) := (blk_cell BK272.out 1).trans rfl; have hcz12_2 : w10.cell? ⟨gb272, 2, none⟩ = some (.slice A0_2 l0_2.length c0_2) := (blk_cell BK272.out 2).trans rfl; have hfz12_0 := blk_frozen BK272.out 0; have hfz12_1 := blk_frozen BK272.out 1; have hfz12_2 := blk_frozen BK272.out 2) | ((with_reducible refine gate_callee (f := 12) rfl ?_); refine goesL_ (some 20) rfl rfl Tryd.func12 (by kernel_rfl) rfl #[.agg #[.slice A0_0 l0_0.length c0_0, .slice A0_1 l0_1.length c0_1, .slice A0_2 l0_2.length c0_2], .int .i64 1048576] rfl ls_ ?_; (with_reducible refine (laws_szBoard.calls k _ _ l0_0 _ _ l0_1 _ _ l0_2 1048576 t274 _ ?side1 ?side2 ?side3 ?side4 ?side5 ?side6 A7.out).mono ?_); (case side1 => exact cb_ HR0_0.out); (case side2 => exact HC0_0.out); (case side3 => exact cb_ HR0_1.out); (case side4 => exact HC0_1.out); (case side5 => exact cb_ HR0_2.out); (case side6 => exact HC0_2.out); rintro e w13 ⟨rfl, hb⟩; refine ⟨_, rfl, ?_⟩; have n0_ := bb_ BK272 hb; have n1_ := bb_ BK273 hb; have n2_ := Aside0.mk (below_step hb_ hb); clear BK272; clear BK273; clear HB; have BK272 := n0_; have BK273 := n1_; have HB := n2_; clear n0_ n1_ n2_; (try clear hb); (try clear hb2); (try clear hk); (try clear hi)))
    go_ret
    exact ⟨er_, hb_⟩
   ·rw [if_neg c8] at H
    have c8b0 : decide (t274 < 0) = false := decide_eq_false c8
    clear c8
    replace H := Option.bind_eq_some_iff.mp H
    obtain ⟨t275, A140, H⟩ := H
    replace H : (if t275 < 0 then (some true) else ((laws_toBoard.f k l0_0 l0_1 l0_2).bind fun bt276 => ((laws_toWish.f k l1_0 l1_1).bind fun bt285 => ((laws_toIntS.f k l2).bind fun t291 => ((spec_WishMet.f k bt276.1 bt276.2.1 bt276.2.2 bt285.1 bt285.2 t291).bind fun bt294 => ((laws_toBoard.f k l0_0 l0_1 l0_2).bind fun bt296 => ((laws_toWish.f k l1_0 l1_1).bind fun bt306 => ((laws_toIntS.f k l2).bind fun t313 => ((impl_WishMet.f k bt296.1 bt296.2.1 bt296.2.2 bt306.1 bt306.2 t313).bind fun bt316 => (if (bt316.1 != bt294.1) = true then (laws_FnExactWishMet.j0 k l2 t313 true l0_0 l0_1 l0_2 l1_0 l1_1 bt296.1 bt296.2.1 bt296.2.2 bt306.1 bt306.2) else (laws_FnExactWishMet.j0 k l2 t313 (bt316.2 != bt294.2) l0_0 l0_1 l0_2 l1_0 l1_1 bt296.1 bt296.2.1 bt296.2.2 bt306.1 bt306.2))))))))))) = some r := H
    have A14 := Aside0.mk A140
    clear A140
    by_cases c15 : t275 < 0
    ·rw [if_pos c15] at H
     have c15b0 : decide (t275 < 0) = true := decide_eq_true c15
     clear c15
     obtain rfl := Option.some.inj H
     go_enter Tryd.func8, Tryd.ntmps8
     go_wp2_with (first | ((with_reducible refine gate_dst (N := 3) rfl ?_); refine box_event ?hg (N := 3) ?hd (cs := #[.slice A0_0 l0_0.length c0_0, .slice A0_1 l0_1.length c0_1, .slice A0_2 l0_2.length c0_2]) (t := 26) ?hr ?_; (case hd => rfl); (case hg => rfl); (case hr => first | (go_simp; done) | (go_simp; rfl)); intro gb272 hg w16 hbox hb; have n0_ := Aside0.mk (below_step hb_ hb); have n1_ := Aside0.mk (hbox); have n2_ : Aside0 (w.heap.size ≤ gb272) := gz_; have n3_ : Aside0 (w.heap.size ≤ gb272) := gz_; clear HB; have HB := n0_; have BK272 := n1_; have GW272 := n2_; have GE272 := n3_; clear n0_ n1_ n2_ n3_; clear hb hbox hg) | ((with_reducible refine gate_dst (N := 4) rfl ?_); refine box_event ?hg (N := 4) ?hd (cs := #[.slice A1_0 l1_0.length c1_0, .slice A1_1 l1_1.length c1_1]) (t := 28) ?hr ?_; (case hd => rfl); (case hg => rfl); (case hr => first | (go_simp; done) | (go_simp; rfl)); intro gb273 hg w17 hbox hb; have n0_ := bb_ BK272 hb; have n1_ := Aside0.mk (below_step hb_ hb); have n2_ := Aside0.mk (hbox); have n3_ : Aside0 (w.heap.size ≤ gb273) := gz_; have n4_ : Aside0 (w.heap.size ≤ gb273) := gz_; have n5_ := Aside0.mk ((by rw [hg]; exact Nat.ne_of_lt (blk_lt (g := gb272) (o := .cells #[.slice A0_0 l0_0.length c0_0, .slice A0_1 l0_1.length c0_1, .slice A0_2 l0_2.length c0_2] 26 (0, 0)) (bk_ BK272.out)) : gb272 ≠ gb273)); have n6_ := Aside0.mk ((by rw [hg]; exact Nat.ne_of_gt (blk_lt (g := gb272) (o := .cells #[.slice A0_0 l0_0.length c0_0, .slice A0_1 l0_1.length c0_1, .slice A0_2 l0_2.length c0_2] 26 (0, 0)) (bk_ BK272.out)) : gb273 ≠ gb272)); clear BK272; clear HB; have BK272 := n0_; have HB := n1_; have BK273 := n2_; have GW273 := n3_; have GE273 := n4_; have NB272_273 := n5_; have NB273_272 := n6_; clear n0_ n1_ n2_ n3_ n4_ n5_ n6_; clear hb hbox hg; have hnb18 := NB272_273.out; have hnc18 := NB273_272.out; have hcz19_0 : w17.cell? ⟨gb272, 0, none⟩ = some (.slice A0_0 l0_0.length c0_0) := (blk_cell BK272.out 0).trans rfl; have hcz19_1 : w17.cell? ⟨gb272, 1, none⟩ = some (.slice A0_1 l0_1.length c0_1) := (blk_cell BK272.out 1).trans rfl; have hcz19_2 : w17.cell? ⟨gb272, 2, none⟩ = some (.slice A0_2 l0_2.length c0_2) := (blk_cell BK272.out 2).trans rfl; have hfz19_0 := blk_frozen BK272.out 0; have hfz19_1 := blk_frozen BK272.out 1; have hfz19_2 := blk_frozen BK272.out 2) | ((with_reducible refine gate_callee (f := 12) rfl ?_); refine goesL_ (some 20) rfl rfl Tryd.func12 (by kernel_rfl) rfl #[.agg #[.slice A0_0 l0_0.length c0_0, .slice A0_1 l0_1.length c0_1, .slice A0_2 l0_2.length c0_2], .int .i64 1048576] rfl ls_ ?_; (with_reducible refine (laws_szBoard.calls k _ _ l0_0 _ _ l0_1 _ _ l0_2 1048576 t274 _ ?side1 ?side2 ?side3 ?side4 ?side5 ?side6 A7.out).mono ?_); (case side1 => exact cb_ HR0_0.out); (case side2 => exact HC0_0.out); (case side3 => exact cb_ HR0_1.out); (case side4 => exact HC0_1.out); (case side5 => exact cb_ HR0_2.out); (case side6 => exact HC0_2.out); rintro e w20 ⟨rfl, hb⟩; refine ⟨_, rfl, ?_⟩; have n0_ := bb_ BK272 hb; have n1_ := bb_ BK273 hb; have n2_ := Aside0.mk (below_step hb_ hb); clear BK272; clear BK273; clear HB; have BK272 := n0_; have BK273 := n1_; have HB := n2_; clear n0_ n1_ n2_; (try clear hb); (try clear hb2); (try clear hk); (try clear hi); have hcz21_0 : w20.cell? ⟨gb273, 0, none⟩ = some (.slice A1_0 l1_0.length c1_0) := (blk_cell BK273.out 0).trans rfl; have hcz21_1 : w20.cell? ⟨gb273, 1, none⟩ = some (.slice A1_1 l1_1.length c1_1) := (blk_cell BK273.out 1).trans rfl; have hfz21_0 := blk_frozen BK273.out 0; have hfz21_1 := blk_frozen BK273.out 1) | ((with_reducible refine gate_callee (f := 13) rfl ?_); refine goesL_ (some 25) rfl rfl Tryd.func13 (by kernel_rfl) rfl #[.agg #[.slice A1_0 l1_0.length c1_0, .slice A1_1 l1_1.length c1_1], .int .i64 t274] rfl ls_ ?_; (with_reducible refine (laws_szWish.calls k _ _ l1_0 _ _ l1_1 t274 t275 _ ?side1 ?side2 ?side3 ?side4 A14.out).mono ?_); (case side1 => exact cb_ HR1_0.out); (case side2 => exact HC1_0.out); (case side3 => exact cb_ HR1_1.out); (case side4 => exact HC1_1.out); rintro e w22 ⟨rfl, hb⟩; refine ⟨_, rfl, ?_⟩; have n0_ := bb_ BK272 hb; have n1_ := bb_ BK273 hb; have n2_ := Aside0.mk (below_step hb_ hb); clear BK272; clear BK273; clear HB; have BK272 := n0_; have BK273 := n1_; have HB := n2_; clear n0_ n1_ n2_; (try clear hb); (try clear hb2); (try clear hk); (try clear hi)))
     go_ret
     exact ⟨er_, hb_⟩
    ·rw [if_neg c15] at H
     have c15b0 : decide (t275 < 0) = false := decide_eq_false c15
     clear c15
     replace H := Option.bind_eq_some_iff.mp H
     obtain ⟨⟨t276, t279, t282⟩, A230, H⟩ := H
     replace H : ((laws_toWish.f k l1_0 l1_1).bind fun bt285 => ((laws_toIntS.f k l2).bind fun t291 => ((spec_WishMet.f k t276 t279 t282 bt285.1 bt285.2 t291).bind fun bt294 => ((laws_toBoard.f k l0_0 l0_1 l0_2).bind fun bt296 => ((laws_toWish.f k l1_0 l1_1).bind fun bt306 => ((laws_toIntS.f k l2).bind fun t313 => ((impl_WishMet.f k bt296.1 bt296.2.1 bt296.2.2 bt306.1 bt306.2 t313).bind fun bt316 => (if (bt316.1 != bt294.1) = true then (laws_FnExactWishMet.j0 k l2 t313 true l0_0 l0_1 l0_2 l1_0 l1_1 bt296.1 bt296.2.1 bt296.2.2 bt306.1 bt306.2) else (laws_FnExactWishMet.j0 k l2 t313 (bt316.2 != bt294.2) l0_0 l0_1 l0_2 l1_0 l1_1 bt296.1 bt296.2.1 bt296.2.2 bt306.1 bt306.2))))))))) = some r := H
     have A23 := Aside0.mk A230
     clear A230
     replace H := Option.bind_eq_some_iff.mp H
     obtain ⟨⟨t285, t288⟩, A240, H⟩ := H
     replace H : ((laws_toIntS.f k l2).bind fun t291 => ((spec_WishMet.f k t276 t279 t282 t285 t288 t291).bind fun bt294 => ((laws_toBoard.f k l0_0 l0_1 l0_2).bind fun bt296 => ((laws_toWish.f k l1_0 l1_1).bind fun bt306 => ((laws_toIntS.f k l2).bind fun t313 => ((impl_WishMet.f k bt296.1 bt296.2.1 bt296.2.2 bt306.1 bt306.2 t313).bind fun bt316 => (if (bt316.1 != bt294.1) = true then (laws_FnExactWishMet.j0 k l2 t313 true l0_0 l0_1 l0_2 l1_0 l1_1 bt296.1 bt296.2.1 bt296.2.2 bt306.1 bt306.2) else (laws_FnExactWishMet.j0 k l2 t313 (bt316.2 != bt294.2) l0_0 l0_1 l0_2 l1_0 l1_1 bt296.1 bt296.2.1 bt296.2.2 bt306.1 bt306.2)))))))) = some r := H
     have A24 := Aside0.mk A240
     clear A240
     replace H := Option.bind_eq_some_iff.mp H
     obtain ⟨t291, A250, H⟩ := H
     replace H : ((spec_WishMet.f k t276 t279 t282 t285 t288 t291).bind fun bt294 => ((laws_toBoard.f k l0_0 l0_1 l0_2).bind fun bt296 => ((laws_toWish.f k l1_0 l1_1).bind fun bt306 => ((laws_toIntS.f k l2).bind fun t313 => ((impl_WishMet.f k bt296.1 bt296.2.1 bt296.2.2 bt306.1 bt306.2 t313).bind fun bt316 => (if (bt316.1 != bt294.1) = true then (laws_FnExactWishMet.j0 k l2 t313 true l0_0 l0_1 l0_2 l1_0 l1_1 bt296.1 bt296.2.1 bt296.2.2 bt306.1 bt306.2) else (laws_FnExactWishMet.j0 k l2 t313 (bt316.2 != bt294.2) l0_0 l0_1 l0_2 l1_0 l1_1 bt296.1 bt296.2.1 bt296.2.2 bt306.1 bt306.2))))))) = some r := H
     have A25 := Aside0.mk A250
     clear A250
     replace H := Option.bind_eq_some_iff.mp H
     obtain ⟨⟨t294, t295⟩, A260, H⟩ := H
     replace H : ((laws_toBoard.f k l0_0 l0_1 l0_2).bind fun bt296 => ((laws_toWish.f k l1_0 l1_1).bind fun bt306 => ((laws_toIntS.f k l2).bind fun t313 => ((impl_WishMet.f k bt296.1 bt296.2.1 bt296.2.2 bt306.1 bt306.2 t313).bind fun bt316 => (if (bt316.1 != t294) = true then (laws_FnExactWishMet.j0 k l2 t313 true l0_0 l0_1 l0_2 l1_0 l1_1 bt296.1 bt296.2.1 bt296.2.2 bt306.1 bt306.2) else (laws_FnExactWishMet.j0 k l2 t313 (bt316.2 != t295) l0_0 l0_1 l0_2 l1_0 l1_1 bt296.1 bt296.2.1 bt296.2.2 bt306.1 bt306.2)))))) = some r := H
     have A26 := Aside0.mk A260
     clear A260
     replace H := Option.bind_eq_some_iff.mp H
     obtain ⟨⟨t296, t299, t302⟩, A270, H⟩ := H
     replace H : ((laws_toWish.f k l1_0 l1_1).bind fun bt306 => ((laws_toIntS.f k l2).bind fun t313 => ((impl_WishMet.f k t296 t299 t302 bt306.1 bt306.2 t313).bind fun bt316 => (if (bt316.1 != t294) = true then (laws_FnExactWishMet.j0 k l2 t313 true l0_0 l0_1 l0_2 l1_0 l1_1 t296 t299 t302 bt306.1 bt306.2) else (laws_FnExactWishMet.j0 k l2 t313 (bt316.2 != t295) l0_0 l0_1 l0_2 l1_0 l1_1 t296 t299 t302 bt306.1 bt306.2))))) = some r := H
     have A27 := Aside0.mk A270
     clear A270
     replace H := Option.bind_eq_some_iff.mp H
     obtain ⟨⟨t306, t309⟩, A280, H⟩ := H
     replace H : ((laws_toIntS.f k l2).bind fun t313 => ((impl_WishMet.f k t296 t299 t302 t306 t309 t313).bind fun bt316 => (if (bt316.1 != t294) = true then (laws_FnExactWishMet.j0 k l2 t313 true l0_0 l0_1 l0_2 l1_0 l1_1 t296 t299 t302 t306 t309) else (laws_FnExactWishMet.j0 k l2 t313 (bt316.2 != t295) l0_0 l0_1 l0_2 l1_0 l1_1 t296 t299 t302 t306 t309)))) = some r := H
     have A28 := Aside0.mk A280
     clear A280
     replace H := Option.bind_eq_some_iff.mp H
     obtain ⟨t313, A290, H⟩ := H
     replace H : ((impl_WishMet.f k t296 t299 t302 t306 t309 t313).bind fun bt316 => (if (bt316.1 != t294) = true then (laws_FnExactWishMet.j0 k l2 t313 true l0_0 l0_1 l0_2 l1_0 l1_1 t296 t299 t302 t306 t309) else (laws_FnExactWishMet.j0 k l2 t313 (bt316.2 != t295) l0_0 l0_1 l0_2 l1_0 l1_1 t296 t299 t302 t306 t309))) = some r := H
     have A29 := Aside0.mk A290
     clear A290
     replace H := Option.bind_eq_some_iff.mp H
     obtain ⟨⟨t316, t317⟩, A300, H⟩ := H
     replace H : (if (t316 != t294) = true then (laws_FnExactWishMet.j0 k l2 t313 true l0_0 l0_1 l0_2 l1_0 l1_1 t296 t299 t302 t306 t309) else (laws_FnExactWishMet.j0 k l2 t313 (t317 != t295) l0_0 l0_1 l0_2 l1_0 l1_1 t296 t299 t302 t306 t309)) = some r := H
     have A30 := Aside0.mk A300
     clear A300
     have HC31 := Aside0.mk H
     clear H
     go_enter Tryd.func8, Tryd.ntmps8
     try go_wp2_with (first | ((with_reducible refine gate_dst (N := 3) rfl ?_); refine box_event ?hg (N := 3) ?hd (cs := #[.slice A0_0 l0_0.length c0_0, .slice A0_1 l0_1.length c0_1, .slice A0_2 l0_2.length c0_2]) (t := 26) ?hr ?_; (case hd => rfl); (case hg => rfl); (case hr => first | (go_simp; done) | (go_simp; rfl)); intro gb272 hg w32 hbox hb; have n0_ := Aside0.mk (below_step hb_ hb); have n1_ := Aside0.mk (hbox); have n2_ : Aside0 (w.heap.size ≤ gb272) := gz_; have n3_ : Aside0 (w.heap.size ≤ gb272) := gz_; clear HB; have HB := n0_; have BK272 := n1_; have GW272 := n2_; have GE272 := n3_; clear n0_ n1_ n2_ n3_; clear hb hbox hg) | ((with_reducible refine gate_dst (N := 4) rfl ?_); refine box_event ?hg (N := 4) ?hd (cs := #[.slice A1_0 l1_0.length c1_0, .slice A1_1 l1_1.length c1_1]) (t := 28) ?hr ?_; (case hd => rfl); (case hg => rfl); (case hr => first | (go_simp; done) | (go_simp; rfl)); intro gb273 hg w33 hbox hb; have n0_ := bb_ BK272 hb; have n1_ := Aside0.mk (below_step hb_ hb); have n2_ := Aside0.mk (hbox); have n3_ : Aside0 (w.heap.size ≤ gb273) := gz_; have n4_ : Aside0 (w.heap.size ≤ gb273) := gz_; have n5_ := Aside0.mk ((by rw [hg]; exact Nat.ne_of_lt (blk_lt (g := gb272) (o := .cells #[.slice A0_0 l0_0.length c0_0, .slice A0_1 l0_1.length c0_1, .slice A0_2 l0_2.length c0_2] 26 (0, 0)) (bk_ BK272.out)) : gb272 ≠ gb273)); have n6_ := Aside0.mk ((by rw [hg]; exact Nat.ne_of_gt (blk_lt (g := gb272) (o := .cells #[.slice A0_0 l0_0.length c0_0, .slice A0_1 l0_1.length c0_1, .slice A0_2 l0_2.length c0_2] 26 (0, 0)) (bk_ BK272.out)) : gb273 ≠ gb272)); clear BK272; clear HB; have BK272 := n0_; have HB := n1_; have BK273 := n2_; have GW273 := n3_; have GE273 := n4_; have NB272_273 := n5_; have NB273_272 := n6_; clear n0_ n1_ n2_ n3_ n4_ n5_ n6_; clear hb hbox hg; have hnb34 := NB272_273.out; have hnc34 := NB273_272.out; have hcz35_0 : w33.cell? ⟨gb272, 0, none⟩ = some (.slice A0_0 l0_0.length c0_0) := (blk_cell BK272.out 0).trans rfl; have hcz35_1 : w33.cell? ⟨gb272, 1, none⟩ = some (.slice A0_1 l0_1.length c0_1) := (blk_cell BK272.out 1).trans rfl; have hcz35_2 : w33.cell? ⟨gb272, 2, none⟩ = some (.slice A0_2 l0_2.length c0_2) := (blk_cell BK272.out 2).trans rfl; have hfz35_0 := blk_frozen BK272.out 0; have hfz35_1 := blk_frozen BK272.out 1; have hfz35_2 := blk_frozen BK272.out 2) | ((with_reducible refine gate_callee (f := 12) rfl ?_); refine goesL_ (some 20) rfl rfl Tryd.func12 (by kernel_rfl) rfl #[.agg #[.slice A0_0 l0_0.length c0_0, .slice A0_1 l0_1.length c0_1, .slice A0_2 l0_2.length c0_2], .int .i64 1048576] rfl ls_ ?_; (with_reducible refine (laws_szBoard.calls k _ _ l0_0 _ _ l0_1 _ _ l0_2 1048576 t274 _ ?side1 ?side2 ?side3 ?side4 ?side5 ?side6 A7.out).mono ?_); (case side1 => exact cb_ HR0_0.out); (case side2 => exact HC0_0.out); (case side3 => exact cb_ HR0_1.out); (case side4 => exact HC0_1.out); (case side5 => exact cb_ HR0_2.out); (case side6 => exact HC0_2.out); rintro e w36 ⟨rfl, hb⟩; refine ⟨_, rfl, ?_⟩; have n0_ := bb_ BK272 hb; have n1_ := bb_ BK273 hb; have n2_ := Aside0.mk (below_step hb_ hb); clear BK272; clear BK273; clear HB; have BK272 := n0_; have BK273 := n1_; have HB := n2_; clear n0_ n1_ n2_; (try clear hb); (try clear hb2); (try clear hk); (try clear hi); have hcz37_0 : w36.cell? ⟨gb273, 0, none⟩ = some (.slice A1_0 l1_0.length c1_0) := (blk_cell BK273.out 0).trans rfl; have hcz37_1 : w36.cell? ⟨gb273, 1, none⟩ = some (.slice A1_1 l1_1.length c1_1) := (blk_cell BK273.out 1).trans rfl; have hfz37_0 := blk_frozen BK273.out 0; have hfz37_1 := blk_frozen BK273.out 1) | ((with_reducible refine gate_callee (f := 13) rfl ?_); refine goesL_ (some 25) rfl rfl Tryd.func13 (by kernel_rfl) rfl #[.agg #[.slice A1_0 l1_0.length c1_0, .slice A1_1 l1_1.length c1_1], .int .i64 t274] rfl ls_ ?_; (with_reducible refine (laws_szWish.calls k _ _ l1_0 _ _ l1_1 t274 t275 _ ?side1 ?side2 ?side3 ?side4 A14.out).mono ?_); (case side1 => exact cb_ HR1_0.out); (case side2 => exact HC1_0.out); (case side3 => exact cb_ HR1_1.out); (case side4 => exact HC1_1.out); rintro e w38 ⟨rfl, hb⟩; refine ⟨_, rfl, ?_⟩; have n0_ := bb_ BK272 hb; have n1_ := bb_ BK273 hb; have n2_ := Aside0.mk (below_step hb_ hb); clear BK272; clear BK273; clear HB; have BK272 := n0_; have BK273 := n1_; have HB := n2_; clear n0_ n1_ n2_; (try clear hb); (try clear hb2); (try clear hk); (try clear hi)))
     have n0_ := Aside0.mk (blk_drew BK272.out)
     have n1_ := Aside0.mk (blk_drew BK273.out)
     have n2_ := Aside0.mk (below_drew1 HB.out)
     clear BK272
     clear BK273
     clear HB
     have BK272 := n0_
     have BK273 := n1_
     have HB := n2_
     clear n0_ n1_ n2_
     refine start_ (n := 12) (S := fun w' => w'.cell? ⟨gb272, 0, none⟩ = some (.slice A0_0 l0_0.length c0_0) ∧ w'.cell? ⟨gb272, 1, none⟩ = some (.slice A0_1 l0_1.length c0_1) ∧ w'.cell? ⟨gb272, 2, none⟩ = some (.slice A0_2 l0_2.length c0_2) ∧ w'.cell? ⟨gb273, 0, none⟩ = some (.slice A1_0 l1_0.length c1_0) ∧ w'.cell? ⟨gb273, 1, none⟩ = some (.slice A1_1 l1_1.length c1_1)) (ds := []) #[false, false, false, false, false, false, false, false, false, false, false, false] (by kernel_rfl) rfl rfl ⟨(blk_cell BK272.out 0).trans rfl, (blk_cell BK272.out 1).trans rfl, (blk_cell BK272.out 2).trans rfl, (blk_cell BK273.out 0).trans rfl, (blk_cell BK273.out 1).trans rfl⟩ (fun hHeld => ?_); refine with_tabW laws_FnExactWishMet.tab10 laws_FnExactWishMet.bits10 (fun HT_ HW_ => ?_)
     generalize w38.drew = w39 at BK272 BK273 HB hHeld ⊢
     refine pure_ (i := 4) (N := some 33) (v := ?_) (a' := ?_) #[false, false, false, false, true, false, false, false, false, false, false, false] rfl rfl (any_of HT_.out (by kernel_rfl)) (fun _ _ _ h => h) (Or.inl ⟨by rfl, ?_⟩) ?_ ?_
     rotate_left
     ·intro w'
      go_simp
      with_reducible rfl
     rotate_left
     ·simp only [Act.put, List.setIfInBounds_toArray, List.set_cons_zero, List.set_cons_succ, i64_w, i32_w]
      rfl
     refine take_ (i := 0) (N := some 29) (v := ?_) (a' := ?_) #[true, false, false, false, true, false, false, false, false, false, false, false] rfl rfl (take_ofW HT_.out HW_.out (by kernel_rfl)) (fun _ _ _ h => h) (Or.inl ⟨by rfl, ?_⟩) hHeld ?_ ?_
     rotate_left
     ·rintro w' ⟨s0, s1, s2, s3, s4⟩
      go_simp
      with_reducible rfl
     rotate_left
     ·simp only [Act.put, List.setIfInBounds_toArray, List.set_cons_zero, List.set_cons_succ, i64_w, i32_w]
      rfl
     refine take_ (i := 2) (N := some 31) (v := ?_) (a' := ?_) #[true, false, true, false, true, false, false, false, false, false, false, false] rfl rfl (take_ofW HT_.out HW_.out (by kernel_rfl)) (fun _ _ _ h => h) (Or.inl ⟨by rfl, ?_⟩) hHeld ?_ ?_
     rotate_left
     ·rintro w' ⟨s0, s1, s2, s3, s4⟩
      go_simp
      with_reducible rfl
     rotate_left
     ·simp only [Act.put, List.setIfInBounds_toArray, List.set_cons_zero, List.set_cons_succ, i64_w, i32_w]
      rfl
     refine one_ (i := 1) (N := some 30) #[true, true, true, false, true, false, false, false, false, false, false, false] rfl rfl (one_of HT_.out (by kernel_rfl)) (by decide) (fun K hK => ?_)
     refine goes_ Tryd.func15 (by kernel_rfl) rfl #[.agg #[.slice A0_0 l0_0.length c0_0, .slice A0_1 l0_1.length c0_1, .slice A0_2 l0_2.length c0_2]] (by rfl) rfl rfl ls_ ?_
     with_reducible refine (laws_toBoard.calls k _ _ l0_0 _ _ l0_1 _ _ l0_2 t276 t279 t282 _ ?side1 ?side2 ?side3 ?side4 ?side5 ?side6 A23.out).mono ?_
     (case side1 => exact cb_ HR0_0.out)
     (case side2 => exact HC0_0.out)
     (case side3 => exact cb_ HR0_1.out)
     (case side4 => exact HC0_1.out)
     (case side5 => exact cb_ HR0_2.out)
     (case side6 => exact HC0_2.out)
     rintro e w40 ⟨v277, v280, v283, rfl, ho0, ho1, ho2, hb⟩
     refine ⟨_, rfl, ?_⟩
     have n0_ := Aside0.mk (Kd.R_lower ho0 (below_size hb_))
     have n1_ := Aside0.mk (Kd.R_lower ho1 (below_size hb_))
     have n2_ := Aside0.mk (Kd.S_lower ho2 (below_size hb_))
     have n3_ := bb_ BK272 hb
     have n4_ := bb_ BK273 hb
     have n5_ := Aside0.mk (below_step hb_ hb)
     clear BK272
     clear BK273
     clear HB
     have HO278 := n0_
     have HO281 := n1_
     have HO284 := n2_
     have BK272 := n3_
     have BK273 := n4_
     have HB := n5_
     clear n0_ n1_ n2_ n3_ n4_ n5_
     (try clear hb)
     (try clear hb2)
     (try clear hk)
     (try clear hi)
     (try clear ho0)
     (try clear ho1)
     (try clear ho2)
     refine hK.out _ _ ⟨(blk_cell BK272.out 0).trans rfl, (blk_cell BK272.out 1).trans rfl, (blk_cell BK272.out 2).trans rfl, (blk_cell BK273.out 0).trans rfl, (blk_cell BK273.out 1).trans rfl⟩ (fun hHeld => ?_)
     clear hK K
     refine norm_ (a' := ?_) ?_ ?_
     rotate_left
     ·show Act.put _ (some 30) _ = _
      simp only [Act.put, List.setIfInBounds_toArray, List.set_cons_zero, List.set_cons_succ, i64_w, i32_w]
      rfl
     refine one_ (i := 3) (N := some 32) #[true, true, true, true, true, false, false, false, false, false, false, false] rfl rfl (one_of HT_.out (by kernel_rfl)) (by decide) (fun K hK => ?_)
     refine goes_ Tryd.func16 (by kernel_rfl) rfl #[.agg #[.slice A1_0 l1_0.length c1_0, .slice A1_1 l1_1.length c1_1]] (by rfl) rfl rfl ls_ ?_
     with_reducible refine (laws_toWish.calls k _ _ l1_0 _ _ l1_1 t285 t288 _ ?side1 ?side2 ?side3 ?side4 A24.out).mono ?_
     (case side1 => exact cb_ HR1_0.out)
     (case side2 => exact HC1_0.out)
     (case side3 => exact cb_ HR1_1.out)
     (case side4 => exact HC1_1.out)
     rintro e w41 ⟨v286, v289, rfl, ho0, ho1, hb⟩
     refine ⟨_, rfl, ?_⟩
     have n0_ := Aside0.mk (Kd.R_mono (Kd.R_told (Kd.R_told (Kd.R_old (ra_ HO278.out) hb) (Kd.R_base ho0)) (Kd.R_base ho1)) (fun _ h_ => h_.1))
     have n1_ := Aside0.mk (Kd.R_below (ra_ HO281.out) hb)
     have n2_ := Aside0.mk (Kd.S_below (sa_ HO284.out) hb)
     have n3_ := Aside0.mk (Kd.R_lower (Kd.R_new' ho0 (Kd.R_lt (ra_ HO278.out))) (below_size hb_))
     have n4_ := Aside0.mk (Kd.R_lower (Kd.R_new' ho1 (Kd.R_lt (ra_ HO278.out))) (below_size hb_))
     have n5_ := bb_ BK272 hb
     have n6_ := bb_ BK273 hb
     have n7_ := Aside0.mk (below_step hb_ hb)
     clear HO278
     clear HO281
     clear HO284
     clear BK272
     clear BK273
     clear HB
     have HO278 := n0_
     have HO281 := n1_
     have HO284 := n2_
     have HO287 := n3_
     have HO290 := n4_
     have BK272 := n5_
     have BK273 := n6_
     have HB := n7_
     clear n0_ n1_ n2_ n3_ n4_ n5_ n6_ n7_
     (try clear hb)
     (try clear hb2)
     (try clear hk)
     (try clear hi)
     (try clear ho0)
     (try clear ho1)
     refine hK.out _ _ ⟨(blk_cell BK272.out 0).trans rfl, (blk_cell BK272.out 1).trans rfl, (blk_cell BK272.out 2).trans rfl, (blk_cell BK273.out 0).trans rfl, (blk_cell BK273.out 1).trans rfl⟩ (fun hHeld => ?_)
     clear hK K
     refine norm_ (a' := ?_) ?_ ?_
     rotate_left
     ·show Act.put _ (some 32) _ = _
      simp only [Act.put, List.setIfInBounds_toArray, List.set_cons_zero, List.set_cons_succ, i64_w, i32_w]
      rfl
     refine one_ (i := 5) (N := some 34) #[true, true, true, true, true, true, false, false, false, false, false, false] rfl rfl (one_of HT_.out (by kernel_rfl)) (by decide) (fun K hK => ?_)
     refine goes_ Tryd.func37 (by kernel_rfl) rfl #[.slice A2 l2.length c2] (by rfl) rfl rfl ls_ ?_
     with_reducible refine (laws_toIntS.calls k _ _ l2 t291 _ ?side1 ?side2 A25.out).mono ?_
     (case side1 => exact cb_ HR2.out)
     (case side2 => exact HC2.out)
     rintro e w42 ⟨v292, rfl, ho0, hb⟩
     refine ⟨_, rfl, ?_⟩
     have n0_ := Aside0.mk (Kd.R_below (ra_ HO278.out) hb)
     have n1_ := Aside0.mk (Kd.R_below (ra_ HO281.out) hb)
     have n2_ := Aside0.mk (Kd.S_elder' (sa_ HO284.out) (Kd.R_base ho0) hb)
     have n3_ := Aside0.mk (Kd.R_below (ra_ HO287.out) hb)
     have n4_ := Aside0.mk (Kd.R_below (ra_ HO290.out) hb)
     have n5_ := Aside0.mk (Kd.R_lower ho0 (below_size hb_))
     have n6_ := bb_ BK272 hb
     have n7_ := bb_ BK273 hb
     have n8_ := Aside0.mk (below_step hb_ hb)
     clear HO278
     clear HO281
     clear HO284
     clear HO287
     clear HO290
     clear BK272
     clear BK273
     clear HB
     have HO278 := n0_
     have HO281 := n1_
     have HO284 := n2_
     have HO287 := n3_
     have HO290 := n4_
     have HO293 := n5_
     have BK272 := n6_
     have BK273 := n7_
     have HB := n8_
     clear n0_ n1_ n2_ n3_ n4_ n5_ n6_ n7_ n8_
     (try clear hb)
     (try clear hb2)
     (try clear hk)
     (try clear hi)
     (try clear ho0)
     obtain ⟨Ao43, co43, eo43⟩ := Kd.R_slice HO278.out
     (first | subst eo43 | (injection eo43 with f1_ f2_ f3_; have f4_ := f1_.symm; have f5_ := f3_.symm; clear f1_ f2_ f3_; subst f4_; subst f5_))
     obtain ⟨Ao44, co44, eo44⟩ := Kd.R_slice HO281.out
     (first | subst eo44 | (injection eo44 with f1_ f2_ f3_; have f4_ := f1_.symm; have f5_ := f3_.symm; clear f1_ f2_ f3_; subst f4_; subst f5_))
     obtain ⟨Ao45, co45, eo45⟩ := Kd.S_slice HO284.out
     (first | subst eo45 | (injection eo45 with f1_ f2_ f3_; have f4_ := f1_.symm; have f5_ := f3_.symm; clear f1_ f2_ f3_; subst f4_; subst f5_))
     obtain ⟨Ao46, co46, eo46⟩ := Kd.R_slice HO287.out
     (first | subst eo46 | (injection eo46 with f1_ f2_ f3_; have f4_ := f1_.symm; have f5_ := f3_.symm; clear f1_ f2_ f3_; subst f4_; subst f5_))
     obtain ⟨Ao47, co47, eo47⟩ := Kd.R_slice HO290.out
     (first | subst eo47 | (injection eo47 with f1_ f2_ f3_; have f4_ := f1_.symm; have f5_ := f3_.symm; clear f1_ f2_ f3_; subst f4_; subst f5_))
     obtain ⟨Ao48, co48, eo48⟩ := Kd.R_slice HO293.out
     (first | subst eo48 | (injection eo48 with f1_ f2_ f3_; have f4_ := f1_.symm; have f5_ := f3_.symm; clear f1_ f2_ f3_; subst f4_; subst f5_))
     refine hK.out _ _ ⟨(blk_cell BK272.out 0).trans rfl, (blk_cell BK272.out 1).trans rfl, (blk_cell BK272.out 2).trans rfl, (blk_cell BK273.out 0).trans rfl, (blk_cell BK273.out 1).trans rfl⟩ (fun hHeld => ?_)
     clear hK K
     refine norm_ (a' := ?_) ?_ ?_
     rotate_left
     ·show Act.put _ (some 34) _ = _
      simp only [Act.put, List.setIfInBounds_toArray, List.set_cons_zero, List.set_cons_succ, i64_w, i32_w]
      rfl
     refine one_ (i := 6) (N := some 35) #[true, true, true, true, true, true, true, false, false, false, false, false] rfl rfl (one_of HT_.out (by kernel_rfl)) (by decide) (fun K hK => ?_)
     refine goes_ Tryd.func36 (by kernel_rfl) rfl #[.agg #[.slice Ao43 t276.length co43, .slice Ao44 t279.length co44, .slice Ao45 t282.length co45], .agg #[.slice Ao46 t285.length co46, .slice Ao47 t288.length co47], .slice Ao48 t291.length co48] (by rfl) rfl rfl ls_ ?_
     with_reducible refine (spec_WishMet.calls k _ _ t276 _ _ t279 _ _ t282 _ _ t285 _ _ t288 _ _ t291 t294 t295 _ ?side1 ?side2 ?side3 ?side4 ?side5 ?side6 ?side7 ?side8 ?side9 ?side10 ?side11 ?side12 A26.out).mono ?_
     (case side1 => exact ca_ (Kd.R_reads' HO278.out).2.2)
     (case side2 => exact (Kd.R_reads' HO278.out).2.1)
     (case side3 => exact ca_ (Kd.R_reads' HO281.out).2.2)
     (case side4 => exact (Kd.R_reads' HO281.out).2.1)
     (case side5 => exact ca_ (Kd.S_reads' HO284.out).2.2)
     (case side6 => exact (Kd.S_reads' HO284.out).2.1)
     (case side7 => exact ca_ (Kd.R_reads' HO287.out).2.2)
     (case side8 => exact (Kd.R_reads' HO287.out).2.1)
     (case side9 => exact ca_ (Kd.R_reads' HO290.out).2.2)
     (case side10 => exact (Kd.R_reads' HO290.out).2.1)
     (case side11 => exact ca_ (Kd.R_reads' HO293.out).2.2)
     (case side12 => exact (Kd.R_reads' HO293.out).2.1)
     rintro e w49 ⟨rfl, hb⟩
     refine ⟨_, rfl, ?_⟩
     have n0_ := Aside0.mk (Kd.R_below (ra_ HO278.out) hb)
     have n1_ := Aside0.mk (Kd.R_below (ra_ HO281.out) hb)
     have n2_ := Aside0.mk (Kd.S_below (sa_ HO284.out) hb)
     have n3_ := Aside0.mk (Kd.R_below (ra_ HO287.out) hb)
     have n4_ := Aside0.mk (Kd.R_below (ra_ HO290.out) hb)
     have n5_ := Aside0.mk (Kd.R_below (ra_ HO293.out) hb)
     have n6_ := bb_ BK272 hb
     have n7_ := bb_ BK273 hb
     have n8_ := Aside0.mk (below_step hb_ hb)
     clear HO278
     clear HO281
     clear HO284
     clear HO287
     clear HO290
     clear HO293
     clear BK272
     clear BK273
     clear HB
     have HO278 := n0_
     have HO281 := n1_
     have HO284 := n2_
     have HO287 := n3_
     have HO290 := n4_
     have HO293 := n5_
     have BK272 := n6_
     have BK273 := n7_
     have HB := n8_
     clear n0_ n1_ n2_ n3_ n4_ n5_ n6_ n7_ n8_
     (try clear hb)
     (try clear hb2)
     (try clear hk)
     (try clear hi)
     refine hK.out _ _ ⟨(blk_cell BK272.out 0).trans rfl, (blk_cell BK272.out 1).trans rfl, (blk_cell BK272.out 2).trans rfl, (blk_cell BK273.out 0).trans rfl, (blk_cell BK273.out 1).trans rfl⟩ (fun hHeld => ?_)
     clear hK K
     refine norm_ (a' := ?_) ?_ ?_
     rotate_left
     ·show Act.put _ (some 35) _ = _
      simp only [Act.put, List.setIfInBounds_toArray, List.set_cons_zero, List.set_cons_succ, i64_w, i32_w]
      rfl
     refine pure_ (i := 7) (N := some 28) (v := ?_) (a' := ?_) #[true, true, true, true, true, true, true, true, false, false, false, false] rfl rfl (any_of HT_.out (by kernel_rfl)) (fun _ _ _ h => h) (Or.inl ⟨by rfl, ?_⟩) ?_ ?_
     rotate_left
     ·intro w'
      go_simp
      with_reducible rfl
     rotate_left
     ·simp only [Act.put, List.setIfInBounds_toArray, List.set_cons_zero, List.set_cons_succ, i64_w, i32_w]
      rfl
     refine pure_ (i := 8) (N := some 36) (v := ?_) (a' := ?_) #[true, true, true, true, true, true, true, true, true, false, false, false] rfl rfl (any_of HT_.out (by kernel_rfl)) (fun _ _ _ h => h) (Or.inl ⟨by rfl, ?_⟩) ?_ ?_
     rotate_left
     ·intro w'
      go_simp
      with_reducible rfl
     rotate_left
     ·simp only [Act.put, List.setIfInBounds_toArray, List.set_cons_zero, List.set_cons_succ, i64_w, i32_w]
      rfl
     refine pure_ (i := 9) (N := some 37) (v := ?_) (a' := ?_) #[true, true, true, true, true, true, true, true, true, true, false, false] rfl rfl (any_of HT_.out (by kernel_rfl)) (fun _ _ _ h => h) (Or.inl ⟨by rfl, ?_⟩) ?_ ?_
     rotate_left
     ·intro w'
      go_simp
      with_reducible rfl
     rotate_left
     ·simp only [Act.put, List.setIfInBounds_toArray, List.set_cons_zero, List.set_cons_succ, i64_w, i32_w]
      rfl
     refine pure_ (i := 10) (N := some 8) (v := ?_) (a' := ?_) #[true, true, true, true, true, true, true, true, true, true, true, false] rfl rfl (any_of HT_.out (by kernel_rfl)) (fun _ _ _ h => h) (Or.inl ⟨by rfl, ?_⟩) ?_ ?_
     rotate_left
     ·intro w'
      go_simp
      with_reducible rfl
     rotate_left
     ·simp only [Act.put, List.setIfInBounds_toArray, List.set_cons_zero, List.set_cons_succ, i64_w, i32_w]
      rfl
     refine pure_ (i := 11) (N := some 9) (v := ?_) (a' := ?_) #[true, true, true, true, true, true, true, true, true, true, true, true] rfl rfl (any_of HT_.out (by kernel_rfl)) (fun _ _ _ h => h) (Or.inl ⟨by rfl, ?_⟩) ?_ ?_
     rotate_left
     ·intro w'
      go_simp
      with_reducible rfl
     rotate_left
     ·simp only [Act.put, List.setIfInBounds_toArray, List.set_cons_zero, List.set_cons_succ, i64_w, i32_w]
      rfl
     refine done_ (done_of HT_.out (by kernel_rfl)) ?_
     have hcz50_0 : w49.cell? ⟨gb272, 0, none⟩ = some (.slice A0_0 l0_0.length c0_0) := (blk_cell BK272.out 0).trans rfl
     have hcz50_1 : w49.cell? ⟨gb272, 1, none⟩ = some (.slice A0_1 l0_1.length c0_1) := (blk_cell BK272.out 1).trans rfl
     have hcz50_2 : w49.cell? ⟨gb272, 2, none⟩ = some (.slice A0_2 l0_2.length c0_2) := (blk_cell BK272.out 2).trans rfl
     have hfz50_0 := blk_frozen BK272.out 0
     have hfz50_1 := blk_frozen BK272.out 1
     have hfz50_2 := blk_frozen BK272.out 2
     go_upto_region 15 with (first | ((with_reducible refine gate_callee (f := 15) rfl ?_); refine goesL_ (some 39) rfl rfl Tryd.func15 (by kernel_rfl) rfl #[.agg #[.slice A0_0 l0_0.length c0_0, .slice A0_1 l0_1.length c0_1, .slice A0_2 l0_2.length c0_2]] rfl ls_ ?_; (with_reducible refine (laws_toBoard.calls k _ _ l0_0 _ _ l0_1 _ _ l0_2 t296 t299 t302 _ ?side1 ?side2 ?side3 ?side4 ?side5 ?side6 A27.out).mono ?_); (case side1 => exact cb_ HR0_0.out); (case side2 => exact HC0_0.out); (case side3 => exact cb_ HR0_1.out); (case side4 => exact HC0_1.out); (case side5 => exact cb_ HR0_2.out); (case side6 => exact HC0_2.out); rintro e w51 ⟨v297, v300, v303, rfl, ho0, ho1, ho2, hb⟩; refine ⟨_, rfl, ?_⟩; have n0_ := Aside0.mk (Kd.R_elder' (ra_ HO278.out) (Kd.R_base ho0) hb); have n1_ := Aside0.mk (Kd.R_elder' (ra_ HO281.out) (Kd.R_base ho1) hb); have n2_ := Aside0.mk (Kd.S_elder' (sa_ HO284.out) (Kd.S_base ho2) hb); have n3_ := Aside0.mk (Kd.R_elder' (ra_ HO287.out) (Kd.R_base ho0) hb); have n4_ := Aside0.mk (Kd.R_elder' (ra_ HO290.out) (Kd.R_base ho0) hb); have n5_ := Aside0.mk (Kd.R_below (ra_ HO293.out) hb); have n6_ := Aside0.mk (Kd.R_lower (Kd.R_new' (Kd.R_new' (Kd.R_new' ho0 (Kd.R_lt (ra_ HO278.out))) (Kd.R_lt (ra_ HO287.out))) (Kd.R_lt (ra_ HO290.out))) (below_size hb_)); have n7_ := Aside0.mk (Kd.R_lower (Kd.R_new' ho1 (Kd.R_lt (ra_ HO281.out))) (below_size hb_)); have n8_ := Aside0.mk (Kd.S_lower (Kd.S_new' (Kd.S_new' ho2 (Kd.S_lt (sa_ HO284.out))) (Kd.R_lt (ra_ HO293.out))) (below_size hb_)); have n9_ := bb_ BK272 hb; have n10_ := bb_ BK273 hb; have n11_ := Aside0.mk (below_step hb_ hb); clear HO278; clear HO281; clear HO284; clear HO287; clear HO290; clear HO293; clear BK272; clear BK273; clear HB; have HO278 := n0_; have HO281 := n1_; have HO284 := n2_; have HO287 := n3_; have HO290 := n4_; have HO293 := n5_; have HO298 := n6_; have HO301 := n7_; have HO304 := n8_; have BK272 := n9_; have BK273 := n10_; have HB := n11_; clear n0_ n1_ n2_ n3_ n4_ n5_ n6_ n7_ n8_ n9_ n10_ n11_; (try clear hb); (try clear hb2); (try clear hk); (try clear hi); (try clear ho0); (try clear ho1); (try clear ho2)) | ((with_reducible refine gate_dst (N := 10) rfl ?_); refine box_event ?hg (N := 10) ?hd (cs := #[.slice none 0 0, .slice none 0 0, .slice none 0 0]) (t := 34) ?hr ?_; (case hd => rfl); (case hg => rfl); (case hr => first | (go_simp; done) | (go_simp; rfl)); intro gb305 hg w52 hbox hb; have n0_ := Aside0.mk (Kd.R_below (ra_ HO278.out) hb); have n1_ := Aside0.mk (Kd.R_below (ra_ HO281.out) hb); have n2_ := Aside0.mk (Kd.S_below (sa_ HO284.out) hb); have n3_ := Aside0.mk (Kd.R_below (ra_ HO287.out) hb); have n4_ := Aside0.mk (Kd.R_below (ra_ HO290.out) hb); have n5_ := Aside0.mk (Kd.R_below (ra_ HO293.out) hb); have n6_ := Aside0.mk (Kd.R_below (ra_ HO298.out) hb); have n7_ := Aside0.mk (Kd.R_below (ra_ HO301.out) hb); have n8_ := Aside0.mk (Kd.S_below (sa_ HO304.out) hb); have n9_ := bb_ BK272 hb; have n10_ := bb_ BK273 hb; have n11_ := Aside0.mk (below_step hb_ hb); have n12_ := Aside0.mk (hbox); have n13_ : Aside0 (w.heap.size ≤ gb305) := gz_; have n14_ : Aside0 (w.heap.size ≤ gb305) := gz_; have n15_ := Aside0.mk ((by rw [hg]; exact Nat.ne_of_lt (blk_lt (g := gb272) (o := .cells #[.slice A0_0 l0_0.length c0_0, .slice A0_1 l0_1.length c0_1, .slice A0_2 l0_2.length c0_2] 26 (0, 0)) (bk_ BK272.out)) : gb272 ≠ gb305)); have n16_ := Aside0.mk ((by rw [hg]; exact Nat.ne_of_gt (blk_lt (g := gb272) (o := .cells #[.slice A0_0 l0_0.length c0_0, .slice A0_1 l0_1.length c0_1, .slice A0_2 l0_2.length c0_2] 26 (0, 0)) (bk_ BK272.out)) : gb305 ≠ gb272)); have n17_ := Aside0.mk ((by rw [hg]; exact Nat.ne_of_lt (blk_lt (g := gb273) (o := .cells #[.slice A1_0 l1_0.length c1_0, .slice A1_1 l1_1.length c1_1] 28 (0, 0)) (bk_ BK273.out)) : gb273 ≠ gb305)); have n18_ := Aside0.mk ((by rw [hg]; exact Nat.ne_of_gt (blk_lt (g := gb273) (o := .cells #[.slice A1_0 l1_0.length c1_0, .slice A1_1 l1_1.length c1_1] 28 (0, 0)) (bk_ BK273.out)) : gb305 ≠ gb273)); clear HO278; clear HO281; clear HO284; clear HO287; clear HO290; clear HO293; clear HO298; clear HO301; clear HO304; clear BK272; clear BK273; clear HB; have HO278 := n0_; have HO281 := n1_; have HO284 := n2_; have HO287 := n3_; have HO290 := n4_; have HO293 := n5_; have HO298 := n6_; have HO301 := n7_; have HO304 := n8_; have BK272 := n9_; have BK273 := n10_; have HB := n11_; have BK305 := n12_; have GW305 := n13_; have GE305 := n14_; have NB272_305 := n15_; have NB305_272 := n16_; have NB273_305 := n17_; have NB305_273 := n18_; clear n0_ n1_ n2_ n3_ n4_ n5_ n6_ n7_ n8_ n9_ n10_ n11_ n12_ n13_ n14_ n15_ n16_ n17_ n18_; clear hb hbox hg; obtain ⟨Ao53, co53, eo53⟩ := Kd.R_slice HO298.out; subst eo53; have hnb54 := NB305_272.out; have hnc54 := NB272_305.out; have hnb55 := NB305_273.out; have hnc55 := NB273_305.out; have hcz56_0 : w52.cell? ⟨gb305, 0, none⟩ = some (.slice none 0 0) := (blk_cell BK305.out 0).trans rfl; have hcz56_1 : w52.cell? ⟨gb305, 1, none⟩ = some (.slice none 0 0) := (blk_cell BK305.out 1).trans rfl; have hcz56_2 : w52.cell? ⟨gb305, 2, none⟩ = some (.slice none 0 0) := (blk_cell BK305.out 2).trans rfl; have hfz56_0 := blk_frozen BK305.out 0; have hfz56_1 := blk_frozen BK305.out 1; have hfz56_2 := blk_frozen BK305.out 2; obtain ⟨Ao57, co57, eo57⟩ := Kd.R_slice HO301.out; subst eo57; obtain ⟨Ao58, co58, eo58⟩ := Kd.S_slice HO304.out; subst eo58; have hcz59_0 : w52.cell? ⟨gb273, 0, none⟩ = some (.slice A1_0 l1_0.length c1_0) := (blk_cell BK273.out 0).trans rfl; have hcz59_1 : w52.cell? ⟨gb273, 1, none⟩ = some (.slice A1_1 l1_1.length c1_1) := (blk_cell BK273.out 1).trans rfl; have hfz59_0 := blk_frozen BK273.out 0; have hfz59_1 := blk_frozen BK273.out 1) | ((with_reducible refine gate_callee (f := 16) rfl ?_); refine goesL_ (some 41) rfl rfl Tryd.func16 (by kernel_rfl) rfl #[.agg #[.slice A1_0 l1_0.length c1_0, .slice A1_1 l1_1.length c1_1]] rfl ls_ ?_; (with_reducible refine (laws_toWish.calls k _ _ l1_0 _ _ l1_1 t306 t309 _ ?side1 ?side2 ?side3 ?side4 A28.out).mono ?_); (case side1 => exact Kd.C_below HR1_0.out hb_); (case side2 => exact HC1_0.out); (case side3 => exact Kd.C_below HR1_1.out hb_); (case side4 => exact HC1_1.out); rintro e w60 ⟨v307, v310, rfl, ho0, ho1, hb⟩; refine ⟨_, rfl, ?_⟩; have n0_ := Aside0.mk (Kd.R_mono (Kd.R_told (Kd.R_told (Kd.R_old (by (with_reducible repeat (first | apply Kd.R_alloc | apply Kd.R_drewN | apply Kd.R_drew)); exact (Kd.R_mono (Kd.R_far (p := ⟨gb305, 2, none⟩) (Kd.R_far (p := ⟨gb305, 1, none⟩) (Kd.R_far (p := ⟨gb305, 0, none⟩) (Kd.R_types HO278.out BK305.out (by decide)) (fun _ hk => hk.2) (.slice Ao53 t296.length co53)) (fun _ hk => hk.2) (.slice Ao57 t299.length co57)) (fun _ hk => hk.2) (.slice Ao58 t302.length co58)) (fun _ h_ => h_.1))) hb) (Kd.R_base ho0)) (Kd.R_base ho1)) (fun _ h_ => h_.1)); have n1_ := Aside0.mk (Kd.R_below (by (with_reducible repeat (first | apply Kd.R_alloc | apply Kd.R_drewN | apply Kd.R_drew)); exact (Kd.R_mono (Kd.R_far (p := ⟨gb305, 2, none⟩) (Kd.R_far (p := ⟨gb305, 1, none⟩) (Kd.R_far (p := ⟨gb305, 0, none⟩) (Kd.R_types HO281.out BK305.out (by decide)) (fun _ hk => hk.2) (.slice Ao53 t296.length co53)) (fun _ hk => hk.2) (.slice Ao57 t299.length co57)) (fun _ hk => hk.2) (.slice Ao58 t302.length co58)) (fun _ h_ => h_.1))) hb); have n2_ := Aside0.mk (Kd.S_below (by (with_reducible repeat (first | apply Kd.S_alloc | apply Kd.S_drewN | apply Kd.S_drew)); exact (Kd.S_mono (Kd.S_far (p := ⟨gb305, 2, none⟩) (Kd.S_far (p := ⟨gb305, 1, none⟩) (Kd.S_far (p := ⟨gb305, 0, none⟩) (Kd.S_types HO284.out BK305.out (by decide)) (fun _ hk => hk.2) (.slice Ao53 t296.length co53)) (fun _ hk => hk.2) (.slice Ao57 t299.length co57)) (fun _ hk => hk.2) (.slice Ao58 t302.length co58)) (fun _ h_ => h_.1))) hb); have n3_ := Aside0.mk (Kd.R_mono (Kd.R_told (Kd.R_told (Kd.R_old (by (with_reducible repeat (first | apply Kd.R_alloc | apply Kd.R_drewN | apply Kd.R_drew)); exact (Kd.R_mono (Kd.R_far (p := ⟨gb305, 2, none⟩) (Kd.R_far (p := ⟨gb305, 1, none⟩) (Kd.R_far (p := ⟨gb305, 0, none⟩) (Kd.R_types HO287.out BK305.out (by decide)) (fun _ hk => hk.2) (.slice Ao53 t296.length co53)) (fun _ hk => hk.2) (.slice Ao57 t299.length co57)) (fun _ hk => hk.2) (.slice Ao58 t302.length co58)) (fun _ h_ => h_.1))) hb) (Kd.R_base ho0)) (Kd.R_base ho1)) (fun _ h_ => h_.1)); have n4_ := Aside0.mk (Kd.R_mono (Kd.R_told (Kd.R_told (Kd.R_old (by (with_reducible repeat (first | apply Kd.R_alloc | apply Kd.R_drewN | apply Kd.R_drew)); exact (Kd.R_mono (Kd.R_far (p := ⟨gb305, 2, none⟩) (Kd.R_far (p := ⟨gb305, 1, none⟩) (Kd.R_far (p := ⟨gb305, 0, none⟩) (Kd.R_types HO290.out BK305.out (by decide)) (fun _ hk => hk.2) (.slice Ao53 t296.length co53)) (fun _ hk => hk.2) (.slice Ao57 t299.length co57)) (fun _ hk => hk.2) (.slice Ao58 t302.length co58)) (fun _ h_ => h_.1))) hb) (Kd.R_base ho0)) (Kd.R_base ho1)) (fun _ h_ => h_.1)); have n5_ := Aside0.mk (Kd.R_below (by (with_reducible repeat (first | apply Kd.R_alloc | apply Kd.R_drewN | apply Kd.R_drew)); exact (Kd.R_mono (Kd.R_far (p := ⟨gb305, 2, none⟩) (Kd.R_far (p := ⟨gb305, 1, none⟩) (Kd.R_far (p := ⟨gb305, 0, none⟩) (Kd.R_types HO293.out BK305.out (by decide)) (fun _ hk => hk.2) (.slice Ao53 t296.length co53)) (fun _ hk => hk.2) (.slice Ao57 t299.length co57)) (fun _ hk => hk.2) (.slice Ao58 t302.length co58)) (fun _ h_ => h_.1))) hb); have n6_ := Aside0.mk (Kd.R_mono (Kd.R_told (Kd.R_told (Kd.R_old (by (with_reducible repeat (first | apply Kd.R_alloc | apply Kd.R_drewN | apply Kd.R_drew)); exact (Kd.R_mono (Kd.R_far (p := ⟨gb305, 2, none⟩) (Kd.R_far (p := ⟨gb305, 1, none⟩) (Kd.R_far (p := ⟨gb305, 0, none⟩) (Kd.R_types HO298.out BK305.out (by decide)) (fun _ hk => hk.2) (.slice Ao53 t296.length co53)) (fun _ hk => hk.2) (.slice Ao57 t299.length co57)) (fun _ hk => hk.2) (.slice Ao58 t302.length co58)) (fun _ h_ => h_.1))) hb) (Kd.R_base ho0)) (Kd.R_base ho1)) (fun _ h_ => h_.1)); have n7_ := Aside0.mk (Kd.R_below (by (with_reducible repeat (first | apply Kd.R_alloc | apply Kd.R_drewN | apply Kd.R_drew)); exact (Kd.R_mono (Kd.R_far (p := ⟨gb305, 2, none⟩) (Kd.R_far (p := ⟨gb305, 1, none⟩) (Kd.R_far (p := ⟨gb305, 0, none⟩) (Kd.R_types HO301.out BK305.out (by decide)) (fun _ hk => hk.2) (.slice Ao53 t296.length co53)) (fun _ hk => hk.2) (.slice Ao57 t299.length co57)) (fun _ hk => hk.2) (.slice Ao58 t302.length co58)) (fun _ h_ => h_.1))) hb); have n8_ := Aside0.mk (Kd.S_below (by (with_reducible repeat (first | apply Kd.S_alloc | apply Kd.S_drewN | apply Kd.S_drew)); exact (Kd.S_mono (Kd.S_far (p := ⟨gb305, 2, none⟩) (Kd.S_far (p := ⟨gb305, 1, none⟩) (Kd.S_far (p := ⟨gb305, 0, none⟩) (Kd.S_types HO304.out BK305.out (by decide)) (fun _ hk => hk.2) (.slice Ao53 t296.length co53)) (fun _ hk => hk.2) (.slice Ao57 t299.length co57)) (fun _ hk => hk.2) (.slice Ao58 t302.length co58)) (fun _ h_ => h_.1))) hb); have n9_ := Aside0.mk (Kd.R_lower (Kd.R_new' (Kd.R_new' (Kd.R_new' (Kd.R_new' ho0 (Kd.R_lt (by (with_reducible repeat (first | apply Kd.R_alloc | apply Kd.R_drewN | apply Kd.R_drew)); exact (Kd.R_mono (Kd.R_far (p := ⟨gb305, 2, none⟩) (Kd.R_far (p := ⟨gb305, 1, none⟩) (Kd.R_far (p := ⟨gb305, 0, none⟩) (Kd.R_types HO278.out BK305.out (by decide)) (fun _ hk => hk.2) (.slice Ao53 t296.length co53)) (fun _ hk => hk.2) (.slice Ao57 t299.length co57)) (fun _ hk => hk.2) (.slice Ao58 t302.length co58)) (fun _ h_ => h_.1))))) (Kd.R_lt (by (with_reducible repeat (first | apply Kd.R_alloc | apply Kd.R_drewN | apply Kd.R_drew)); exact (Kd.R_mono (Kd.R_far (p := ⟨gb305, 2, none⟩) (Kd.R_far (p := ⟨gb305, 1, none⟩) (Kd.R_far (p := ⟨gb305, 0, none⟩) (Kd.R_types HO287.out BK305.out (by decide)) (fun _ hk => hk.2) (.slice Ao53 t296.length co53)) (fun _ hk => hk.2) (.slice Ao57 t299.length co57)) (fun _ hk => hk.2) (.slice Ao58 t302.length co58)) (fun _ h_ => h_.1))))) (Kd.R_lt (by (with_reducible repeat (first | apply Kd.R_alloc | apply Kd.R_drewN | apply Kd.R_drew)); exact (Kd.R_mono (Kd.R_far (p := ⟨gb305, 2, none⟩) (Kd.R_far (p := ⟨gb305, 1, none⟩) (Kd.R_far (p := ⟨gb305, 0, none⟩) (Kd.R_types HO290.out BK305.out (by decide)) (fun _ hk => hk.2) (.slice Ao53 t296.length co53)) (fun _ hk => hk.2) (.slice Ao57 t299.length co57)) (fun _ hk => hk.2) (.slice Ao58 t302.length co58)) (fun _ h_ => h_.1))))) (Kd.R_lt (by (with_reducible repeat (first | apply Kd.R_alloc | apply Kd.R_drewN | apply Kd.R_drew)); exact (Kd.R_mono (Kd.R_far (p := ⟨gb305, 2, none⟩) (Kd.R_far (p := ⟨gb305, 1, none⟩) (Kd.R_far (p := ⟨gb305, 0, none⟩) (Kd.R_types HO298.out BK305.out (by decide)) (fun _ hk => hk.2) (.slice Ao53 t296.length co53)) (fun _ hk => hk.2) (.slice Ao57 t299.length co57)) (fun _ hk => hk.2) (.slice Ao58 t302.length co58)) (fun _ h_ => h_.1))))) (below_size hb_)); have n10_ := Aside0.mk (Kd.R_lower (Kd.R_new' (Kd.R_new' (Kd.R_new' (Kd.R_new' ho1 (Kd.R_lt (by (with_reducible repeat (first | apply Kd.R_alloc | apply Kd.R_drewN | apply Kd.R_drew)); exact (Kd.R_mono (Kd.R_far (p := ⟨gb305, 2, none⟩) (Kd.R_far (p := ⟨gb305, 1, none⟩) (Kd.R_far (p := ⟨gb305, 0, none⟩) (Kd.R_types HO278.out BK305.out (by decide)) (fun _ hk => hk.2) (.slice Ao53 t296.length co53)) (fun _ hk => hk.2) (.slice Ao57 t299.length co57)) (fun _ hk => hk.2) (.slice Ao58 t302.length co58)) (fun _ h_ => h_.1))))) (Kd.R_lt (by (with_reducible repeat (first | apply Kd.R_alloc | apply Kd.R_drewN | apply Kd.R_drew)); exact (Kd.R_mono (Kd.R_far (p := ⟨gb305, 2, none⟩) (Kd.R_far (p := ⟨gb305, 1, none⟩) (Kd.R_far (p := ⟨gb305, 0, none⟩) (Kd.R_types HO287.out BK305.out (by decide)) (fun _ hk => hk.2) (.slice Ao53 t296.length co53)) (fun _ hk => hk.2) (.slice Ao57 t299.length co57)) (fun _ hk => hk.2) (.slice Ao58 t302.length co58)) (fun _ h_ => h_.1))))) (Kd.R_lt (by (with_reducible repeat (first | apply Kd.R_alloc | apply Kd.R_drewN | apply Kd.R_drew)); exact (Kd.R_mono (Kd.R_far (p := ⟨gb305, 2, none⟩) (Kd.R_far (p := ⟨gb305, 1, none⟩) (Kd.R_far (p := ⟨gb305, 0, none⟩) (Kd.R_types HO290.out BK305.out (by decide)) (fun _ hk => hk.2) (.slice Ao53 t296.length co53)) (fun _ hk => hk.2) (.slice Ao57 t299.length co57)) (fun _ hk => hk.2) (.slice Ao58 t302.length co58)) (fun _ h_ => h_.1))))) (Kd.R_lt (by (with_reducible repeat (first | apply Kd.R_alloc | apply Kd.R_drewN | apply Kd.R_drew)); exact (Kd.R_mono (Kd.R_far (p := ⟨gb305, 2, none⟩) (Kd.R_far (p := ⟨gb305, 1, none⟩) (Kd.R_far (p := ⟨gb305, 0, none⟩) (Kd.R_types HO298.out BK305.out (by decide)) (fun _ hk => hk.2) (.slice Ao53 t296.length co53)) (fun _ hk => hk.2) (.slice Ao57 t299.length co57)) (fun _ hk => hk.2) (.slice Ao58 t302.length co58)) (fun _ h_ => h_.1))))) (below_size hb_)); have n11_ := Aside0.mk (blk_below (g := gb272) (o := .cells #[.slice A0_0 l0_0.length c0_0, .slice A0_1 l0_1.length c0_1, .slice A0_2 l0_2.length c0_2] 26 (0, 0)) (by (with_reducible repeat (first | refine blk_drewN ?_ _ | refine blk_drew ?_ | refine blk_alloc ?_ _)); refine blk_far ?_ NB272_305.out _; (with_reducible repeat (first | refine blk_drewN ?_ _ | refine blk_drew ?_ | refine blk_alloc ?_ _)); refine blk_far ?_ NB272_305.out _; (with_reducible repeat (first | refine blk_drewN ?_ _ | refine blk_drew ?_ | refine blk_alloc ?_ _)); refine blk_far ?_ NB272_305.out _; (with_reducible repeat (first | refine blk_drewN ?_ _ | refine blk_drew ?_ | refine blk_alloc ?_ _)); exact BK272.out) hb); have n12_ := Aside0.mk (blk_below (g := gb273) (o := .cells #[.slice A1_0 l1_0.length c1_0, .slice A1_1 l1_1.length c1_1] 28 (0, 0)) (by (with_reducible repeat (first | refine blk_drewN ?_ _ | refine blk_drew ?_ | refine blk_alloc ?_ _)); refine blk_far ?_ NB273_305.out _; (with_reducible repeat (first | refine blk_drewN ?_ _ | refine blk_drew ?_ | refine blk_alloc ?_ _)); refine blk_far ?_ NB273_305.out _; (with_reducible repeat (first | refine blk_drewN ?_ _ | refine blk_drew ?_ | refine blk_alloc ?_ _)); refine blk_far ?_ NB273_305.out _; (with_reducible repeat (first | refine blk_drewN ?_ _ | refine blk_drew ?_ | refine blk_alloc ?_ _)); exact BK273.out) hb); have n13_ := Aside0.mk (blk_below (g := gb305) (o := .cells #[.slice Ao53 t296.length co53, .slice Ao57 t299.length co57, .slice Ao58 t302.length co58] 34 (0, 0)) (by (with_reducible repeat (first | refine blk_drewN ?_ _ | refine blk_drew ?_ | refine blk_alloc ?_ _)); refine blk_put (cs := #[.slice Ao53 t296.length co53, .slice Ao57 t299.length co57, .slice none 0 0]) ?_ 2 _ rfl; (with_reducible repeat (first | refine blk_drewN ?_ _ | refine blk_drew ?_ | refine blk_alloc ?_ _)); refine blk_put (cs := #[.slice Ao53 t296.length co53, .slice none 0 0, .slice none 0 0]) ?_ 1 _ rfl; (with_reducible repeat (first | refine blk_drewN ?_ _ | refine blk_drew ?_ | refine blk_alloc ?_ _)); refine blk_put (cs := #[.slice none 0 0, .slice none 0 0, .slice none 0 0]) ?_ 0 _ rfl; (with_reducible repeat (first | refine blk_drewN ?_ _ | refine blk_drew ?_ | refine blk_alloc ?_ _)); exact BK305.out) hb); have n14_ := Aside0.mk (below_step hb_ hb); clear HO278; clear HO281; clear HO284; clear HO287; clear HO290; clear HO293; clear HO298; clear HO301; clear HO304; clear BK272; clear BK273; clear BK305; clear HB; have HO278 := n0_; have HO281 := n1_; have HO284 := n2_; have HO287 := n3_; have HO290 := n4_; have HO293 := n5_; have HO298 := n6_; have HO301 := n7_; have HO304 := n8_; have HO308 := n9_; have HO311 := n10_; have BK272 := n11_; have BK273 := n12_; have BK305 := n13_; have HB := n14_; clear n0_ n1_ n2_ n3_ n4_ n5_ n6_ n7_ n8_ n9_ n10_ n11_ n12_ n13_ n14_; (try clear hb); (try clear hb2); (try clear hk); (try clear hi); (try clear ho0); (try clear ho1)) | ((with_reducible refine gate_dst (N := 11) rfl ?_); refine box_event ?hg (N := 11) ?hd (cs := #[.slice none 0 0, .slice none 0 0]) (t := 36) ?hr ?_; (case hd => rfl); (case hg => rfl); (case hr => first | (go_simp; done) | (go_simp; rfl)); intro gb312 hg w61 hbox hb; have n0_ := Aside0.mk (Kd.R_below (ra_ HO278.out) hb); have n1_ := Aside0.mk (Kd.R_below (ra_ HO281.out) hb); have n2_ := Aside0.mk (Kd.S_below (sa_ HO284.out) hb); have n3_ := Aside0.mk (Kd.R_below (ra_ HO287.out) hb); have n4_ := Aside0.mk (Kd.R_below (ra_ HO290.out) hb); have n5_ := Aside0.mk (Kd.R_below (ra_ HO293.out) hb); have n6_ := Aside0.mk (Kd.R_below (ra_ HO298.out) hb); have n7_ := Aside0.mk (Kd.R_below (ra_ HO301.out) hb); have n8_ := Aside0.mk (Kd.S_below (sa_ HO304.out) hb); have n9_ := Aside0.mk (Kd.R_below (ra_ HO308.out) hb); have n10_ := Aside0.mk (Kd.R_below (ra_ HO311.out) hb); have n11_ := bb_ BK272 hb; have n12_ := bb_ BK273 hb; have n13_ := bb_ BK305 hb; have n14_ := Aside0.mk (below_step hb_ hb); have n15_ := Aside0.mk (hbox); have n16_ : Aside0 (w.heap.size ≤ gb312) := gz_; have n17_ : Aside0 (w.heap.size ≤ gb312) := gz_; have n18_ := Aside0.mk ((by rw [hg]; exact Nat.ne_of_lt (blk_lt (g := gb272) (o := .cells #[.slice A0_0 l0_0.length c0_0, .slice A0_1 l0_1.length c0_1, .slice A0_2 l0_2.length c0_2] 26 (0, 0)) (bk_ BK272.out)) : gb272 ≠ gb312)); have n19_ := Aside0.mk ((by rw [hg]; exact Nat.ne_of_gt (blk_lt (g := gb272) (o := .cells #[.slice A0_0 l0_0.length c0_0, .slice A0_1 l0_1.length c0_1, .slice A0_2 l0_2.length c0_2] 26 (0, 0)) (bk_ BK272.out)) : gb312 ≠ gb272)); have n20_ := Aside0.mk ((by rw [hg]; exact Nat.ne_of_lt (blk_lt (g := gb273) (o := .cells #[.slice A1_0 l1_0.length c1_0, .slice A1_1 l1_1.length c1_1] 28 (0, 0)) (bk_ BK273.out)) : gb273 ≠ gb312)); have n21_ := Aside0.mk ((by rw [hg]; exact Nat.ne_of_gt (blk_lt (g := gb273) (o := .cells #[.slice A1_0 l1_0.length c1_0, .slice A1_1 l1_1.length c1_1] 28 (0, 0)) (bk_ BK273.out)) : gb312 ≠ gb273)); have n22_ := Aside0.mk ((by rw [hg]; exact Nat.ne_of_lt (blk_lt (g := gb305) (o := .cells #[.slice Ao53 t296.length co53, .slice Ao57 t299.length co57, .slice Ao58 t302.length co58] 34 (0, 0)) (bk_ BK305.out)) : gb305 ≠ gb312)); have n23_ := Aside0.mk ((by rw [hg]; exact Nat.ne_of_gt (blk_lt (g := gb305) (o := .cells #[.slice Ao53 t296.length co53, .slice Ao57 t299.length co57, .slice Ao58 t302.length co58] 34 (0, 0)) (bk_ BK305.out)) : gb312 ≠ gb305)); clear HO278; clear HO281; clear HO284; clear HO287; clear HO290; clear HO293; clear HO298; clear HO301; clear HO304; clear HO308; clear HO311; clear BK272; clear BK273; clear BK305; clear HB; have HO278 := n0_; have HO281 := n1_; have HO284 := n2_; have HO287 := n3_; have HO290 := n4_; have HO293 := n5_; have HO298 := n6_; have HO301 := n7_; have HO304 := n8_; have HO308 := n9_; have HO311 := n10_; have BK272 := n11_; have BK273 := n12_; have BK305 := n13_; have HB := n14_; have BK312 := n15_; have GW312 := n16_; have GE312 := n17_; have NB272_312 := n18_; have NB312_272 := n19_; have NB273_312 := n20_; have NB312_273 := n21_; have NB305_312 := n22_; have NB312_305 := n23_; clear n0_ n1_ n2_ n3_ n4_ n5_ n6_ n7_ n8_ n9_ n10_ n11_ n12_ n13_ n14_ n15_ n16_ n17_ n18_ n19_ n20_ n21_ n22_ n23_; clear hb hbox hg; obtain ⟨Ao62, co62, eo62⟩ := Kd.R_slice HO308.out; subst eo62; have hnb63 := NB312_272.out; have hnc63 := NB272_312.out; have hnb64 := NB312_273.out; have hnc64 := NB273_312.out; have hnb65 := NB312_305.out; have hnc65 := NB305_312.out; have hcz66_0 : w61.cell? ⟨gb312, 0, none⟩ = some (.slice none 0 0) := (blk_cell BK312.out 0).trans rfl; have hcz66_1 : w61.cell? ⟨gb312, 1, none⟩ = some (.slice none 0 0) := (blk_cell BK312.out 1).trans rfl; have hfz66_0 := blk_frozen BK312.out 0; have hfz66_1 := blk_frozen BK312.out 1; obtain ⟨Ao67, co67, eo67⟩ := Kd.R_slice HO311.out; subst eo67) | ((with_reducible refine gate_callee (f := 37) rfl ?_); refine goesL_ (some 43) rfl rfl Tryd.func37 (by kernel_rfl) rfl #[.slice A2 l2.length c2] rfl ls_ ?_; (with_reducible refine (laws_toIntS.calls k _ _ l2 t313 _ ?side1 ?side2 A29.out).mono ?_); (case side1 => exact Kd.C_below HR2.out hb_); (case side2 => exact HC2.out); rintro e w68 ⟨v314, rfl, ho0, hb⟩; refine ⟨_, rfl, ?_⟩; have n0_ := Aside0.mk (Kd.R_below (by (with_reducible repeat (first | apply Kd.R_alloc | apply Kd.R_drewN | apply Kd.R_drew)); exact (Kd.R_mono (Kd.R_far (p := ⟨gb312, 1, none⟩) (Kd.R_far (p := ⟨gb312, 0, none⟩) (Kd.R_types HO278.out BK312.out (by decide)) (fun _ hk => hk.2) (.slice Ao62 t306.length co62)) (fun _ hk => hk.2) (.slice Ao67 t309.length co67)) (fun _ h_ => h_.1))) hb); have n1_ := Aside0.mk (Kd.R_below (by (with_reducible repeat (first | apply Kd.R_alloc | apply Kd.R_drewN | apply Kd.R_drew)); exact (Kd.R_mono (Kd.R_far (p := ⟨gb312, 1, none⟩) (Kd.R_far (p := ⟨gb312, 0, none⟩) (Kd.R_types HO281.out BK312.out (by decide)) (fun _ hk => hk.2) (.slice Ao62 t306.length co62)) (fun _ hk => hk.2) (.slice Ao67 t309.length co67)) (fun _ h_ => h_.1))) hb); have n2_ := Aside0.mk (Kd.S_elder' (by (with_reducible repeat (first | apply Kd.S_alloc | apply Kd.S_drewN | apply Kd.S_drew)); exact (Kd.S_mono (Kd.S_far (p := ⟨gb312, 1, none⟩) (Kd.S_far (p := ⟨gb312, 0, none⟩) (Kd.S_types HO284.out BK312.out (by decide)) (fun _ hk => hk.2) (.slice Ao62 t306.length co62)) (fun _ hk => hk.2) (.slice Ao67 t309.length co67)) (fun _ h_ => h_.1))) (Kd.R_base ho0) hb); have n3_ := Aside0.mk (Kd.R_below (by (with_reducible repeat (first | apply Kd.R_alloc | apply Kd.R_drewN | apply Kd.R_drew)); exact (Kd.R_mono (Kd.R_far (p := ⟨gb312, 1, none⟩) (Kd.R_far (p := ⟨gb312, 0, none⟩) (Kd.R_types HO287.out BK312.out (by decide)) (fun _ hk => hk.2) (.slice Ao62 t306.length co62)) (fun _ hk => hk.2) (.slice Ao67 t309.length co67)) (fun _ h_ => h_.1))) hb); have n4_ := Aside0.mk (Kd.R_below (by (with_reducible repeat (first | apply Kd.R_alloc | apply Kd.R_drewN | apply Kd.R_drew)); exact (Kd.R_mono (Kd.R_far (p := ⟨gb312, 1, none⟩) (Kd.R_far (p := ⟨gb312, 0, none⟩) (Kd.R_types HO290.out BK312.out (by decide)) (fun _ hk => hk.2) (.slice Ao62 t306.length co62)) (fun _ hk => hk.2) (.slice Ao67 t309.length co67)) (fun _ h_ => h_.1))) hb); have n5_ := Aside0.mk (Kd.R_elder' (by (with_reducible repeat (first | apply Kd.R_alloc | apply Kd.R_drewN | apply Kd.R_drew)); exact (Kd.R_mono (Kd.R_far (p := ⟨gb312, 1, none⟩) (Kd.R_far (p := ⟨gb312, 0, none⟩) (Kd.R_types HO293.out BK312.out (by decide)) (fun _ hk => hk.2) (.slice Ao62 t306.length co62)) (fun _ hk => hk.2) (.slice Ao67 t309.length co67)) (fun _ h_ => h_.1))) (Kd.R_base ho0) hb); have n6_ := Aside0.mk (Kd.R_below (by (with_reducible repeat (first | apply Kd.R_alloc | apply Kd.R_drewN | apply Kd.R_drew)); exact (Kd.R_mono (Kd.R_far (p := ⟨gb312, 1, none⟩) (Kd.R_far (p := ⟨gb312, 0, none⟩) (Kd.R_types HO298.out BK312.out (by decide)) (fun _ hk => hk.2) (.slice Ao62 t306.length co62)) (fun _ hk => hk.2) (.slice Ao67 t309.length co67)) (fun _ h_ => h_.1))) hb); have n7_ := Aside0.mk (Kd.R_below (by (with_reducible repeat (first | apply Kd.R_alloc | apply Kd.R_drewN | apply Kd.R_drew)); exact (Kd.R_mono (Kd.R_far (p := ⟨gb312, 1, none⟩) (Kd.R_far (p := ⟨gb312, 0, none⟩) (Kd.R_types HO301.out BK312.out (by decide)) (fun _ hk => hk.2) (.slice Ao62 t306.length co62)) (fun _ hk => hk.2) (.slice Ao67 t309.length co67)) (fun _ h_ => h_.1))) hb); have n8_ := Aside0.mk (Kd.S_elder' (by (with_reducible repeat (first | apply Kd.S_alloc | apply Kd.S_drewN | apply Kd.S_drew)); exact (Kd.S_mono (Kd.S_far (p := ⟨gb312, 1, none⟩) (Kd.S_far (p := ⟨gb312, 0, none⟩) (Kd.S_types HO304.out BK312.out (by decide)) (fun _ hk => hk.2) (.slice Ao62 t306.length co62)) (fun _ hk => hk.2) (.slice Ao67 t309.length co67)) (fun _ h_ => h_.1))) (Kd.R_base ho0) hb); have n9_ := Aside0.mk (Kd.R_below (by (with_reducible repeat (first | apply Kd.R_alloc | apply Kd.R_drewN | apply Kd.R_drew)); exact (Kd.R_mono (Kd.R_far (p := ⟨gb312, 1, none⟩) (Kd.R_far (p := ⟨gb312, 0, none⟩) (Kd.R_types HO308.out BK312.out (by decide)) (fun _ hk => hk.2) (.slice Ao62 t306.length co62)) (fun _ hk => hk.2) (.slice Ao67 t309.length co67)) (fun _ h_ => h_.1))) hb); have n10_ := Aside0.mk (Kd.R_below (by (with_reducible repeat (first | apply Kd.R_alloc | apply Kd.R_drewN | apply Kd.R_drew)); exact (Kd.R_mono (Kd.R_far (p := ⟨gb312, 1, none⟩) (Kd.R_far (p := ⟨gb312, 0, none⟩) (Kd.R_types HO311.out BK312.out (by decide)) (fun _ hk => hk.2) (.slice Ao62 t306.length co62)) (fun _ hk => hk.2) (.slice Ao67 t309.length co67)) (fun _ h_ => h_.1))) hb); have n11_ := Aside0.mk (Kd.R_lower (Kd.R_new' ho0 (Kd.R_lt (by (with_reducible repeat (first | apply Kd.R_alloc | apply Kd.R_drewN | apply Kd.R_drew)); exact (Kd.R_mono (Kd.R_far (p := ⟨gb312, 1, none⟩) (Kd.R_far (p := ⟨gb312, 0, none⟩) (Kd.R_types HO293.out BK312.out (by decide)) (fun _ hk => hk.2) (.slice Ao62 t306.length co62)) (fun _ hk => hk.2) (.slice Ao67 t309.length co67)) (fun _ h_ => h_.1))))) (below_size hb_)); have n12_ := Aside0.mk (blk_below (g := gb272) (o := .cells #[.slice A0_0 l0_0.length c0_0, .slice A0_1 l0_1.length c0_1, .slice A0_2 l0_2.length c0_2] 26 (0, 0)) (by (with_reducible repeat (first | refine blk_drewN ?_ _ | refine blk_drew ?_ | refine blk_alloc ?_ _)); refine blk_far ?_ NB272_312.out _; (with_reducible repeat (first | refine blk_drewN ?_ _ | refine blk_drew ?_ | refine blk_alloc ?_ _)); refine blk_far ?_ NB272_312.out _; (with_reducible repeat (first | refine blk_drewN ?_ _ | refine blk_drew ?_ | refine blk_alloc ?_ _)); exact BK272.out) hb); have n13_ := Aside0.mk (blk_below (g := gb273) (o := .cells #[.slice A1_0 l1_0.length c1_0, .slice A1_1 l1_1.length c1_1] 28 (0, 0)) (by (with_reducible repeat (first | refine blk_drewN ?_ _ | refine blk_drew ?_ | refine blk_alloc ?_ _)); refine blk_far ?_ NB273_312.out _; (with_reducible repeat (first | refine blk_drewN ?_ _ | refine blk_drew ?_ | refine blk_alloc ?_ _)); refine blk_far ?_ NB273_312.out _; (with_reducible repeat (first | refine blk_drewN ?_ _ | refine blk_drew ?_ | refine blk_alloc ?_ _)); exact BK273.out) hb); have n14_ := Aside0.mk (blk_below (g := gb305) (o := .cells #[.slice Ao53 t296.length co53, .slice Ao57 t299.length co57, .slice Ao58 t302.length co58] 34 (0, 0)) (by (with_reducible repeat (first | refine blk_drewN ?_ _ | refine blk_drew ?_ | refine blk_alloc ?_ _)); refine blk_far ?_ NB305_312.out _; (with_reducible repeat (first | refine blk_drewN ?_ _ | refine blk_drew ?_ | refine blk_alloc ?_ _)); refine blk_far ?_ NB305_312.out _; (with_reducible repeat (first | refine blk_drewN ?_ _ | refine blk_drew ?_ | refine blk_alloc ?_ _)); exact BK305.out) hb); have n15_ := Aside0.mk (blk_below (g := gb312) (o := .cells #[.slice Ao62 t306.length co62, .slice Ao67 t309.length co67] 36 (0, 0)) (by (with_reducible repeat (first | refine blk_drewN ?_ _ | refine blk_drew ?_ | refine blk_alloc ?_ _)); refine blk_put (cs := #[.slice Ao62 t306.length co62, .slice none 0 0]) ?_ 1 _ rfl; (with_reducible repeat (first | refine blk_drewN ?_ _ | refine blk_drew ?_ | refine blk_alloc ?_ _)); refine blk_put (cs := #[.slice none 0 0, .slice none 0 0]) ?_ 0 _ rfl; (with_reducible repeat (first | refine blk_drewN ?_ _ | refine blk_drew ?_ | refine blk_alloc ?_ _)); exact BK312.out) hb); have n16_ := Aside0.mk (below_step hb_ hb); clear HO278; clear HO281; clear HO284; clear HO287; clear HO290; clear HO293; clear HO298; clear HO301; clear HO304; clear HO308; clear HO311; clear BK272; clear BK273; clear BK305; clear BK312; clear HB; have HO278 := n0_; have HO281 := n1_; have HO284 := n2_; have HO287 := n3_; have HO290 := n4_; have HO293 := n5_; have HO298 := n6_; have HO301 := n7_; have HO304 := n8_; have HO308 := n9_; have HO311 := n10_; have HO315 := n11_; have BK272 := n12_; have BK273 := n13_; have BK305 := n14_; have BK312 := n15_; have HB := n16_; clear n0_ n1_ n2_ n3_ n4_ n5_ n6_ n7_ n8_ n9_ n10_ n11_ n12_ n13_ n14_ n15_ n16_; (try clear hb); (try clear hb2); (try clear hk); (try clear hi); (try clear ho0); have hcz69_0 : w68.cell? ⟨gb305, 0, none⟩ = some (.slice Ao53 t296.length co53) := (blk_cell BK305.out 0).trans rfl; have hcz69_1 : w68.cell? ⟨gb305, 1, none⟩ = some (.slice Ao57 t299.length co57) := (blk_cell BK305.out 1).trans rfl; have hcz69_2 : w68.cell? ⟨gb305, 2, none⟩ = some (.slice Ao58 t302.length co58) := (blk_cell BK305.out 2).trans rfl; have hfz69_0 := blk_frozen BK305.out 0; have hfz69_1 := blk_frozen BK305.out 1; have hfz69_2 := blk_frozen BK305.out 2; have hcz70_0 : w68.cell? ⟨gb312, 0, none⟩ = some (.slice Ao62 t306.length co62) := (blk_cell BK312.out 0).trans rfl; have hcz70_1 : w68.cell? ⟨gb312, 1, none⟩ = some (.slice Ao67 t309.length co67) := (blk_cell BK312.out 1).trans rfl; have hfz70_0 := blk_frozen BK312.out 0; have hfz70_1 := blk_frozen BK312.out 1; obtain ⟨Ao71, co71, eo71⟩ := Kd.R_slice HO315.out; subst eo71) | ((with_reducible refine gate_callee (f := 38) rfl ?_); refine goesL_ (some 48) rfl rfl Tryd.func38 (by kernel_rfl) rfl #[.agg #[.slice Ao53 t296.length co53, .slice Ao57 t299.length co57, .slice Ao58 t302.length co58], .agg #[.slice Ao62 t306.length co62, .slice Ao67 t309.length co67], .slice Ao71 t313.length co71] rfl ls_ ?_; (with_reducible refine (impl_WishMet.calls k _ _ t296 _ _ t299 _ _ t302 _ _ t306 _ _ t309 _ _ t313 t316 t317 _ ?side1 ?side2 ?side3 ?side4 ?side5 ?side6 ?side7 ?side8 ?side9 ?side10 ?side11 ?side12 A30.out).mono ?_); (case side1 => exact ca_ (Kd.R_reads' HO298.out).2.2); (case side2 => exact (Kd.R_reads' HO298.out).2.1); (case side3 => exact ca_ (Kd.R_reads' HO301.out).2.2); (case side4 => exact (Kd.R_reads' HO301.out).2.1); (case side5 => exact ca_ (Kd.S_reads' HO304.out).2.2); (case side6 => exact (Kd.S_reads' HO304.out).2.1); (case side7 => exact ca_ (Kd.R_reads' HO308.out).2.2); (case side8 => exact (Kd.R_reads' HO308.out).2.1); (case side9 => exact ca_ (Kd.R_reads' HO311.out).2.2); (case side10 => exact (Kd.R_reads' HO311.out).2.1); (case side11 => exact ca_ (Kd.R_reads' HO315.out).2.2); (case side12 => exact (Kd.R_reads' HO315.out).2.1); rintro e w72 ⟨rfl, hb⟩; refine ⟨_, rfl, ?_⟩; have n0_ := Aside0.mk (Kd.R_below (ra_ HO278.out) hb); have n1_ := Aside0.mk (Kd.R_below (ra_ HO281.out) hb); have n2_ := Aside0.mk (Kd.S_below (sa_ HO284.out) hb); have n3_ := Aside0.mk (Kd.R_below (ra_ HO287.out) hb); have n4_ := Aside0.mk (Kd.R_below (ra_ HO290.out) hb); have n5_ := Aside0.mk (Kd.R_below (ra_ HO293.out) hb); have n6_ := Aside0.mk (Kd.R_below (ra_ HO298.out) hb); have n7_ := Aside0.mk (Kd.R_below (ra_ HO301.out) hb); have n8_ := Aside0.mk (Kd.S_below (sa_ HO304.out) hb); have n9_ := Aside0.mk (Kd.R_below (ra_ HO308.out) hb); have n10_ := Aside0.mk (Kd.R_below (ra_ HO311.out) hb); have n11_ := Aside0.mk (Kd.R_below (ra_ HO315.out) hb); have n12_ := bb_ BK272 hb; have n13_ := bb_ BK273 hb; have n14_ := bb_ BK305 hb; have n15_ := bb_ BK312 hb; have n16_ := Aside0.mk (below_step hb_ hb); clear HO278; clear HO281; clear HO284; clear HO287; clear HO290; clear HO293; clear HO298; clear HO301; clear HO304; clear HO308; clear HO311; clear HO315; clear BK272; clear BK273; clear BK305; clear BK312; clear HB; have HO278 := n0_; have HO281 := n1_; have HO284 := n2_; have HO287 := n3_; have HO290 := n4_; have HO293 := n5_; have HO298 := n6_; have HO301 := n7_; have HO304 := n8_; have HO308 := n9_; have HO311 := n10_; have HO315 := n11_; have BK272 := n12_; have BK273 := n13_; have BK305 := n14_; have BK312 := n15_; have HB := n16_; clear n0_ n1_ n2_ n3_ n4_ n5_ n6_ n7_ n8_ n9_ n10_ n11_ n12_ n13_ n14_ n15_ n16_; (try clear hb); (try clear hb2); (try clear hk); (try clear hi)))
     (try simp only [Act.put, List.setIfInBounds_toArray, List.set_cons_zero, List.set_cons_succ])
     go_cut [58] (fun v58 wc => ∃ (kq : Nat) (x58_30 : Bool), v58 = .bool x58_30 ∧ Aside0 (laws_FnExactWishMet.j0 kq l2 t313 x58_30 l0_0 l0_1 l0_2 l1_0 l1_1 t296 t299 t302 t306 t309 = some r) ∧ Aside0 (kq ≤ k) ∧ Aside0 (Kd.R (Kd.int .i64) 3 wc w.heap.size (fun _ => True) (.slice Ao71 t313.length co71) t313) ∧ Aside0 (Kd.R Kd.string 9 wc w.heap.size (fun k_ => some k_ ≠ ((.slice Ao62 t306.length co62) : Value).ownBlock ∧ some k_ ≠ ((.slice Ao67 t309.length co67) : Value).ownBlock) (.slice Ao53 t296.length co53) t296) ∧ Aside0 (Kd.R Kd.bool 4 wc w.heap.size (fun _ => True) (.slice Ao57 t299.length co57) t299) ∧ Aside0 (Kd.S (Kd.slice 3 (Kd.int .i64)) 31 wc w.heap.size (fun k_ => some k_ ≠ ((.slice Ao71 t313.length co71) : Value).ownBlock) (.slice Ao58 t302.length co58) t302) ∧ Aside0 (Kd.R Kd.string 9 wc w.heap.size (fun k_ => some k_ ≠ ((.slice Ao53 t296.length co53) : Value).ownBlock ∧ some k_ ≠ ((.slice Ao67 t309.length co67) : Value).ownBlock) (.slice Ao62 t306.length co62) t306) ∧ Aside0 (Kd.R Kd.string 9 wc w.heap.size (fun k_ => some k_ ≠ ((.slice Ao53 t296.length co53) : Value).ownBlock ∧ some k_ ≠ ((.slice Ao62 t306.length co62) : Value).ownBlock) (.slice Ao67 t309.length co67) t309) ∧ Aside0 (wc.heap[gb272]? = some (.cells #[(.slice A0_0 l0_0.length c0_0), (.slice A0_1 l0_1.length c0_1), (.slice A0_2 l0_2.length c0_2)] 26 (0, 0))) ∧ Aside0 (wc.heap[gb273]? = some (.cells #[(.slice A1_0 l1_0.length c1_0), (.slice A1_1 l1_1.length c1_1)] 28 (0, 0))) ∧ Aside0 (wc.heap[gb305]? = some (.cells #[(.slice Ao53 t296.length co53), (.slice Ao57 t299.length co57), (.slice Ao58 t302.length co58)] 34 (0, 0))) ∧ Aside0 (wc.heap[gb312]? = some (.cells #[(.slice Ao62 t306.length co62), (.slice Ao67 t309.length co67)] 36 (0, 0))) ∧ Aside0 (Below w.heap.size w wc))
     case first =>
      have H := HC31.out
      clear HC31
      by_cases c73 : (t316 != t294) = true
      ·rw [if_pos c73] at H
       have c73b0 : (t316 != t294) = true := c73
       (try (have c73b1 : decide (t316 = t294) = false := by simpa using c73))
       (try (have c73b2 : (t316 == t294) = false := by simpa using c73))
       (try (have c73b3 : ¬ (t316 = t294) := by simpa using c73))
       clear c73
       (first | rw [c73b0] | (simp only [i64_w, i32_w]; rw [c73b0]) | skip)
       have H' := Aside0.mk H
       clear H
       go_wp2
       go_meet
       case rel => exact ⟨_, (true), es_, H', ⟨by first | omega | exact Nat.le_refl _⟩, ⟨by (with_reducible repeat (first | apply Kd.R_alloc | apply Kd.R_drewN | apply Kd.R_drew)); exact Kd.R_mono HO315.out (fun _ hk => trivial)⟩, ⟨by (with_reducible repeat (first | apply Kd.R_alloc | apply Kd.R_drewN | apply Kd.R_drew)); exact Kd.R_mono HO298.out (fun _ hk => ⟨hk.1.2, hk.2⟩)⟩, ⟨by (with_reducible repeat (first | apply Kd.R_alloc | apply Kd.R_drewN | apply Kd.R_drew)); exact Kd.R_mono HO301.out (fun _ hk => trivial)⟩, ⟨by (with_reducible repeat (first | apply Kd.S_alloc | apply Kd.S_drewN | apply Kd.S_drew)); exact Kd.S_mono HO304.out (fun _ hk => hk.2)⟩, ⟨by (with_reducible repeat (first | apply Kd.R_alloc | apply Kd.R_drewN | apply Kd.R_drew)); exact Kd.R_mono HO308.out (fun _ hk => ⟨hk.2, hk.1.1.1.1⟩)⟩, ⟨by (with_reducible repeat (first | apply Kd.R_alloc | apply Kd.R_drewN | apply Kd.R_drew)); exact Kd.R_mono HO311.out (fun _ hk => ⟨hk.2, hk.1.1.1.1⟩)⟩, ⟨bk_ BK272.out⟩, ⟨bk_ BK273.out⟩, ⟨bk_ BK305.out⟩, ⟨bk_ BK312.out⟩, ⟨hb_⟩⟩
      ·rw [if_neg c73] at H
       have c73b0 : (t316 != t294) = false := by simpa using c73
       (try (have c73b1 : decide (t316 = t294) = true := by simpa using c73))
       (try (have c73b2 : (t316 == t294) = true := by simpa using c73))
       clear c73
       (first | rw [c73b0] | (simp only [i64_w, i32_w]; rw [c73b0]) | skip)
       have H' := Aside0.mk H
       clear H
       go_wp2
       go_meet
       case rel => exact ⟨_, ((t317 != t295)), es_, H', ⟨by first | omega | exact Nat.le_refl _⟩, ⟨by (with_reducible repeat (first | apply Kd.R_alloc | apply Kd.R_drewN | apply Kd.R_drew)); exact Kd.R_mono HO315.out (fun _ hk => trivial)⟩, ⟨by (with_reducible repeat (first | apply Kd.R_alloc | apply Kd.R_drewN | apply Kd.R_drew)); exact Kd.R_mono HO298.out (fun _ hk => ⟨hk.1.2, hk.2⟩)⟩, ⟨by (with_reducible repeat (first | apply Kd.R_alloc | apply Kd.R_drewN | apply Kd.R_drew)); exact Kd.R_mono HO301.out (fun _ hk => trivial)⟩, ⟨by (with_reducible repeat (first | apply Kd.S_alloc | apply Kd.S_drewN | apply Kd.S_drew)); exact Kd.S_mono HO304.out (fun _ hk => hk.2)⟩, ⟨by (with_reducible repeat (first | apply Kd.R_alloc | apply Kd.R_drewN | apply Kd.R_drew)); exact Kd.R_mono HO308.out (fun _ hk => ⟨hk.2, hk.1.1.1.1⟩)⟩, ⟨by (with_reducible repeat (first | apply Kd.R_alloc | apply Kd.R_drewN | apply Kd.R_drew)); exact Kd.R_mono HO311.out (fun _ hk => ⟨hk.2, hk.1.1.1.1⟩)⟩, ⟨bk_ BK272.out⟩, ⟨bk_ BK273.out⟩, ⟨bk_ BK305.out⟩, ⟨bk_ BK312.out⟩, ⟨hb_⟩⟩
     case rest =>
      clear HC31
      try clear c1
      try clear c2
      try clear p2
      try clear c3
      try clear c4
      try clear c4b0
      try clear c4b1
      try clear c5
      try clear c6
      try clear c7
      try clear c8
      try clear c8b0
      try clear c11
      try clear c12
      try clear c13
      try clear c15
      try clear c15b0
      try clear c16
      try clear c18
      try clear c34
      try clear c36
      try clear c37
      try clear c38
      try clear c54
      try clear c55
      try clear c63
      try clear c64
      try clear c65
      try clear c73
      try clear c73b0
      try clear c73b1
      try clear c73b2
      try clear hcz12_0
      try clear hcz12_1
      try clear hcz12_2
      try clear hcz19_0
      try clear hcz19_1
      try clear hcz19_2
      try clear hcz21_0
      try clear hcz21_1
      try clear hcz35_0
      try clear hcz35_1
      try clear hcz35_2
      try clear hcz37_0
      try clear hcz37_1
      try clear hcz50_0
      try clear hcz50_1
      try clear hcz50_2
      try clear hcz56_0
      try clear hcz56_1
      try clear hcz56_2
      try clear hcz59_0
      try clear hcz59_1
      try clear hcz66_0
      try clear hcz66_1
      try clear hcz69_0
      try clear hcz69_1
      try clear hcz69_2
      try clear hcz70_0
      try clear hcz70_1
      try clear hfz12_0
      try clear hfz12_1
      try clear hfz12_2
      try clear hfz19_0
      try clear hfz19_1
      try clear hfz19_2
      try clear hfz21_0
      try clear hfz21_1
      try clear hfz35_0
      try clear hfz35_1
      try clear hfz35_2
      try clear hfz37_0
      try clear hfz37_1
      try clear hfz50_0
      try clear hfz50_1
      try clear hfz50_2
      try clear hfz56_0
      try clear hfz56_1
      try clear hfz56_2
      try clear hfz59_0
      try clear hfz59_1
      try clear hfz66_0
      try clear hfz66_1
      try clear hfz69_0
      try clear hfz69_1
      try clear hfz69_2
      try clear hfz70_0
      try clear hfz70_1
      obtain ⟨kq, x58_30, rfl, HA, HJ30, HO_12, HO_306000, HO_306001, HO_306002, HO_313000, HO_313001, BK272, BK273, BK305, BK312, HB⟩ := hcut
      cases kq with
      | zero => exact absurd HA.out (by simp [laws_FnExactWishMet.j0])
      | succ kj30 =>
       have H := HA.out
       clear HA
       simp only [laws_FnExactWishMet.j0] at H
       by_cases c74 : x58_30 = true
       ·subst c74
        rw [if_pos rfl] at H
        obtain rfl := Option.some.inj H
        go_wp2
        go_ret
        exact ⟨er_, hb_⟩
       ·replace c74 := Bool.eq_false_iff.mpr c74
        subst c74
        rw [if_neg (show ¬ (false = true) by decide)] at H
        replace H := Option.bind_eq_some_iff.mp H
        obtain ⟨⟨t318, t321, t324⟩, A750, H⟩ := H
        replace H : ((laws_eqBoard.f kj30 t296 t299 t302 t318 t321 t324).bind fun t327 => (if t327 = true then ((laws_toWish.f kj30 l1_0 l1_1).bind fun bt328 => ((laws_eqWish.f kj30 t306 t309 bt328.1 bt328.2).bind fun t334 => (if t334 = true then ((laws_toIntS.f kj30 l2).bind fun t335 => ((laws_eqIntS.f kj30 t313 t335).bind fun t338 => (if t338 = true then (some true) else (some false)))) else (some false)))) else (some false))) = some r := H
        have A75 := Aside0.mk A750
        clear A750
        replace H := Option.bind_eq_some_iff.mp H
        obtain ⟨t327, A760, H⟩ := H
        replace H : (if t327 = true then ((laws_toWish.f kj30 l1_0 l1_1).bind fun bt328 => ((laws_eqWish.f kj30 t306 t309 bt328.1 bt328.2).bind fun t334 => (if t334 = true then ((laws_toIntS.f kj30 l2).bind fun t335 => ((laws_eqIntS.f kj30 t313 t335).bind fun t338 => (if t338 = true then (some true) else (some false)))) else (some false)))) else (some false)) = some r := H
        have A76 := Aside0.mk A760
        clear A760
        by_cases c77 : t327 = true
        ·subst c77
         rw [if_pos rfl] at H
         replace H := Option.bind_eq_some_iff.mp H
         obtain ⟨⟨t328, t331⟩, A780, H⟩ := H
         replace H : ((laws_eqWish.f kj30 t306 t309 t328 t331).bind fun t334 => (if t334 = true then ((laws_toIntS.f kj30 l2).bind fun t335 => ((laws_eqIntS.f kj30 t313 t335).bind fun t338 => (if t338 = true then (some true) else (some false)))) else (some false))) = some r := H
         have A78 := Aside0.mk A780
         clear A780
         replace H := Option.bind_eq_some_iff.mp H
         obtain ⟨t334, A790, H⟩ := H
         replace H : (if t334 = true then ((laws_toIntS.f kj30 l2).bind fun t335 => ((laws_eqIntS.f kj30 t313 t335).bind fun t338 => (if t338 = true then (some true) else (some false)))) else (some false)) = some r := H
         have A79 := Aside0.mk A790
         clear A790
         by_cases c80 : t334 = true
         ·subst c80
          rw [if_pos rfl] at H
          replace H := Option.bind_eq_some_iff.mp H
          obtain ⟨t335, A810, H⟩ := H
          replace H : ((laws_eqIntS.f kj30 t313 t335).bind fun t338 => (if t338 = true then (some true) else (some false))) = some r := H
          have A81 := Aside0.mk A810
          clear A810
          replace H := Option.bind_eq_some_iff.mp H
          obtain ⟨t338, A820, H⟩ := H
          replace H : (if t338 = true then (some true) else (some false)) = some r := H
          have A82 := Aside0.mk A820
          clear A820
          by_cases c83 : t338 = true
          ·subst c83
           rw [if_pos rfl] at H
           obtain rfl := Option.some.inj H
           try go_wp2
           have n0_ := Aside0.mk (Kd.R_drew HO_12.out)
           have n1_ := Aside0.mk (Kd.R_drew HO_306000.out)
           have n2_ := Aside0.mk (Kd.R_drew HO_306001.out)
           have n3_ := Aside0.mk (Kd.S_drew HO_306002.out)
           have n4_ := Aside0.mk (Kd.R_drew HO_313000.out)
           have n5_ := Aside0.mk (Kd.R_drew HO_313001.out)
           have n6_ := Aside0.mk (blk_drew BK272.out)
           have n7_ := Aside0.mk (blk_drew BK273.out)
           have n8_ := Aside0.mk (blk_drew BK305.out)
           have n9_ := Aside0.mk (blk_drew BK312.out)
           have n10_ := Aside0.mk (below_drew1 HB.out)
           clear HO_12
           clear HO_306000
           clear HO_306001
           clear HO_306002
           clear HO_313000
           clear HO_313001
           clear BK272
           clear BK273
           clear BK305
           clear BK312
           clear HB
           have HO_12 := n0_
           have HO_306000 := n1_
           have HO_306001 := n2_
           have HO_306002 := n3_
           have HO_313000 := n4_
           have HO_313001 := n5_
           have BK272 := n6_
           have BK273 := n7_
           have BK305 := n8_
           have BK312 := n9_
           have HB := n10_
           clear n0_ n1_ n2_ n3_ n4_ n5_ n6_ n7_ n8_ n9_ n10_
           refine start_ (n := 5) (S := fun w' => w'.cell? ⟨gb305, 0, none⟩ = some (.slice Ao53 t296.length co53) ∧ w'.cell? ⟨gb305, 1, none⟩ = some (.slice Ao57 t299.length co57) ∧ w'.cell? ⟨gb305, 2, none⟩ = some (.slice Ao58 t302.length co58) ∧ w'.cell? ⟨gb272, 0, none⟩ = some (.slice A0_0 l0_0.length c0_0) ∧ w'.cell? ⟨gb272, 1, none⟩ = some (.slice A0_1 l0_1.length c0_1) ∧ w'.cell? ⟨gb272, 2, none⟩ = some (.slice A0_2 l0_2.length c0_2)) (ds := []) #[false, false, false, false, false] (by kernel_rfl) rfl rfl ⟨(blk_cell BK305.out 0).trans rfl, (blk_cell BK305.out 1).trans rfl, (blk_cell BK305.out 2).trans rfl, (blk_cell BK272.out 0).trans rfl, (blk_cell BK272.out 1).trans rfl, (blk_cell BK272.out 2).trans rfl⟩ (fun hHeld => ?_)
           generalize wc.drew = w84 at HO_12 HO_306000 HO_306001 HO_306002 HO_313000 HO_313001 BK272 BK273 BK305 BK312 HB hHeld ⊢
           refine take_ (i := 0) (N := some 59) (v := ?_) (a' := ?_) #[true, false, false, false, false] rfl rfl (by kernel_rfl) (fun _ _ _ h => h) (Or.inl ⟨by rfl, ?_⟩) hHeld ?_ ?_
           rotate_left
           ·rintro w' ⟨s0, s1, s2, s3, s4, s5⟩
            go_simp
            with_reducible rfl
           rotate_left
           ·simp only [Act.put, List.setIfInBounds_toArray, List.set_cons_zero, List.set_cons_succ, i64_w, i32_w]
            rfl
           refine take_ (i := 1) (N := some 60) (v := ?_) (a' := ?_) #[true, true, false, false, false] rfl rfl (by kernel_rfl) (fun _ _ _ h => h) (Or.inl ⟨by rfl, ?_⟩) hHeld ?_ ?_
           rotate_left
           ·rintro w' ⟨s0, s1, s2, s3, s4, s5⟩
            go_simp
            with_reducible rfl
           rotate_left
           ·simp only [Act.put, List.setIfInBounds_toArray, List.set_cons_zero, List.set_cons_succ, i64_w, i32_w]
            rfl
           refine one_ (i := 2) (N := some 61) #[true, true, true, false, false] rfl rfl (by kernel_rfl) (by decide) (fun K hK => ?_)
           refine goes_ Tryd.func15 (by kernel_rfl) rfl #[.agg #[.slice A0_0 l0_0.length c0_0, .slice A0_1 l0_1.length c0_1, .slice A0_2 l0_2.length c0_2]] (by rfl) rfl rfl ls_ ?_
           with_reducible refine (laws_toBoard.calls kj30 _ _ l0_0 _ _ l0_1 _ _ l0_2 t318 t321 t324 _ ?side1 ?side2 ?side3 ?side4 ?side5 ?side6 A75.out).mono ?_
           (case side1 => exact cb_ HR0_0.out)
           (case side2 => exact HC0_0.out)
           (case side3 => exact cb_ HR0_1.out)
           (case side4 => exact HC0_1.out)
           (case side5 => exact cb_ HR0_2.out)
           (case side6 => exact HC0_2.out)
           rintro e w85 ⟨v319, v322, v325, rfl, ho0, ho1, ho2, hb⟩
           refine ⟨_, rfl, ?_⟩
           have n0_ := Aside0.mk (Kd.R_below (ra_ HO_12.out) hb)
           have n1_ := Aside0.mk (Kd.R_elder' (ra_ HO_306000.out) (Kd.R_base ho0) hb)
           have n2_ := Aside0.mk (Kd.R_elder' (ra_ HO_306001.out) (Kd.R_base ho1) hb)
           have n3_ := Aside0.mk (Kd.S_elder' (sa_ HO_306002.out) (Kd.S_base ho2) hb)
           have n4_ := Aside0.mk (Kd.R_elder' (ra_ HO_313000.out) (Kd.R_base ho0) hb)
           have n5_ := Aside0.mk (Kd.R_elder' (ra_ HO_313001.out) (Kd.R_base ho0) hb)
           have n6_ := Aside0.mk (Kd.R_lower (Kd.R_new' (Kd.R_new' (Kd.R_new' ho0 (Kd.R_lt (ra_ HO_306000.out))) (Kd.R_lt (ra_ HO_313000.out))) (Kd.R_lt (ra_ HO_313001.out))) (below_size hb_))
           have n7_ := Aside0.mk (Kd.R_lower (Kd.R_new' ho1 (Kd.R_lt (ra_ HO_306001.out))) (below_size hb_))
           have n8_ := Aside0.mk (Kd.S_lower (Kd.S_new' (Kd.S_new' ho2 (Kd.R_lt (ra_ HO_12.out))) (Kd.S_lt (sa_ HO_306002.out))) (below_size hb_))
           have n9_ := bb_ BK272 hb
           have n10_ := bb_ BK273 hb
           have n11_ := bb_ BK305 hb
           have n12_ := bb_ BK312 hb
           have n13_ := Aside0.mk (below_step hb_ hb)
           clear HO_12
           clear HO_306000
           clear HO_306001
           clear HO_306002
           clear HO_313000
           clear HO_313001
           clear BK272
           clear BK273
           clear BK305
           clear BK312
           clear HB
           have HO_12 := n0_
           have HO_306000 := n1_
           have HO_306001 := n2_
           have HO_306002 := n3_
           have HO_313000 := n4_
           have HO_313001 := n5_
           have HO320 := n6_
           have HO323 := n7_
           have HO326 := n8_
           have BK272 := n9_
           have BK273 := n10_
           have BK305 := n11_
           have BK312 := n12_
           have HB := n13_
           clear n0_ n1_ n2_ n3_ n4_ n5_ n6_ n7_ n8_ n9_ n10_ n11_ n12_ n13_
           (try clear hb)
           (try clear hb2)
           (try clear hk)
           (try clear hi)
           (try clear ho0)
           (try clear ho1)
           (try clear ho2)
           obtain ⟨Ao86, co86, eo86⟩ := Kd.R_slice HO320.out
           (first | subst eo86 | (injection eo86 with f1_ f2_ f3_; have f4_ := f1_.symm; have f5_ := f3_.symm; clear f1_ f2_ f3_; subst f4_; subst f5_))
           obtain ⟨Ao87, co87, eo87⟩ := Kd.R_slice HO323.out
           (first | subst eo87 | (injection eo87 with f1_ f2_ f3_; have f4_ := f1_.symm; have f5_ := f3_.symm; clear f1_ f2_ f3_; subst f4_; subst f5_))
           obtain ⟨Ao88, co88, eo88⟩ := Kd.S_slice HO326.out
           (first | subst eo88 | (injection eo88 with f1_ f2_ f3_; have f4_ := f1_.symm; have f5_ := f3_.symm; clear f1_ f2_ f3_; subst f4_; subst f5_))
           refine hK.out _ _ ⟨(blk_cell BK305.out 0).trans rfl, (blk_cell BK305.out 1).trans rfl, (blk_cell BK305.out 2).trans rfl, (blk_cell BK272.out 0).trans rfl, (blk_cell BK272.out 1).trans rfl, (blk_cell BK272.out 2).trans rfl⟩ (fun hHeld => ?_)
           clear hK K
           refine norm_ (a' := ?_) ?_ ?_
           rotate_left
           ·show Act.put _ (some 61) _ = _
            simp only [Act.put, List.setIfInBounds_toArray, List.set_cons_zero, List.set_cons_succ, i64_w, i32_w]
            rfl
           refine one_ (i := 3) (N := some 62) #[true, true, true, true, false] rfl rfl (by kernel_rfl) (by decide) (fun K hK => ?_)
           refine goes_ Tryd.func19 (by kernel_rfl) rfl #[.agg #[.slice Ao53 t296.length co53, .slice Ao57 t299.length co57, .slice Ao58 t302.length co58], .agg #[.slice Ao86 t318.length co86, .slice Ao87 t321.length co87, .slice Ao88 t324.length co88]] (by rfl) rfl rfl ls_ ?_
           with_reducible refine (laws_eqBoard.calls kj30 _ _ t296 _ _ t299 _ _ t302 _ _ t318 _ _ t321 _ _ t324 true _ ?side1 ?side2 ?side3 ?side4 ?side5 ?side6 ?side7 ?side8 ?side9 ?side10 ?side11 ?side12 A76.out).mono ?_
           (case side1 => exact ca_ (Kd.R_reads' HO_306000.out).2.2)
           (case side2 => exact (Kd.R_reads' HO_306000.out).2.1)
           (case side3 => exact ca_ (Kd.R_reads' HO_306001.out).2.2)
           (case side4 => exact (Kd.R_reads' HO_306001.out).2.1)
           (case side5 => exact ca_ (Kd.S_reads' HO_306002.out).2.2)
           (case side6 => exact (Kd.S_reads' HO_306002.out).2.1)
           (case side7 => exact ca_ (Kd.R_reads' HO320.out).2.2)
           (case side8 => exact (Kd.R_reads' HO320.out).2.1)
           (case side9 => exact ca_ (Kd.R_reads' HO323.out).2.2)
           (case side10 => exact (Kd.R_reads' HO323.out).2.1)
           (case side11 => exact ca_ (Kd.S_reads' HO326.out).2.2)
           (case side12 => exact (Kd.S_reads' HO326.out).2.1)
           rintro e w89 ⟨rfl, hb⟩
           refine ⟨_, rfl, ?_⟩
           have n0_ := Aside0.mk (Kd.R_below (ra_ HO_12.out) hb)
           have n1_ := Aside0.mk (Kd.R_below (ra_ HO_306000.out) hb)
           have n2_ := Aside0.mk (Kd.R_below (ra_ HO_306001.out) hb)
           have n3_ := Aside0.mk (Kd.S_below (sa_ HO_306002.out) hb)
           have n4_ := Aside0.mk (Kd.R_below (ra_ HO_313000.out) hb)
           have n5_ := Aside0.mk (Kd.R_below (ra_ HO_313001.out) hb)
           have n6_ := Aside0.mk (Kd.R_below (ra_ HO320.out) hb)
           have n7_ := Aside0.mk (Kd.R_below (ra_ HO323.out) hb)
           have n8_ := Aside0.mk (Kd.S_below (sa_ HO326.out) hb)
           have n9_ := bb_ BK272 hb
           have n10_ := bb_ BK273 hb
           have n11_ := bb_ BK305 hb
           have n12_ := bb_ BK312 hb
           have n13_ := Aside0.mk (below_step hb_ hb)
           clear HO_12
           clear HO_306000
           clear HO_306001
           clear HO_306002
           clear HO_313000
           clear HO_313001
           clear HO320
           clear HO323
           clear HO326
           clear BK272
           clear BK273
           clear BK305
           clear BK312
           clear HB
           have HO_12 := n0_
           have HO_306000 := n1_
           have HO_306001 := n2_
           have HO_306002 := n3_
           have HO_313000 := n4_
           have HO_313001 := n5_
           have HO320 := n6_
           have HO323 := n7_
           have HO326 := n8_
           have BK272 := n9_
           have BK273 := n10_
           have BK305 := n11_
           have BK312 := n12_
           have HB := n13_
           clear n0_ n1_ n2_ n3_ n4_ n5_ n6_ n7_ n8_ n9_ n10_ n11_ n12_ n13_
           (try clear hb)
           (try clear hb2)
           (try clear hk)
           (try clear hi)
           refine hK.out _ _ ⟨(blk_cell BK305.out 0).trans rfl, (blk_cell BK305.out 1).trans rfl, (blk_cell BK305.out 2).trans rfl, (blk_cell BK272.out 0).trans rfl, (blk_cell BK272.out 1).trans rfl, (blk_cell BK272.out 2).trans rfl⟩ (fun hHeld => ?_)
           clear hK K
           refine norm_ (a' := ?_) ?_ ?_
           rotate_left
           ·show Act.put _ (some 62) _ = _
            simp only [Act.put, List.setIfInBounds_toArray, List.set_cons_zero, List.set_cons_succ, i64_w, i32_w]
            rfl
           refine pure_ (i := 4) (N := some 63) (v := ?_) (a' := ?_) #[true, true, true, true, true] rfl rfl (by kernel_rfl) (fun _ _ _ h => h) (Or.inl ⟨by rfl, ?_⟩) ?_ ?_
           rotate_left
           ·intro w'
            go_simp
            with_reducible rfl
           rotate_left
           ·simp only [Act.put, List.setIfInBounds_toArray, List.set_cons_zero, List.set_cons_succ, i64_w, i32_w]
            rfl
           refine done_ (by kernel_rfl) ?_
           try go_wp2
           have n0_ := Aside0.mk (Kd.R_drew HO_12.out)
           have n1_ := Aside0.mk (Kd.R_drew HO_306000.out)
           have n2_ := Aside0.mk (Kd.R_drew HO_306001.out)
           have n3_ := Aside0.mk (Kd.S_drew HO_306002.out)
           have n4_ := Aside0.mk (Kd.R_drew HO_313000.out)
           have n5_ := Aside0.mk (Kd.R_drew HO_313001.out)
           have n6_ := Aside0.mk (Kd.R_drew HO320.out)
           have n7_ := Aside0.mk (Kd.R_drew HO323.out)
           have n8_ := Aside0.mk (Kd.S_drew HO326.out)
           have n9_ := Aside0.mk (blk_drew BK272.out)
           have n10_ := Aside0.mk (blk_drew BK273.out)
           have n11_ := Aside0.mk (blk_drew BK305.out)
           have n12_ := Aside0.mk (blk_drew BK312.out)
           have n13_ := Aside0.mk (below_drew1 HB.out)
           clear HO_12
           clear HO_306000
           clear HO_306001
           clear HO_306002
           clear HO_313000
           clear HO_313001
           clear HO320
           clear HO323
           clear HO326
           clear BK272
           clear BK273
           clear BK305
           clear BK312
           clear HB
           have HO_12 := n0_
           have HO_306000 := n1_
           have HO_306001 := n2_
           have HO_306002 := n3_
           have HO_313000 := n4_
           have HO_313001 := n5_
           have HO320 := n6_
           have HO323 := n7_
           have HO326 := n8_
           have BK272 := n9_
           have BK273 := n10_
           have BK305 := n11_
           have BK312 := n12_
           have HB := n13_
           clear n0_ n1_ n2_ n3_ n4_ n5_ n6_ n7_ n8_ n9_ n10_ n11_ n12_ n13_
           refine start_ (n := 5) (S := fun w' => w'.cell? ⟨gb312, 0, none⟩ = some (.slice Ao62 t306.length co62) ∧ w'.cell? ⟨gb312, 1, none⟩ = some (.slice Ao67 t309.length co67) ∧ w'.cell? ⟨gb273, 0, none⟩ = some (.slice A1_0 l1_0.length c1_0) ∧ w'.cell? ⟨gb273, 1, none⟩ = some (.slice A1_1 l1_1.length c1_1)) (ds := []) #[false, false, false, false, false] (by kernel_rfl) rfl rfl ⟨(blk_cell BK312.out 0).trans rfl, (blk_cell BK312.out 1).trans rfl, (blk_cell BK273.out 0).trans rfl, (blk_cell BK273.out 1).trans rfl⟩ (fun hHeld => ?_)
           generalize w89.drew = w90 at HO_12 HO_306000 HO_306001 HO_306002 HO_313000 HO_313001 HO320 HO323 HO326 BK272 BK273 BK305 BK312 HB hHeld ⊢
           refine take_ (i := 0) (N := some 64) (v := ?_) (a' := ?_) #[true, false, false, false, false] rfl rfl (by kernel_rfl) (fun _ _ _ h => h) (Or.inl ⟨by rfl, ?_⟩) hHeld ?_ ?_
           rotate_left
           ·rintro w' ⟨s0, s1, s2, s3⟩
            go_simp
            with_reducible rfl
           rotate_left
           ·simp only [Act.put, List.setIfInBounds_toArray, List.set_cons_zero, List.set_cons_succ, i64_w, i32_w]
            rfl
           refine take_ (i := 1) (N := some 65) (v := ?_) (a' := ?_) #[true, true, false, false, false] rfl rfl (by kernel_rfl) (fun _ _ _ h => h) (Or.inl ⟨by rfl, ?_⟩) hHeld ?_ ?_
           rotate_left
           ·rintro w' ⟨s0, s1, s2, s3⟩
            go_simp
            with_reducible rfl
           rotate_left
           ·simp only [Act.put, List.setIfInBounds_toArray, List.set_cons_zero, List.set_cons_succ, i64_w, i32_w]
            rfl
           refine one_ (i := 2) (N := some 66) #[true, true, true, false, false] rfl rfl (by kernel_rfl) (by decide) (fun K hK => ?_)
           refine goes_ Tryd.func16 (by kernel_rfl) rfl #[.agg #[.slice A1_0 l1_0.length c1_0, .slice A1_1 l1_1.length c1_1]] (by rfl) rfl rfl ls_ ?_
           with_reducible refine (laws_toWish.calls kj30 _ _ l1_0 _ _ l1_1 t328 t331 _ ?side1 ?side2 ?side3 ?side4 A78.out).mono ?_
           (case side1 => exact cb_ HR1_0.out)
           (case side2 => exact HC1_0.out)
           (case side3 => exact cb_ HR1_1.out)
           (case side4 => exact HC1_1.out)
           rintro e w91 ⟨v329, v332, rfl, ho0, ho1, hb⟩
           refine ⟨_, rfl, ?_⟩
           have n0_ := Aside0.mk (Kd.R_below (ra_ HO_12.out) hb)
           have n1_ := Aside0.mk (Kd.R_mono (Kd.R_told (Kd.R_told (Kd.R_old (ra_ HO_306000.out) hb) (Kd.R_base ho0)) (Kd.R_base ho1)) (fun _ h_ => h_.1))
           have n2_ := Aside0.mk (Kd.R_below (ra_ HO_306001.out) hb)
           have n3_ := Aside0.mk (Kd.S_below (sa_ HO_306002.out) hb)
           have n4_ := Aside0.mk (Kd.R_mono (Kd.R_told (Kd.R_told (Kd.R_old (ra_ HO_313000.out) hb) (Kd.R_base ho0)) (Kd.R_base ho1)) (fun _ h_ => h_.1))
           have n5_ := Aside0.mk (Kd.R_mono (Kd.R_told (Kd.R_told (Kd.R_old (ra_ HO_313001.out) hb) (Kd.R_base ho0)) (Kd.R_base ho1)) (fun _ h_ => h_.1))
           have n6_ := Aside0.mk (Kd.R_mono (Kd.R_told (Kd.R_told (Kd.R_old (ra_ HO320.out) hb) (Kd.R_base ho0)) (Kd.R_base ho1)) (fun _ h_ => h_.1))
           have n7_ := Aside0.mk (Kd.R_below (ra_ HO323.out) hb)
           have n8_ := Aside0.mk (Kd.S_below (sa_ HO326.out) hb)
           have n9_ := Aside0.mk (Kd.R_lower (Kd.R_new' (Kd.R_new' (Kd.R_new' (Kd.R_new' ho0 (Kd.R_lt (ra_ HO_306000.out))) (Kd.R_lt (ra_ HO_313000.out))) (Kd.R_lt (ra_ HO_313001.out))) (Kd.R_lt (ra_ HO320.out))) (below_size hb_))
           have n10_ := Aside0.mk (Kd.R_lower (Kd.R_new' (Kd.R_new' (Kd.R_new' (Kd.R_new' ho1 (Kd.R_lt (ra_ HO_306000.out))) (Kd.R_lt (ra_ HO_313000.out))) (Kd.R_lt (ra_ HO_313001.out))) (Kd.R_lt (ra_ HO320.out))) (below_size hb_))
           have n11_ := bb_ BK272 hb
           have n12_ := bb_ BK273 hb
           have n13_ := bb_ BK305 hb
           have n14_ := bb_ BK312 hb
           have n15_ := Aside0.mk (below_step hb_ hb)
           clear HO_12
           clear HO_306000
           clear HO_306001
           clear HO_306002
           clear HO_313000
           clear HO_313001
           clear HO320
           clear HO323
           clear HO326
           clear BK272
           clear BK273
           clear BK305
           clear BK312
           clear HB
           have HO_12 := n0_
           have HO_306000 := n1_
           have HO_306001 := n2_
           have HO_306002 := n3_
           have HO_313000 := n4_
           have HO_313001 := n5_
           have HO320 := n6_
           have HO323 := n7_
           have HO326 := n8_
           have HO330 := n9_
           have HO333 := n10_
           have BK272 := n11_
           have BK273 := n12_
           have BK305 := n13_
           have BK312 := n14_
           have HB := n15_
           clear n0_ n1_ n2_ n3_ n4_ n5_ n6_ n7_ n8_ n9_ n10_ n11_ n12_ n13_ n14_ n15_
           (try clear hb)
           (try clear hb2)
           (try clear hk)
           (try clear hi)
           (try clear ho0)
           (try clear ho1)
           obtain ⟨Ao92, co92, eo92⟩ := Kd.R_slice HO330.out
           (first | subst eo92 | (injection eo92 with f1_ f2_ f3_; have f4_ := f1_.symm; have f5_ := f3_.symm; clear f1_ f2_ f3_; subst f4_; subst f5_))
           obtain ⟨Ao93, co93, eo93⟩ := Kd.R_slice HO333.out
           (first | subst eo93 | (injection eo93 with f1_ f2_ f3_; have f4_ := f1_.symm; have f5_ := f3_.symm; clear f1_ f2_ f3_; subst f4_; subst f5_))
           refine hK.out _ _ ⟨(blk_cell BK312.out 0).trans rfl, (blk_cell BK312.out 1).trans rfl, (blk_cell BK273.out 0).trans rfl, (blk_cell BK273.out 1).trans rfl⟩ (fun hHeld => ?_)
           clear hK K
           refine norm_ (a' := ?_) ?_ ?_
           rotate_left
           ·show Act.put _ (some 66) _ = _
            simp only [Act.put, List.setIfInBounds_toArray, List.set_cons_zero, List.set_cons_succ, i64_w, i32_w]
            rfl
           refine one_ (i := 3) (N := some 67) #[true, true, true, true, false] rfl rfl (by kernel_rfl) (by decide) (fun K hK => ?_)
           refine goes_ Tryd.func20 (by kernel_rfl) rfl #[.agg #[.slice Ao62 t306.length co62, .slice Ao67 t309.length co67], .agg #[.slice Ao92 t328.length co92, .slice Ao93 t331.length co93]] (by rfl) rfl rfl ls_ ?_
           with_reducible refine (laws_eqWish.calls kj30 _ _ t306 _ _ t309 _ _ t328 _ _ t331 true _ ?side1 ?side2 ?side3 ?side4 ?side5 ?side6 ?side7 ?side8 A79.out).mono ?_
           (case side1 => exact ca_ (Kd.R_reads' HO_313000.out).2.2)
           (case side2 => exact (Kd.R_reads' HO_313000.out).2.1)
           (case side3 => exact ca_ (Kd.R_reads' HO_313001.out).2.2)
           (case side4 => exact (Kd.R_reads' HO_313001.out).2.1)
           (case side5 => exact ca_ (Kd.R_reads' HO330.out).2.2)
           (case side6 => exact (Kd.R_reads' HO330.out).2.1)
           (case side7 => exact ca_ (Kd.R_reads' HO333.out).2.2)
           (case side8 => exact (Kd.R_reads' HO333.out).2.1)
           rintro e w94 ⟨rfl, hb⟩
           refine ⟨_, rfl, ?_⟩
           have n0_ := Aside0.mk (Kd.R_below (ra_ HO_12.out) hb)
           have n1_ := Aside0.mk (Kd.R_below (ra_ HO_306000.out) hb)
           have n2_ := Aside0.mk (Kd.R_below (ra_ HO_306001.out) hb)
           have n3_ := Aside0.mk (Kd.S_below (sa_ HO_306002.out) hb)
           have n4_ := Aside0.mk (Kd.R_below (ra_ HO_313000.out) hb)
           have n5_ := Aside0.mk (Kd.R_below (ra_ HO_313001.out) hb)
           have n6_ := Aside0.mk (Kd.R_below (ra_ HO320.out) hb)
           have n7_ := Aside0.mk (Kd.R_below (ra_ HO323.out) hb)
           have n8_ := Aside0.mk (Kd.S_below (sa_ HO326.out) hb)
           have n9_ := Aside0.mk (Kd.R_below (ra_ HO330.out) hb)
           have n10_ := Aside0.mk (Kd.R_below (ra_ HO333.out) hb)
           have n11_ := bb_ BK272 hb
           have n12_ := bb_ BK273 hb
           have n13_ := bb_ BK305 hb
           have n14_ := bb_ BK312 hb
           have n15_ := Aside0.mk (below_step hb_ hb)
           clear HO_12
           clear HO_306000
           clear HO_306001
           clear HO_306002
           clear HO_313000
           clear HO_313001
           clear HO320
           clear HO323
           clear HO326
           clear HO330
           clear HO333
           clear BK272
           clear BK273
           clear BK305
           clear BK312
           clear HB
           have HO_12 := n0_
           have HO_306000 := n1_
           have HO_306001 := n2_
           have HO_306002 := n3_
           have HO_313000 := n4_
           have HO_313001 := n5_
           have HO320 := n6_
           have HO323 := n7_
           have HO326 := n8_
           have HO330 := n9_
           have HO333 := n10_
           have BK272 := n11_
           have BK273 := n12_
           have BK305 := n13_
           have BK312 := n14_
           have HB := n15_
           clear n0_ n1_ n2_ n3_ n4_ n5_ n6_ n7_ n8_ n9_ n10_ n11_ n12_ n13_ n14_ n15_
           (try clear hb)
           (try clear hb2)
           (try clear hk)
           (try clear hi)
           refine hK.out _ _ ⟨(blk_cell BK312.out 0).trans rfl, (blk_cell BK312.out 1).trans rfl, (blk_cell BK273.out 0).trans rfl, (blk_cell BK273.out 1).trans rfl⟩ (fun hHeld => ?_)
           clear hK K
           refine norm_ (a' := ?_) ?_ ?_
           rotate_left
           ·show Act.put _ (some 67) _ = _
            simp only [Act.put, List.setIfInBounds_toArray, List.set_cons_zero, List.set_cons_succ, i64_w, i32_w]
            rfl
           refine pure_ (i := 4) (N := some 68) (v := ?_) (a' := ?_) #[true, true, true, true, true] rfl rfl (by kernel_rfl) (fun _ _ _ h => h) (Or.inl ⟨by rfl, ?_⟩) ?_ ?_
           rotate_left
           ·intro w'
            go_simp
            with_reducible rfl
           rotate_left
           ·simp only [Act.put, List.setIfInBounds_toArray, List.set_cons_zero, List.set_cons_succ, i64_w, i32_w]
            rfl
           refine done_ (by kernel_rfl) ?_
           try go_wp2_with (first | ((with_reducible refine gate_callee (f := 37) rfl ?_); refine goesL_ (some 71) rfl rfl Tryd.func37 (by kernel_rfl) rfl #[.slice A2 l2.length c2] rfl ls_ ?_; (with_reducible refine (laws_toIntS.calls kj30 _ _ l2 t335 _ ?side1 ?side2 A81.out).mono ?_); (case side1 => exact cb_ HR2.out); (case side2 => exact HC2.out); rintro e w95 ⟨v336, rfl, ho0, hb⟩; refine ⟨_, rfl, ?_⟩; have n0_ := Aside0.mk (Kd.R_elder' (ra_ HO_12.out) (Kd.R_base ho0) hb); have n1_ := Aside0.mk (Kd.R_below (ra_ HO_306000.out) hb); have n2_ := Aside0.mk (Kd.R_below (ra_ HO_306001.out) hb); have n3_ := Aside0.mk (Kd.S_elder' (sa_ HO_306002.out) (Kd.R_base ho0) hb); have n4_ := Aside0.mk (Kd.R_below (ra_ HO_313000.out) hb); have n5_ := Aside0.mk (Kd.R_below (ra_ HO_313001.out) hb); have n6_ := Aside0.mk (Kd.R_below (ra_ HO320.out) hb); have n7_ := Aside0.mk (Kd.R_below (ra_ HO323.out) hb); have n8_ := Aside0.mk (Kd.S_elder' (sa_ HO326.out) (Kd.R_base ho0) hb); have n9_ := Aside0.mk (Kd.R_below (ra_ HO330.out) hb); have n10_ := Aside0.mk (Kd.R_below (ra_ HO333.out) hb); have n11_ := Aside0.mk (Kd.R_lower (Kd.R_new' ho0 (Kd.R_lt (ra_ HO_12.out))) (below_size hb_)); have n12_ := bb_ BK272 hb; have n13_ := bb_ BK273 hb; have n14_ := bb_ BK305 hb; have n15_ := bb_ BK312 hb; have n16_ := Aside0.mk (below_step hb_ hb); clear HO_12; clear HO_306000; clear HO_306001; clear HO_306002; clear HO_313000; clear HO_313001; clear HO320; clear HO323; clear HO326; clear HO330; clear HO333; clear BK272; clear BK273; clear BK305; clear BK312; clear HB; have HO_12 := n0_; have HO_306000 := n1_; have HO_306001 := n2_; have HO_306002 := n3_; have HO_313000 := n4_; have HO_313001 := n5_; have HO320 := n6_; have HO323 := n7_; have HO326 := n8_; have HO330 := n9_; have HO333 := n10_; have HO337 := n11_; have BK272 := n12_; have BK273 := n13_; have BK305 := n14_; have BK312 := n15_; have HB := n16_; clear n0_ n1_ n2_ n3_ n4_ n5_ n6_ n7_ n8_ n9_ n10_ n11_ n12_ n13_ n14_ n15_ n16_; (try clear hb); (try clear hb2); (try clear hk); (try clear hi); (try clear ho0); obtain ⟨Ao96, co96, eo96⟩ := Kd.R_slice HO337.out; subst eo96) | ((with_reducible refine gate_callee (f := 18) rfl ?_); refine goesL_ (some 72) rfl rfl Tryd.func18 (by kernel_rfl) rfl #[.slice Ao71 t313.length co71, .slice Ao96 t335.length co96] rfl ls_ ?_; (with_reducible refine (laws_eqIntS.calls kj30 _ _ t313 _ _ t335 true _ ?side1 ?side2 ?side3 ?side4 A82.out).mono ?_); (case side1 => exact ca_ (Kd.R_reads' HO_12.out).2.2); (case side2 => exact (Kd.R_reads' HO_12.out).2.1); (case side3 => exact ca_ (Kd.R_reads' HO337.out).2.2); (case side4 => exact (Kd.R_reads' HO337.out).2.1); rintro e w' ⟨rfl, ⟨nd, rfl⟩⟩; refine ⟨_, rfl, ?_⟩))
           go_ret
           exact ⟨er_, hb_⟩
          ·replace c83 := Bool.eq_false_iff.mpr c83
           subst c83
           rw [if_neg (show ¬ (false = true) by decide)] at H
           obtain rfl := Option.some.inj H
           try go_wp2
           have n0_ := Aside0.mk (Kd.R_drew HO_12.out)
           have n1_ := Aside0.mk (Kd.R_drew HO_306000.out)
           have n2_ := Aside0.mk (Kd.R_drew HO_306001.out)
           have n3_ := Aside0.mk (Kd.S_drew HO_306002.out)
           have n4_ := Aside0.mk (Kd.R_drew HO_313000.out)
           have n5_ := Aside0.mk (Kd.R_drew HO_313001.out)
           have n6_ := Aside0.mk (blk_drew BK272.out)
           have n7_ := Aside0.mk (blk_drew BK273.out)
           have n8_ := Aside0.mk (blk_drew BK305.out)
           have n9_ := Aside0.mk (blk_drew BK312.out)
           have n10_ := Aside0.mk (below_drew1 HB.out)
           clear HO_12
           clear HO_306000
           clear HO_306001
           clear HO_306002
           clear HO_313000
           clear HO_313001
           clear BK272
           clear BK273
           clear BK305
           clear BK312
           clear HB
           have HO_12 := n0_
           have HO_306000 := n1_
           have HO_306001 := n2_
           have HO_306002 := n3_
           have HO_313000 := n4_
           have HO_313001 := n5_
           have BK272 := n6_
           have BK273 := n7_
           have BK305 := n8_
           have BK312 := n9_
           have HB := n10_
           clear n0_ n1_ n2_ n3_ n4_ n5_ n6_ n7_ n8_ n9_ n10_
           refine start_ (n := 5) (S := fun w' => w'.cell? ⟨gb305, 0, none⟩ = some (.slice Ao53 t296.length co53) ∧ w'.cell? ⟨gb305, 1, none⟩ = some (.slice Ao57 t299.length co57) ∧ w'.cell? ⟨gb305, 2, none⟩ = some (.slice Ao58 t302.length co58) ∧ w'.cell? ⟨gb272, 0, none⟩ = some (.slice A0_0 l0_0.length c0_0) ∧ w'.cell? ⟨gb272, 1, none⟩ = some (.slice A0_1 l0_1.length c0_1) ∧ w'.cell? ⟨gb272, 2, none⟩ = some (.slice A0_2 l0_2.length c0_2)) (ds := []) #[false, false, false, false, false] (by kernel_rfl) rfl rfl ⟨(blk_cell BK305.out 0).trans rfl, (blk_cell BK305.out 1).trans rfl, (blk_cell BK305.out 2).trans rfl, (blk_cell BK272.out 0).trans rfl, (blk_cell BK272.out 1).trans rfl, (blk_cell BK272.out 2).trans rfl⟩ (fun hHeld => ?_)
           generalize wc.drew = w97 at HO_12 HO_306000 HO_306001 HO_306002 HO_313000 HO_313001 BK272 BK273 BK305 BK312 HB hHeld ⊢
           refine take_ (i := 0) (N := some 59) (v := ?_) (a' := ?_) #[true, false, false, false, false] rfl rfl (by kernel_rfl) (fun _ _ _ h => h) (Or.inl ⟨by rfl, ?_⟩) hHeld ?_ ?_
           rotate_left
           ·rintro w' ⟨s0, s1, s2, s3, s4, s5⟩
            go_simp
            with_reducible rfl
           rotate_left
           ·simp only [Act.put, List.setIfInBounds_toArray, List.set_cons_zero, List.set_cons_succ, i64_w, i32_w]
            rfl
           refine take_ (i := 1) (N := some 60) (v := ?_) (a' := ?_) #[true, true, false, false, false] rfl rfl (by kernel_rfl) (fun _ _ _ h => h) (Or.inl ⟨by rfl, ?_⟩) hHeld ?_ ?_
           rotate_left
           ·rintro w' ⟨s0, s1, s2, s3, s4, s5⟩
            go_simp
            with_reducible rfl
           rotate_left
           ·simp only [Act.put, List.setIfInBounds_toArray, List.set_cons_zero, List.set_cons_succ, i64_w, i32_w]
            rfl
           refine one_ (i := 2) (N := some 61) #[true, true, true, false, false] rfl rfl (by kernel_rfl) (by decide) (fun K hK => ?_)
           refine goes_ Tryd.func15 (by kernel_rfl) rfl #[.agg #[.slice A0_0 l0_0.length c0_0, .slice A0_1 l0_1.length c0_1, .slice A0_2 l0_2.length c0_2]] (by rfl) rfl rfl ls_ ?_
           with_reducible refine (laws_toBoard.calls kj30 _ _ l0_0 _ _ l0_1 _ _ l0_2 t318 t321 t324 _ ?side1 ?side2 ?side3 ?side4 ?side5 ?side6 A75.out).mono ?_
           (case side1 => exact cb_ HR0_0.out)
           (case side2 => exact HC0_0.out)
           (case side3 => exact cb_ HR0_1.out)
           (case side4 => exact HC0_1.out)
           (case side5 => exact cb_ HR0_2.out)
           (case side6 => exact HC0_2.out)
           rintro e w98 ⟨v319, v322, v325, rfl, ho0, ho1, ho2, hb⟩
           refine ⟨_, rfl, ?_⟩
           have n0_ := Aside0.mk (Kd.R_below (ra_ HO_12.out) hb)
           have n1_ := Aside0.mk (Kd.R_elder' (ra_ HO_306000.out) (Kd.R_base ho0) hb)
           have n2_ := Aside0.mk (Kd.R_elder' (ra_ HO_306001.out) (Kd.R_base ho1) hb)
           have n3_ := Aside0.mk (Kd.S_elder' (sa_ HO_306002.out) (Kd.S_base ho2) hb)
           have n4_ := Aside0.mk (Kd.R_elder' (ra_ HO_313000.out) (Kd.R_base ho0) hb)
           have n5_ := Aside0.mk (Kd.R_elder' (ra_ HO_313001.out) (Kd.R_base ho0) hb)
           have n6_ := Aside0.mk (Kd.R_lower (Kd.R_new' (Kd.R_new' (Kd.R_new' ho0 (Kd.R_lt (ra_ HO_306000.out))) (Kd.R_lt (ra_ HO_313000.out))) (Kd.R_lt (ra_ HO_313001.out))) (below_size hb_))
           have n7_ := Aside0.mk (Kd.R_lower (Kd.R_new' ho1 (Kd.R_lt (ra_ HO_306001.out))) (below_size hb_))
           have n8_ := Aside0.mk (Kd.S_lower (Kd.S_new' (Kd.S_new' ho2 (Kd.R_lt (ra_ HO_12.out))) (Kd.S_lt (sa_ HO_306002.out))) (below_size hb_))
           have n9_ := bb_ BK272 hb
           have n10_ := bb_ BK273 hb
           have n11_ := bb_ BK305 hb
           have n12_ := bb_ BK312 hb
           have n13_ := Aside0.mk (below_step hb_ hb)
           clear HO_12
           clear HO_306000
           clear HO_306001
           clear HO_306002
           clear HO_313000
           clear HO_313001
           clear BK272
           clear BK273
           clear BK305
           clear BK312
           clear HB
           have HO_12 := n0_
           have HO_306000 := n1_
           have HO_306001 := n2_
           have HO_306002 := n3_
           have HO_313000 := n4_
           have HO_313001 := n5_
           have HO320 := n6_
           have HO323 := n7_
           have HO326 := n8_
           have BK272 := n9_
           have BK273 := n10_
           have BK305 := n11_
           have BK312 := n12_
           have HB := n13_
           clear n0_ n1_ n2_ n3_ n4_ n5_ n6_ n7_ n8_ n9_ n10_ n11_ n12_ n13_
           (try clear hb)
           (try clear hb2)
           (try clear hk)
           (try clear hi)
           (try clear ho0)
           (try clear ho1)
           (try clear ho2)
           obtain ⟨Ao99, co99, eo99⟩ := Kd.R_slice HO320.out
           (first | subst eo99 | (injection eo99 with f1_ f2_ f3_; have f4_ := f1_.symm; have f5_ := f3_.symm; clear f1_ f2_ f3_; subst f4_; subst f5_))
           obtain ⟨Ao100, co100, eo100⟩ := Kd.R_slice HO323.out
           (first | subst eo100 | (injection eo100 with f1_ f2_ f3_; have f4_ := f1_.symm; have f5_ := f3_.symm; clear f1_ f2_ f3_; subst f4_; subst f5_))
           obtain ⟨Ao101, co101, eo101⟩ := Kd.S_slice HO326.out
           (first | subst eo101 | (injection eo101 with f1_ f2_ f3_; have f4_ := f1_.symm; have f5_ := f3_.symm; clear f1_ f2_ f3_; subst f4_; subst f5_))
           refine hK.out _ _ ⟨(blk_cell BK305.out 0).trans rfl, (blk_cell BK305.out 1).trans rfl, (blk_cell BK305.out 2).trans rfl, (blk_cell BK272.out 0).trans rfl, (blk_cell BK272.out 1).trans rfl, (blk_cell BK272.out 2).trans rfl⟩ (fun hHeld => ?_)
           clear hK K
           refine norm_ (a' := ?_) ?_ ?_
           rotate_left
           ·show Act.put _ (some 61) _ = _
            simp only [Act.put, List.setIfInBounds_toArray, List.set_cons_zero, List.set_cons_succ, i64_w, i32_w]
            rfl
           refine one_ (i := 3) (N := some 62) #[true, true, true, true, false] rfl rfl (by kernel_rfl) (by decide) (fun K hK => ?_)
           refine goes_ Tryd.func19 (by kernel_rfl) rfl #[.agg #[.slice Ao53 t296.length co53, .slice Ao57 t299.length co57, .slice Ao58 t302.length co58], .agg #[.slice Ao99 t318.length co99, .slice Ao100 t321.length co100, .slice Ao101 t324.length co101]] (by rfl) rfl rfl ls_ ?_
           with_reducible refine (laws_eqBoard.calls kj30 _ _ t296 _ _ t299 _ _ t302 _ _ t318 _ _ t321 _ _ t324 true _ ?side1 ?side2 ?side3 ?side4 ?side5 ?side6 ?side7 ?side8 ?side9 ?side10 ?side11 ?side12 A76.out).mono ?_
           (case side1 => exact ca_ (Kd.R_reads' HO_306000.out).2.2)
           (case side2 => exact (Kd.R_reads' HO_306000.out).2.1)
           (case side3 => exact ca_ (Kd.R_reads' HO_306001.out).2.2)
           (case side4 => exact (Kd.R_reads' HO_306001.out).2.1)
           (case side5 => exact ca_ (Kd.S_reads' HO_306002.out).2.2)
           (case side6 => exact (Kd.S_reads' HO_306002.out).2.1)
           (case side7 => exact ca_ (Kd.R_reads' HO320.out).2.2)
           (case side8 => exact (Kd.R_reads' HO320.out).2.1)
           (case side9 => exact ca_ (Kd.R_reads' HO323.out).2.2)
           (case side10 => exact (Kd.R_reads' HO323.out).2.1)
           (case side11 => exact ca_ (Kd.S_reads' HO326.out).2.2)
           (case side12 => exact (Kd.S_reads' HO326.out).2.1)
           rintro e w102 ⟨rfl, hb⟩
           refine ⟨_, rfl, ?_⟩
           have n0_ := Aside0.mk (Kd.R_below (ra_ HO_12.out) hb)
           have n1_ := Aside0.mk (Kd.R_below (ra_ HO_306000.out) hb)
           have n2_ := Aside0.mk (Kd.R_below (ra_ HO_306001.out) hb)
           have n3_ := Aside0.mk (Kd.S_below (sa_ HO_306002.out) hb)
           have n4_ := Aside0.mk (Kd.R_below (ra_ HO_313000.out) hb)
           have n5_ := Aside0.mk (Kd.R_below (ra_ HO_313001.out) hb)
           have n6_ := Aside0.mk (Kd.R_below (ra_ HO320.out) hb)
           have n7_ := Aside0.mk (Kd.R_below (ra_ HO323.out) hb)
           have n8_ := Aside0.mk (Kd.S_below (sa_ HO326.out) hb)
           have n9_ := bb_ BK272 hb
           have n10_ := bb_ BK273 hb
           have n11_ := bb_ BK305 hb
           have n12_ := bb_ BK312 hb
           have n13_ := Aside0.mk (below_step hb_ hb)
           clear HO_12
           clear HO_306000
           clear HO_306001
           clear HO_306002
           clear HO_313000
           clear HO_313001
           clear HO320
           clear HO323
           clear HO326
           clear BK272
           clear BK273
           clear BK305
           clear BK312
           clear HB
           have HO_12 := n0_
           have HO_306000 := n1_
           have HO_306001 := n2_
           have HO_306002 := n3_
           have HO_313000 := n4_
           have HO_313001 := n5_
           have HO320 := n6_
           have HO323 := n7_
           have HO326 := n8_
           have BK272 := n9_
           have BK273 := n10_
           have BK305 := n11_
           have BK312 := n12_
           have HB := n13_
           clear n0_ n1_ n2_ n3_ n4_ n5_ n6_ n7_ n8_ n9_ n10_ n11_ n12_ n13_
           (try clear hb)
           (try clear hb2)
           (try clear hk)
           (try clear hi)
           refine hK.out _ _ ⟨(blk_cell BK305.out 0).trans rfl, (blk_cell BK305.out 1).trans rfl, (blk_cell BK305.out 2).trans rfl, (blk_cell BK272.out 0).trans rfl, (blk_cell BK272.out 1).trans rfl, (blk_cell BK272.out 2).trans rfl⟩ (fun hHeld => ?_)
           clear hK K
           refine norm_ (a' := ?_) ?_ ?_
           rotate_left
           ·show Act.put _ (some 62) _ = _
            simp only [Act.put, List.setIfInBounds_toArray, List.set_cons_zero, List.set_cons_succ, i64_w, i32_w]
            rfl
           refine pure_ (i := 4) (N := some 63) (v := ?_) (a' := ?_) #[true, true, true, true, true] rfl rfl (by kernel_rfl) (fun _ _ _ h => h) (Or.inl ⟨by rfl, ?_⟩) ?_ ?_
           rotate_left
           ·intro w'
            go_simp
            with_reducible rfl
           rotate_left
           ·simp only [Act.put, List.setIfInBounds_toArray, List.set_cons_zero, List.set_cons_succ, i64_w, i32_w]
            rfl
           refine done_ (by kernel_rfl) ?_
           try go_wp2
           have n0_ := Aside0.mk (Kd.R_drew HO_12.out)
           have n1_ := Aside0.mk (Kd.R_drew HO_306000.out)
           have n2_ := Aside0.mk (Kd.R_drew HO_306001.out)
           have n3_ := Aside0.mk (Kd.S_drew HO_306002.out)
           have n4_ := Aside0.mk (Kd.R_drew HO_313000.out)
           have n5_ := Aside0.mk (Kd.R_drew HO_313001.out)
           have n6_ := Aside0.mk (Kd.R_drew HO320.out)
           have n7_ := Aside0.mk (Kd.R_drew HO323.out)
           have n8_ := Aside0.mk (Kd.S_drew HO326.out)
           have n9_ := Aside0.mk (blk_drew BK272.out)
           have n10_ := Aside0.mk (blk_drew BK273.out)
           have n11_ := Aside0.mk (blk_drew BK305.out)
           have n12_ := Aside0.mk (blk_drew BK312.out)
           have n13_ := Aside0.mk (below_drew1 HB.out)
           clear HO_12
           clear HO_306000
           clear HO_306001
           clear HO_306002
           clear HO_313000
           clear HO_313001
           clear HO320
           clear HO323
           clear HO326
           clear BK272
           clear BK273
           clear BK305
           clear BK312
           clear HB
           have HO_12 := n0_
           have HO_306000 := n1_
           have HO_306001 := n2_
           have HO_306002 := n3_
           have HO_313000 := n4_
           have HO_313001 := n5_
           have HO320 := n6_
           have HO323 := n7_
           have HO326 := n8_
           have BK272 := n9_
           have BK273 := n10_
           have BK305 := n11_
           have BK312 := n12_
           have HB := n13_
           clear n0_ n1_ n2_ n3_ n4_ n5_ n6_ n7_ n8_ n9_ n10_ n11_ n12_ n13_
           refine start_ (n := 5) (S := fun w' => w'.cell? ⟨gb312, 0, none⟩ = some (.slice Ao62 t306.length co62) ∧ w'.cell? ⟨gb312, 1, none⟩ = some (.slice Ao67 t309.length co67) ∧ w'.cell? ⟨gb273, 0, none⟩ = some (.slice A1_0 l1_0.length c1_0) ∧ w'.cell? ⟨gb273, 1, none⟩ = some (.slice A1_1 l1_1.length c1_1)) (ds := []) #[false, false, false, false, false] (by kernel_rfl) rfl rfl ⟨(blk_cell BK312.out 0).trans rfl, (blk_cell BK312.out 1).trans rfl, (blk_cell BK273.out 0).trans rfl, (blk_cell BK273.out 1).trans rfl⟩ (fun hHeld => ?_)
           generalize w102.drew = w103 at HO_12 HO_306000 HO_306001 HO_306002 HO_313000 HO_313001 HO320 HO323 HO326 BK272 BK273 BK305 BK312 HB hHeld ⊢
           refine take_ (i := 0) (N := some 64) (v := ?_) (a' := ?_) #[true, false, false, false, false] rfl rfl (by kernel_rfl) (fun _ _ _ h => h) (Or.inl ⟨by rfl, ?_⟩) hHeld ?_ ?_
           rotate_left
           ·rintro w' ⟨s0, s1, s2, s3⟩
            go_simp
            with_reducible rfl
           rotate_left
           ·simp only [Act.put, List.setIfInBounds_toArray, List.set_cons_zero, List.set_cons_succ, i64_w, i32_w]
            rfl
           refine take_ (i := 1) (N := some 65) (v := ?_) (a' := ?_) #[true, true, false, false, false] rfl rfl (by kernel_rfl) (fun _ _ _ h => h) (Or.inl ⟨by rfl, ?_⟩) hHeld ?_ ?_
           rotate_left
           ·rintro w' ⟨s0, s1, s2, s3⟩
            go_simp
            with_reducible rfl
           rotate_left
           ·simp only [Act.put, List.setIfInBounds_toArray, List.set_cons_zero, List.set_cons_succ, i64_w, i32_w]
            rfl
           refine one_ (i := 2) (N := some 66) #[true, true, true, false, false] rfl rfl (by kernel_rfl) (by decide) (fun K hK => ?_)
           refine goes_ Tryd.func16 (by kernel_rfl) rfl #[.agg #[.slice A1_0 l1_0.length c1_0, .slice A1_1 l1_1.length c1_1]] (by rfl) rfl rfl ls_ ?_
           with_reducible refine (laws_toWish.calls kj30 _ _ l1_0 _ _ l1_1 t328 t331 _ ?side1 ?side2 ?side3 ?side4 A78.out).mono ?_
           (case side1 => exact cb_ HR1_0.out)
           (case side2 => exact HC1_0.out)
           (case side3 => exact cb_ HR1_1.out)
           (case side4 => exact HC1_1.out)
           rintro e w104 ⟨v329, v332, rfl, ho0, ho1, hb⟩
           refine ⟨_, rfl, ?_⟩
           have n0_ := Aside0.mk (Kd.R_below (ra_ HO_12.out) hb)
           have n1_ := Aside0.mk (Kd.R_mono (Kd.R_told (Kd.R_told (Kd.R_old (ra_ HO_306000.out) hb) (Kd.R_base ho0)) (Kd.R_base ho1)) (fun _ h_ => h_.1))
           have n2_ := Aside0.mk (Kd.R_below (ra_ HO_306001.out) hb)
           have n3_ := Aside0.mk (Kd.S_below (sa_ HO_306002.out) hb)
           have n4_ := Aside0.mk (Kd.R_mono (Kd.R_told (Kd.R_told (Kd.R_old (ra_ HO_313000.out) hb) (Kd.R_base ho0)) (Kd.R_base ho1)) (fun _ h_ => h_.1))
           have n5_ := Aside0.mk (Kd.R_mono (Kd.R_told (Kd.R_told (Kd.R_old (ra_ HO_313001.out) hb) (Kd.R_base ho0)) (Kd.R_base ho1)) (fun _ h_ => h_.1))
           have n6_ := Aside0.mk (Kd.R_mono (Kd.R_told (Kd.R_told (Kd.R_old (ra_ HO320.out) hb) (Kd.R_base ho0)) (Kd.R_base ho1)) (fun _ h_ => h_.1))
           have n7_ := Aside0.mk (Kd.R_below (ra_ HO323.out) hb)
           have n8_ := Aside0.mk (Kd.S_below (sa_ HO326.out) hb)
           have n9_ := Aside0.mk (Kd.R_lower (Kd.R_new' (Kd.R_new' (Kd.R_new' (Kd.R_new' ho0 (Kd.R_lt (ra_ HO_306000.out))) (Kd.R_lt (ra_ HO_313000.out))) (Kd.R_lt (ra_ HO_313001.out))) (Kd.R_lt (ra_ HO320.out))) (below_size hb_))
           have n10_ := Aside0.mk (Kd.R_lower (Kd.R_new' (Kd.R_new' (Kd.R_new' (Kd.R_new' ho1 (Kd.R_lt (ra_ HO_306000.out))) (Kd.R_lt (ra_ HO_313000.out))) (Kd.R_lt (ra_ HO_313001.out))) (Kd.R_lt (ra_ HO320.out))) (below_size hb_))
           have n11_ := bb_ BK272 hb
           have n12_ := bb_ BK273 hb
           have n13_ := bb_ BK305 hb
           have n14_ := bb_ BK312 hb
           have n15_ := Aside0.mk (below_step hb_ hb)
           clear HO_12
           clear HO_306000
           clear HO_306001
           clear HO_306002
           clear HO_313000
           clear HO_313001
           clear HO320
           clear HO323
           clear HO326
           clear BK272
           clear BK273
           clear BK305
           clear BK312
           clear HB
           have HO_12 := n0_
           have HO_306000 := n1_
           have HO_306001 := n2_
           have HO_306002 := n3_
           have HO_313000 := n4_
           have HO_313001 := n5_
           have HO320 := n6_
           have HO323 := n7_
           have HO326 := n8_
           have HO330 := n9_
           have HO333 := n10_
           have BK272 := n11_
           have BK273 := n12_
           have BK305 := n13_
           have BK312 := n14_
           have HB := n15_
           clear n0_ n1_ n2_ n3_ n4_ n5_ n6_ n7_ n8_ n9_ n10_ n11_ n12_ n13_ n14_ n15_
           (try clear hb)
           (try clear hb2)
           (try clear hk)
           (try clear hi)
           (try clear ho0)
           (try clear ho1)
           obtain ⟨Ao105, co105, eo105⟩ := Kd.R_slice HO330.out
           (first | subst eo105 | (injection eo105 with f1_ f2_ f3_; have f4_ := f1_.symm; have f5_ := f3_.symm; clear f1_ f2_ f3_; subst f4_; subst f5_))
           obtain ⟨Ao106, co106, eo106⟩ := Kd.R_slice HO333.out
           (first | subst eo106 | (injection eo106 with f1_ f2_ f3_; have f4_ := f1_.symm; have f5_ := f3_.symm; clear f1_ f2_ f3_; subst f4_; subst f5_))
           refine hK.out _ _ ⟨(blk_cell BK312.out 0).trans rfl, (blk_cell BK312.out 1).trans rfl, (blk_cell BK273.out 0).trans rfl, (blk_cell BK273.out 1).trans rfl⟩ (fun hHeld => ?_)
           clear hK K
           refine norm_ (a' := ?_) ?_ ?_
           rotate_left
           ·show Act.put _ (some 66) _ = _
            simp only [Act.put, List.setIfInBounds_toArray, List.set_cons_zero, List.set_cons_succ, i64_w, i32_w]
            rfl
           refine one_ (i := 3) (N := some 67) #[true, true, true, true, false] rfl rfl (by kernel_rfl) (by decide) (fun K hK => ?_)
           refine goes_ Tryd.func20 (by kernel_rfl) rfl #[.agg #[.slice Ao62 t306.length co62, .slice Ao67 t309.length co67], .agg #[.slice Ao105 t328.length co105, .slice Ao106 t331.length co106]] (by rfl) rfl rfl ls_ ?_
           with_reducible refine (laws_eqWish.calls kj30 _ _ t306 _ _ t309 _ _ t328 _ _ t331 true _ ?side1 ?side2 ?side3 ?side4 ?side5 ?side6 ?side7 ?side8 A79.out).mono ?_
           (case side1 => exact ca_ (Kd.R_reads' HO_313000.out).2.2)
           (case side2 => exact (Kd.R_reads' HO_313000.out).2.1)
           (case side3 => exact ca_ (Kd.R_reads' HO_313001.out).2.2)
           (case side4 => exact (Kd.R_reads' HO_313001.out).2.1)
           (case side5 => exact ca_ (Kd.R_reads' HO330.out).2.2)
           (case side6 => exact (Kd.R_reads' HO330.out).2.1)
           (case side7 => exact ca_ (Kd.R_reads' HO333.out).2.2)
           (case side8 => exact (Kd.R_reads' HO333.out).2.1)
           rintro e w107 ⟨rfl, hb⟩
           refine ⟨_, rfl, ?_⟩
           have n0_ := Aside0.mk (Kd.R_below (ra_ HO_12.out) hb)
           have n1_ := Aside0.mk (Kd.R_below (ra_ HO_306000.out) hb)
           have n2_ := Aside0.mk (Kd.R_below (ra_ HO_306001.out) hb)
           have n3_ := Aside0.mk (Kd.S_below (sa_ HO_306002.out) hb)
           have n4_ := Aside0.mk (Kd.R_below (ra_ HO_313000.out) hb)
           have n5_ := Aside0.mk (Kd.R_below (ra_ HO_313001.out) hb)
           have n6_ := Aside0.mk (Kd.R_below (ra_ HO320.out) hb)
           have n7_ := Aside0.mk (Kd.R_below (ra_ HO323.out) hb)
           have n8_ := Aside0.mk (Kd.S_below (sa_ HO326.out) hb)
           have n9_ := Aside0.mk (Kd.R_below (ra_ HO330.out) hb)
           have n10_ := Aside0.mk (Kd.R_below (ra_ HO333.out) hb)
           have n11_ := bb_ BK272 hb
           have n12_ := bb_ BK273 hb
           have n13_ := bb_ BK305 hb
           have n14_ := bb_ BK312 hb
           have n15_ := Aside0.mk (below_step hb_ hb)
           clear HO_12
           clear HO_306000
           clear HO_306001
           clear HO_306002
           clear HO_313000
           clear HO_313001
           clear HO320
           clear HO323
           clear HO326
           clear HO330
           clear HO333
           clear BK272
           clear BK273
           clear BK305
           clear BK312
           clear HB
           have HO_12 := n0_
           have HO_306000 := n1_
           have HO_306001 := n2_
           have HO_306002 := n3_
           have HO_313000 := n4_
           have HO_313001 := n5_
           have HO320 := n6_
           have HO323 := n7_
           have HO326 := n8_
           have HO330 := n9_
           have HO333 := n10_
           have BK272 := n11_
           have BK273 := n12_
           have BK305 := n13_
           have BK312 := n14_
           have HB := n15_
           clear n0_ n1_ n2_ n3_ n4_ n5_ n6_ n7_ n8_ n9_ n10_ n11_ n12_ n13_ n14_ n15_
           (try clear hb)
           (try clear hb2)
           (try clear hk)
           (try clear hi)
           refine hK.out _ _ ⟨(blk_cell BK312.out 0).trans rfl, (blk_cell BK312.out 1).trans rfl, (blk_cell BK273.out 0).trans rfl, (blk_cell BK273.out 1).trans rfl⟩ (fun hHeld => ?_)
           clear hK K
           refine norm_ (a' := ?_) ?_ ?_
           rotate_left
           ·show Act.put _ (some 67) _ = _
            simp only [Act.put, List.setIfInBounds_toArray, List.set_cons_zero, List.set_cons_succ, i64_w, i32_w]
            rfl
           refine pure_ (i := 4) (N := some 68) (v := ?_) (a' := ?_) #[true, true, true, true, true] rfl rfl (by kernel_rfl) (fun _ _ _ h => h) (Or.inl ⟨by rfl, ?_⟩) ?_ ?_
           rotate_left
           ·intro w'
            go_simp
            with_reducible rfl
           rotate_left
           ·simp only [Act.put, List.setIfInBounds_toArray, List.set_cons_zero, List.set_cons_succ, i64_w, i32_w]
            rfl
           refine done_ (by kernel_rfl) ?_
           try go_wp2_with (first | ((with_reducible refine gate_callee (f := 37) rfl ?_); refine goesL_ (some 71) rfl rfl Tryd.func37 (by kernel_rfl) rfl #[.slice A2 l2.length c2] rfl ls_ ?_; (with_reducible refine (laws_toIntS.calls kj30 _ _ l2 t335 _ ?side1 ?side2 A81.out).mono ?_); (case side1 => exact cb_ HR2.out); (case side2 => exact HC2.out); rintro e w108 ⟨v336, rfl, ho0, hb⟩; refine ⟨_, rfl, ?_⟩; have n0_ := Aside0.mk (Kd.R_elder' (ra_ HO_12.out) (Kd.R_base ho0) hb); have n1_ := Aside0.mk (Kd.R_below (ra_ HO_306000.out) hb); have n2_ := Aside0.mk (Kd.R_below (ra_ HO_306001.out) hb); have n3_ := Aside0.mk (Kd.S_elder' (sa_ HO_306002.out) (Kd.R_base ho0) hb); have n4_ := Aside0.mk (Kd.R_below (ra_ HO_313000.out) hb); have n5_ := Aside0.mk (Kd.R_below (ra_ HO_313001.out) hb); have n6_ := Aside0.mk (Kd.R_below (ra_ HO320.out) hb); have n7_ := Aside0.mk (Kd.R_below (ra_ HO323.out) hb); have n8_ := Aside0.mk (Kd.S_elder' (sa_ HO326.out) (Kd.R_base ho0) hb); have n9_ := Aside0.mk (Kd.R_below (ra_ HO330.out) hb); have n10_ := Aside0.mk (Kd.R_below (ra_ HO333.out) hb); have n11_ := Aside0.mk (Kd.R_lower (Kd.R_new' ho0 (Kd.R_lt (ra_ HO_12.out))) (below_size hb_)); have n12_ := bb_ BK272 hb; have n13_ := bb_ BK273 hb; have n14_ := bb_ BK305 hb; have n15_ := bb_ BK312 hb; have n16_ := Aside0.mk (below_step hb_ hb); clear HO_12; clear HO_306000; clear HO_306001; clear HO_306002; clear HO_313000; clear HO_313001; clear HO320; clear HO323; clear HO326; clear HO330; clear HO333; clear BK272; clear BK273; clear BK305; clear BK312; clear HB; have HO_12 := n0_; have HO_306000 := n1_; have HO_306001 := n2_; have HO_306002 := n3_; have HO_313000 := n4_; have HO_313001 := n5_; have HO320 := n6_; have HO323 := n7_; have HO326 := n8_; have HO330 := n9_; have HO333 := n10_; have HO337 := n11_; have BK272 := n12_; have BK273 := n13_; have BK305 := n14_; have BK312 := n15_; have HB := n16_; clear n0_ n1_ n2_ n3_ n4_ n5_ n6_ n7_ n8_ n9_ n10_ n11_ n12_ n13_ n14_ n15_ n16_; (try clear hb); (try clear hb2); (try clear hk); (try clear hi); (try clear ho0); obtain ⟨Ao109, co109, eo109⟩ := Kd.R_slice HO337.out; subst eo109) | ((with_reducible refine gate_callee (f := 18) rfl ?_); refine goesL_ (some 72) rfl rfl Tryd.func18 (by kernel_rfl) rfl #[.slice Ao71 t313.length co71, .slice Ao109 t335.length co109] rfl ls_ ?_; (with_reducible refine (laws_eqIntS.calls kj30 _ _ t313 _ _ t335 false _ ?side1 ?side2 ?side3 ?side4 A82.out).mono ?_); (case side1 => exact ca_ (Kd.R_reads' HO_12.out).2.2); (case side2 => exact (Kd.R_reads' HO_12.out).2.1); (case side3 => exact ca_ (Kd.R_reads' HO337.out).2.2); (case side4 => exact (Kd.R_reads' HO337.out).2.1); rintro e w' ⟨rfl, ⟨nd, rfl⟩⟩; refine ⟨_, rfl, ?_⟩))
           go_ret
           exact ⟨er_, hb_⟩
         ·replace c80 := Bool.eq_false_iff.mpr c80
          subst c80
          rw [if_neg (show ¬ (false = true) by decide)] at H
          obtain rfl := Option.some.inj H
          try go_wp2
          have n0_ := Aside0.mk (Kd.R_drew HO_12.out)
          have n1_ := Aside0.mk (Kd.R_drew HO_306000.out)
          have n2_ := Aside0.mk (Kd.R_drew HO_306001.out)
          have n3_ := Aside0.mk (Kd.S_drew HO_306002.out)
          have n4_ := Aside0.mk (Kd.R_drew HO_313000.out)
          have n5_ := Aside0.mk (Kd.R_drew HO_313001.out)
          have n6_ := Aside0.mk (blk_drew BK272.out)
          have n7_ := Aside0.mk (blk_drew BK273.out)
          have n8_ := Aside0.mk (blk_drew BK305.out)
          have n9_ := Aside0.mk (blk_drew BK312.out)
          have n10_ := Aside0.mk (below_drew1 HB.out)
          clear HO_12
          clear HO_306000
          clear HO_306001
          clear HO_306002
          clear HO_313000
          clear HO_313001
          clear BK272
          clear BK273
          clear BK305
          clear BK312
          clear HB
          have HO_12 := n0_
          have HO_306000 := n1_
          have HO_306001 := n2_
          have HO_306002 := n3_
          have HO_313000 := n4_
          have HO_313001 := n5_
          have BK272 := n6_
          have BK273 := n7_
          have BK305 := n8_
          have BK312 := n9_
          have HB := n10_
          clear n0_ n1_ n2_ n3_ n4_ n5_ n6_ n7_ n8_ n9_ n10_
          refine start_ (n := 5) (S := fun w' => w'.cell? ⟨gb305, 0, none⟩ = some (.slice Ao53 t296.length co53) ∧ w'.cell? ⟨gb305, 1, none⟩ = some (.slice Ao57 t299.length co57) ∧ w'.cell? ⟨gb305, 2, none⟩ = some (.slice Ao58 t302.length co58) ∧ w'.cell? ⟨gb272, 0, none⟩ = some (.slice A0_0 l0_0.length c0_0) ∧ w'.cell? ⟨gb272, 1, none⟩ = some (.slice A0_1 l0_1.length c0_1) ∧ w'.cell? ⟨gb272, 2, none⟩ = some (.slice A0_2 l0_2.length c0_2)) (ds := []) #[false, false, false, false, false] (by kernel_rfl) rfl rfl ⟨(blk_cell BK305.out 0).trans rfl, (blk_cell BK305.out 1).trans rfl, (blk_cell BK305.out 2).trans rfl, (blk_cell BK272.out 0).trans rfl, (blk_cell BK272.out 1).trans rfl, (blk_cell BK272.out 2).trans rfl⟩ (fun hHeld => ?_)
          generalize wc.drew = w110 at HO_12 HO_306000 HO_306001 HO_306002 HO_313000 HO_313001 BK272 BK273 BK305 BK312 HB hHeld ⊢
          refine take_ (i := 0) (N := some 59) (v := ?_) (a' := ?_) #[true, false, false, false, false] rfl rfl (by kernel_rfl) (fun _ _ _ h => h) (Or.inl ⟨by rfl, ?_⟩) hHeld ?_ ?_
          rotate_left
          ·rintro w' ⟨s0, s1, s2, s3, s4, s5⟩
           go_simp
           with_reducible rfl
          rotate_left
          ·simp only [Act.put, List.setIfInBounds_toArray, List.set_cons_zero, List.set_cons_succ, i64_w, i32_w]
           rfl
          refine take_ (i := 1) (N := some 60) (v := ?_) (a' := ?_) #[true, true, false, false, false] rfl rfl (by kernel_rfl) (fun _ _ _ h => h) (Or.inl ⟨by rfl, ?_⟩) hHeld ?_ ?_
          rotate_left
          ·rintro w' ⟨s0, s1, s2, s3, s4, s5⟩
           go_simp
           with_reducible rfl
          rotate_left
          ·simp only [Act.put, List.setIfInBounds_toArray, List.set_cons_zero, List.set_cons_succ, i64_w, i32_w]
           rfl
          refine one_ (i := 2) (N := some 61) #[true, true, true, false, false] rfl rfl (by kernel_rfl) (by decide) (fun K hK => ?_)
          refine goes_ Tryd.func15 (by kernel_rfl) rfl #[.agg #[.slice A0_0 l0_0.length c0_0, .slice A0_1 l0_1.length c0_1, .slice A0_2 l0_2.length c0_2]] (by rfl) rfl rfl ls_ ?_
          with_reducible refine (laws_toBoard.calls kj30 _ _ l0_0 _ _ l0_1 _ _ l0_2 t318 t321 t324 _ ?side1 ?side2 ?side3 ?side4 ?side5 ?side6 A75.out).mono ?_
          (case side1 => exact cb_ HR0_0.out)
          (case side2 => exact HC0_0.out)
          (case side3 => exact cb_ HR0_1.out)
          (case side4 => exact HC0_1.out)
          (case side5 => exact cb_ HR0_2.out)
          (case side6 => exact HC0_2.out)
          rintro e w111 ⟨v319, v322, v325, rfl, ho0, ho1, ho2, hb⟩
          refine ⟨_, rfl, ?_⟩
          have n0_ := Aside0.mk (Kd.R_below (ra_ HO_12.out) hb)
          have n1_ := Aside0.mk (Kd.R_elder' (ra_ HO_306000.out) (Kd.R_base ho0) hb)
          have n2_ := Aside0.mk (Kd.R_elder' (ra_ HO_306001.out) (Kd.R_base ho1) hb)
          have n3_ := Aside0.mk (Kd.S_elder' (sa_ HO_306002.out) (Kd.S_base ho2) hb)
          have n4_ := Aside0.mk (Kd.R_elder' (ra_ HO_313000.out) (Kd.R_base ho0) hb)
          have n5_ := Aside0.mk (Kd.R_elder' (ra_ HO_313001.out) (Kd.R_base ho0) hb)
          have n6_ := Aside0.mk (Kd.R_lower (Kd.R_new' (Kd.R_new' (Kd.R_new' ho0 (Kd.R_lt (ra_ HO_306000.out))) (Kd.R_lt (ra_ HO_313000.out))) (Kd.R_lt (ra_ HO_313001.out))) (below_size hb_))
          have n7_ := Aside0.mk (Kd.R_lower (Kd.R_new' ho1 (Kd.R_lt (ra_ HO_306001.out))) (below_size hb_))
          have n8_ := Aside0.mk (Kd.S_lower (Kd.S_new' (Kd.S_new' ho2 (Kd.R_lt (ra_ HO_12.out))) (Kd.S_lt (sa_ HO_306002.out))) (below_size hb_))
          have n9_ := bb_ BK272 hb
          have n10_ := bb_ BK273 hb
          have n11_ := bb_ BK305 hb
          have n12_ := bb_ BK312 hb
          have n13_ := Aside0.mk (below_step hb_ hb)
          clear HO_12
          clear HO_306000
          clear HO_306001
          clear HO_306002
          clear HO_313000
          clear HO_313001
          clear BK272
          clear BK273
          clear BK305
          clear BK312
          clear HB
          have HO_12 := n0_
          have HO_306000 := n1_
          have HO_306001 := n2_
          have HO_306002 := n3_
          have HO_313000 := n4_
          have HO_313001 := n5_
          have HO320 := n6_
          have HO323 := n7_
          have HO326 := n8_
          have BK272 := n9_
          have BK273 := n10_
          have BK305 := n11_
          have BK312 := n12_
          have HB := n13_
          clear n0_ n1_ n2_ n3_ n4_ n5_ n6_ n7_ n8_ n9_ n10_ n11_ n12_ n13_
          (try clear hb)
          (try clear hb2)
          (try clear hk)
          (try clear hi)
          (try clear ho0)
          (try clear ho1)
          (try clear ho2)
          obtain ⟨Ao112, co112, eo112⟩ := Kd.R_slice HO320.out
          (first | subst eo112 | (injection eo112 with f1_ f2_ f3_; have f4_ := f1_.symm; have f5_ := f3_.symm; clear f1_ f2_ f3_; subst f4_; subst f5_))
          obtain ⟨Ao113, co113, eo113⟩ := Kd.R_slice HO323.out
          (first | subst eo113 | (injection eo113 with f1_ f2_ f3_; have f4_ := f1_.symm; have f5_ := f3_.symm; clear f1_ f2_ f3_; subst f4_; subst f5_))
          obtain ⟨Ao114, co114, eo114⟩ := Kd.S_slice HO326.out
          (first | subst eo114 | (injection eo114 with f1_ f2_ f3_; have f4_ := f1_.symm; have f5_ := f3_.symm; clear f1_ f2_ f3_; subst f4_; subst f5_))
          refine hK.out _ _ ⟨(blk_cell BK305.out 0).trans rfl, (blk_cell BK305.out 1).trans rfl, (blk_cell BK305.out 2).trans rfl, (blk_cell BK272.out 0).trans rfl, (blk_cell BK272.out 1).trans rfl, (blk_cell BK272.out 2).trans rfl⟩ (fun hHeld => ?_)
          clear hK K
          refine norm_ (a' := ?_) ?_ ?_
          rotate_left
          ·show Act.put _ (some 61) _ = _
           simp only [Act.put, List.setIfInBounds_toArray, List.set_cons_zero, List.set_cons_succ, i64_w, i32_w]
           rfl
          refine one_ (i := 3) (N := some 62) #[true, true, true, true, false] rfl rfl (by kernel_rfl) (by decide) (fun K hK => ?_)
          refine goes_ Tryd.func19 (by kernel_rfl) rfl #[.agg #[.slice Ao53 t296.length co53, .slice Ao57 t299.length co57, .slice Ao58 t302.length co58], .agg #[.slice Ao112 t318.length co112, .slice Ao113 t321.length co113, .slice Ao114 t324.length co114]] (by rfl) rfl rfl ls_ ?_
          with_reducible refine (laws_eqBoard.calls kj30 _ _ t296 _ _ t299 _ _ t302 _ _ t318 _ _ t321 _ _ t324 true _ ?side1 ?side2 ?side3 ?side4 ?side5 ?side6 ?side7 ?side8 ?side9 ?side10 ?side11 ?side12 A76.out).mono ?_
          (case side1 => exact ca_ (Kd.R_reads' HO_306000.out).2.2)
          (case side2 => exact (Kd.R_reads' HO_306000.out).2.1)
          (case side3 => exact ca_ (Kd.R_reads' HO_306001.out).2.2)
          (case side4 => exact (Kd.R_reads' HO_306001.out).2.1)
          (case side5 => exact ca_ (Kd.S_reads' HO_306002.out).2.2)
          (case side6 => exact (Kd.S_reads' HO_306002.out).2.1)
          (case side7 => exact ca_ (Kd.R_reads' HO320.out).2.2)
          (case side8 => exact (Kd.R_reads' HO320.out).2.1)
          (case side9 => exact ca_ (Kd.R_reads' HO323.out).2.2)
          (case side10 => exact (Kd.R_reads' HO323.out).2.1)
          (case side11 => exact ca_ (Kd.S_reads' HO326.out).2.2)
          (case side12 => exact (Kd.S_reads' HO326.out).2.1)
          rintro e w115 ⟨rfl, hb⟩
          refine ⟨_, rfl, ?_⟩
          have n0_ := Aside0.mk (Kd.R_below (ra_ HO_12.out) hb)
          have n1_ := Aside0.mk (Kd.R_below (ra_ HO_306000.out) hb)
          have n2_ := Aside0.mk (Kd.R_below (ra_ HO_306001.out) hb)
          have n3_ := Aside0.mk (Kd.S_below (sa_ HO_306002.out) hb)
          have n4_ := Aside0.mk (Kd.R_below (ra_ HO_313000.out) hb)
          have n5_ := Aside0.mk (Kd.R_below (ra_ HO_313001.out) hb)
          have n6_ := Aside0.mk (Kd.R_below (ra_ HO320.out) hb)
          have n7_ := Aside0.mk (Kd.R_below (ra_ HO323.out) hb)
          have n8_ := Aside0.mk (Kd.S_below (sa_ HO326.out) hb)
          have n9_ := bb_ BK272 hb
          have n10_ := bb_ BK273 hb
          have n11_ := bb_ BK305 hb
          have n12_ := bb_ BK312 hb
          have n13_ := Aside0.mk (below_step hb_ hb)
          clear HO_12
          clear HO_306000
          clear HO_306001
          clear HO_306002
          clear HO_313000
          clear HO_313001
          clear HO320
          clear HO323
          clear HO326
          clear BK272
          clear BK273
          clear BK305
          clear BK312
          clear HB
          have HO_12 := n0_
          have HO_306000 := n1_
          have HO_306001 := n2_
          have HO_306002 := n3_
          have HO_313000 := n4_
          have HO_313001 := n5_
          have HO320 := n6_
          have HO323 := n7_
          have HO326 := n8_
          have BK272 := n9_
          have BK273 := n10_
          have BK305 := n11_
          have BK312 := n12_
          have HB := n13_
          clear n0_ n1_ n2_ n3_ n4_ n5_ n6_ n7_ n8_ n9_ n10_ n11_ n12_ n13_
          (try clear hb)
          (try clear hb2)
          (try clear hk)
          (try clear hi)
          refine hK.out _ _ ⟨(blk_cell BK305.out 0).trans rfl, (blk_cell BK305.out 1).trans rfl, (blk_cell BK305.out 2).trans rfl, (blk_cell BK272.out 0).trans rfl, (blk_cell BK272.out 1).trans rfl, (blk_cell BK272.out 2).trans rfl⟩ (fun hHeld => ?_)
          clear hK K
          refine norm_ (a' := ?_) ?_ ?_
          rotate_left
          ·show Act.put _ (some 62) _ = _
           simp only [Act.put, List.setIfInBounds_toArray, List.set_cons_zero, List.set_cons_succ, i64_w, i32_w]
           rfl
          refine pure_ (i := 4) (N := some 63) (v := ?_) (a' := ?_) #[true, true, true, true, true] rfl rfl (by kernel_rfl) (fun _ _ _ h => h) (Or.inl ⟨by rfl, ?_⟩) ?_ ?_
          rotate_left
          ·intro w'
           go_simp
           with_reducible rfl
          rotate_left
          ·simp only [Act.put, List.setIfInBounds_toArray, List.set_cons_zero, List.set_cons_succ, i64_w, i32_w]
           rfl
          refine done_ (by kernel_rfl) ?_
          try go_wp2
          have n0_ := Aside0.mk (Kd.R_drew HO_12.out)
          have n1_ := Aside0.mk (Kd.R_drew HO_306000.out)
          have n2_ := Aside0.mk (Kd.R_drew HO_306001.out)
          have n3_ := Aside0.mk (Kd.S_drew HO_306002.out)
          have n4_ := Aside0.mk (Kd.R_drew HO_313000.out)
          have n5_ := Aside0.mk (Kd.R_drew HO_313001.out)
          have n6_ := Aside0.mk (Kd.R_drew HO320.out)
          have n7_ := Aside0.mk (Kd.R_drew HO323.out)
          have n8_ := Aside0.mk (Kd.S_drew HO326.out)
          have n9_ := Aside0.mk (blk_drew BK272.out)
          have n10_ := Aside0.mk (blk_drew BK273.out)
          have n11_ := Aside0.mk (blk_drew BK305.out)
          have n12_ := Aside0.mk (blk_drew BK312.out)
          have n13_ := Aside0.mk (below_drew1 HB.out)
          clear HO_12
          clear HO_306000
          clear HO_306001
          clear HO_306002
          clear HO_313000
          clear HO_313001
          clear HO320
          clear HO323
          clear HO326
          clear BK272
          clear BK273
          clear BK305
          clear BK312
          clear HB
          have HO_12 := n0_
          have HO_306000 := n1_
          have HO_306001 := n2_
          have HO_306002 := n3_
          have HO_313000 := n4_
          have HO_313001 := n5_
          have HO320 := n6_
          have HO323 := n7_
          have HO326 := n8_
          have BK272 := n9_
          have BK273 := n10_
          have BK305 := n11_
          have BK312 := n12_
          have HB := n13_
          clear n0_ n1_ n2_ n3_ n4_ n5_ n6_ n7_ n8_ n9_ n10_ n11_ n12_ n13_
          refine start_ (n := 5) (S := fun w' => w'.cell? ⟨gb312, 0, none⟩ = some (.slice Ao62 t306.length co62) ∧ w'.cell? ⟨gb312, 1, none⟩ = some (.slice Ao67 t309.length co67) ∧ w'.cell? ⟨gb273, 0, none⟩ = some (.slice A1_0 l1_0.length c1_0) ∧ w'.cell? ⟨gb273, 1, none⟩ = some (.slice A1_1 l1_1.length c1_1)) (ds := []) #[false, false, false, false, false] (by kernel_rfl) rfl rfl ⟨(blk_cell BK312.out 0).trans rfl, (blk_cell BK312.out 1).trans rfl, (blk_cell BK273.out 0).trans rfl, (blk_cell BK273.out 1).trans rfl⟩ (fun hHeld => ?_)
          generalize w115.drew = w116 at HO_12 HO_306000 HO_306001 HO_306002 HO_313000 HO_313001 HO320 HO323 HO326 BK272 BK273 BK305 BK312 HB hHeld ⊢
          refine take_ (i := 0) (N := some 64) (v := ?_) (a' := ?_) #[true, false, false, false, false] rfl rfl (by kernel_rfl) (fun _ _ _ h => h) (Or.inl ⟨by rfl, ?_⟩) hHeld ?_ ?_
          rotate_left
          ·rintro w' ⟨s0, s1, s2, s3⟩
           go_simp
           with_reducible rfl
          rotate_left
          ·simp only [Act.put, List.setIfInBounds_toArray, List.set_cons_zero, List.set_cons_succ, i64_w, i32_w]
           rfl
          refine take_ (i := 1) (N := some 65) (v := ?_) (a' := ?_) #[true, true, false, false, false] rfl rfl (by kernel_rfl) (fun _ _ _ h => h) (Or.inl ⟨by rfl, ?_⟩) hHeld ?_ ?_
          rotate_left
          ·rintro w' ⟨s0, s1, s2, s3⟩
           go_simp
           with_reducible rfl
          rotate_left
          ·simp only [Act.put, List.setIfInBounds_toArray, List.set_cons_zero, List.set_cons_succ, i64_w, i32_w]
           rfl
          refine one_ (i := 2) (N := some 66) #[true, true, true, false, false] rfl rfl (by kernel_rfl) (by decide) (fun K hK => ?_)
          refine goes_ Tryd.func16 (by kernel_rfl) rfl #[.agg #[.slice A1_0 l1_0.length c1_0, .slice A1_1 l1_1.length c1_1]] (by rfl) rfl rfl ls_ ?_
          with_reducible refine (laws_toWish.calls kj30 _ _ l1_0 _ _ l1_1 t328 t331 _ ?side1 ?side2 ?side3 ?side4 A78.out).mono ?_
          (case side1 => exact cb_ HR1_0.out)
          (case side2 => exact HC1_0.out)
          (case side3 => exact cb_ HR1_1.out)
          (case side4 => exact HC1_1.out)
          rintro e w117 ⟨v329, v332, rfl, ho0, ho1, hb⟩
          refine ⟨_, rfl, ?_⟩
          have n0_ := Aside0.mk (Kd.R_below (ra_ HO_12.out) hb)
          have n1_ := Aside0.mk (Kd.R_mono (Kd.R_told (Kd.R_told (Kd.R_old (ra_ HO_306000.out) hb) (Kd.R_base ho0)) (Kd.R_base ho1)) (fun _ h_ => h_.1))
          have n2_ := Aside0.mk (Kd.R_below (ra_ HO_306001.out) hb)
          have n3_ := Aside0.mk (Kd.S_below (sa_ HO_306002.out) hb)
          have n4_ := Aside0.mk (Kd.R_mono (Kd.R_told (Kd.R_told (Kd.R_old (ra_ HO_313000.out) hb) (Kd.R_base ho0)) (Kd.R_base ho1)) (fun _ h_ => h_.1))
          have n5_ := Aside0.mk (Kd.R_mono (Kd.R_told (Kd.R_told (Kd.R_old (ra_ HO_313001.out) hb) (Kd.R_base ho0)) (Kd.R_base ho1)) (fun _ h_ => h_.1))
          have n6_ := Aside0.mk (Kd.R_mono (Kd.R_told (Kd.R_told (Kd.R_old (ra_ HO320.out) hb) (Kd.R_base ho0)) (Kd.R_base ho1)) (fun _ h_ => h_.1))
          have n7_ := Aside0.mk (Kd.R_below (ra_ HO323.out) hb)
          have n8_ := Aside0.mk (Kd.S_below (sa_ HO326.out) hb)
          have n9_ := Aside0.mk (Kd.R_lower (Kd.R_new' (Kd.R_new' (Kd.R_new' (Kd.R_new' ho0 (Kd.R_lt (ra_ HO_306000.out))) (Kd.R_lt (ra_ HO_313000.out))) (Kd.R_lt (ra_ HO_313001.out))) (Kd.R_lt (ra_ HO320.out))) (below_size hb_))
          have n10_ := Aside0.mk (Kd.R_lower (Kd.R_new' (Kd.R_new' (Kd.R_new' (Kd.R_new' ho1 (Kd.R_lt (ra_ HO_306000.out))) (Kd.R_lt (ra_ HO_313000.out))) (Kd.R_lt (ra_ HO_313001.out))) (Kd.R_lt (ra_ HO320.out))) (below_size hb_))
          have n11_ := bb_ BK272 hb
          have n12_ := bb_ BK273 hb
          have n13_ := bb_ BK305 hb
          have n14_ := bb_ BK312 hb
          have n15_ := Aside0.mk (below_step hb_ hb)
          clear HO_12
          clear HO_306000
          clear HO_306001
          clear HO_306002
          clear HO_313000
          clear HO_313001
          clear HO320
          clear HO323
          clear HO326
          clear BK272
          clear BK273
          clear BK305
          clear BK312
          clear HB
          have HO_12 := n0_
          have HO_306000 := n1_
          have HO_306001 := n2_
          have HO_306002 := n3_
          have HO_313000 := n4_
          have HO_313001 := n5_
          have HO320 := n6_
          have HO323 := n7_
          have HO326 := n8_
          have HO330 := n9_
          have HO333 := n10_
          have BK272 := n11_
          have BK273 := n12_
          have BK305 := n13_
          have BK312 := n14_
          have HB := n15_
          clear n0_ n1_ n2_ n3_ n4_ n5_ n6_ n7_ n8_ n9_ n10_ n11_ n12_ n13_ n14_ n15_
          (try clear hb)
          (try clear hb2)
          (try clear hk)
          (try clear hi)
          (try clear ho0)
          (try clear ho1)
          obtain ⟨Ao118, co118, eo118⟩ := Kd.R_slice HO330.out
          (first | subst eo118 | (injection eo118 with f1_ f2_ f3_; have f4_ := f1_.symm; have f5_ := f3_.symm; clear f1_ f2_ f3_; subst f4_; subst f5_))
          obtain ⟨Ao119, co119, eo119⟩ := Kd.R_slice HO333.out
          (first | subst eo119 | (injection eo119 with f1_ f2_ f3_; have f4_ := f1_.symm; have f5_ := f3_.symm; clear f1_ f2_ f3_; subst f4_; subst f5_))
          refine hK.out _ _ ⟨(blk_cell BK312.out 0).trans rfl, (blk_cell BK312.out 1).trans rfl, (blk_cell BK273.out 0).trans rfl, (blk_cell BK273.out 1).trans rfl⟩ (fun hHeld => ?_)
          clear hK K
          refine norm_ (a' := ?_) ?_ ?_
          rotate_left
          ·show Act.put _ (some 66) _ = _
           simp only [Act.put, List.setIfInBounds_toArray, List.set_cons_zero, List.set_cons_succ, i64_w, i32_w]
           rfl
          refine one_ (i := 3) (N := some 67) #[true, true, true, true, false] rfl rfl (by kernel_rfl) (by decide) (fun K hK => ?_)
          refine goes_ Tryd.func20 (by kernel_rfl) rfl #[.agg #[.slice Ao62 t306.length co62, .slice Ao67 t309.length co67], .agg #[.slice Ao118 t328.length co118, .slice Ao119 t331.length co119]] (by rfl) rfl rfl ls_ ?_
          with_reducible refine (laws_eqWish.calls kj30 _ _ t306 _ _ t309 _ _ t328 _ _ t331 false _ ?side1 ?side2 ?side3 ?side4 ?side5 ?side6 ?side7 ?side8 A79.out).mono ?_
          (case side1 => exact ca_ (Kd.R_reads' HO_313000.out).2.2)
          (case side2 => exact (Kd.R_reads' HO_313000.out).2.1)
          (case side3 => exact ca_ (Kd.R_reads' HO_313001.out).2.2)
          (case side4 => exact (Kd.R_reads' HO_313001.out).2.1)
          (case side5 => exact ca_ (Kd.R_reads' HO330.out).2.2)
          (case side6 => exact (Kd.R_reads' HO330.out).2.1)
          (case side7 => exact ca_ (Kd.R_reads' HO333.out).2.2)
          (case side8 => exact (Kd.R_reads' HO333.out).2.1)
          rintro e w120 ⟨rfl, hb⟩
          refine ⟨_, rfl, ?_⟩
          have n0_ := Aside0.mk (Kd.R_below (ra_ HO_12.out) hb)
          have n1_ := Aside0.mk (Kd.R_below (ra_ HO_306000.out) hb)
          have n2_ := Aside0.mk (Kd.R_below (ra_ HO_306001.out) hb)
          have n3_ := Aside0.mk (Kd.S_below (sa_ HO_306002.out) hb)
          have n4_ := Aside0.mk (Kd.R_below (ra_ HO_313000.out) hb)
          have n5_ := Aside0.mk (Kd.R_below (ra_ HO_313001.out) hb)
          have n6_ := Aside0.mk (Kd.R_below (ra_ HO320.out) hb)
          have n7_ := Aside0.mk (Kd.R_below (ra_ HO323.out) hb)
          have n8_ := Aside0.mk (Kd.S_below (sa_ HO326.out) hb)
          have n9_ := Aside0.mk (Kd.R_below (ra_ HO330.out) hb)
          have n10_ := Aside0.mk (Kd.R_below (ra_ HO333.out) hb)
          have n11_ := bb_ BK272 hb
          have n12_ := bb_ BK273 hb
          have n13_ := bb_ BK305 hb
          have n14_ := bb_ BK312 hb
          have n15_ := Aside0.mk (below_step hb_ hb)
          clear HO_12
          clear HO_306000
          clear HO_306001
          clear HO_306002
          clear HO_313000
          clear HO_313001
          clear HO320
          clear HO323
          clear HO326
          clear HO330
          clear HO333
          clear BK272
          clear BK273
          clear BK305
          clear BK312
          clear HB
          have HO_12 := n0_
          have HO_306000 := n1_
          have HO_306001 := n2_
          have HO_306002 := n3_
          have HO_313000 := n4_
          have HO_313001 := n5_
          have HO320 := n6_
          have HO323 := n7_
          have HO326 := n8_
          have HO330 := n9_
          have HO333 := n10_
          have BK272 := n11_
          have BK273 := n12_
          have BK305 := n13_
          have BK312 := n14_
          have HB := n15_
          clear n0_ n1_ n2_ n3_ n4_ n5_ n6_ n7_ n8_ n9_ n10_ n11_ n12_ n13_ n14_ n15_
          (try clear hb)
          (try clear hb2)
          (try clear hk)
          (try clear hi)
          refine hK.out _ _ ⟨(blk_cell BK312.out 0).trans rfl, (blk_cell BK312.out 1).trans rfl, (blk_cell BK273.out 0).trans rfl, (blk_cell BK273.out 1).trans rfl⟩ (fun hHeld => ?_)
          clear hK K
          refine norm_ (a' := ?_) ?_ ?_
          rotate_left
          ·show Act.put _ (some 67) _ = _
           simp only [Act.put, List.setIfInBounds_toArray, List.set_cons_zero, List.set_cons_succ, i64_w, i32_w]
           rfl
          refine pure_ (i := 4) (N := some 68) (v := ?_) (a' := ?_) #[true, true, true, true, true] rfl rfl (by kernel_rfl) (fun _ _ _ h => h) (Or.inl ⟨by rfl, ?_⟩) ?_ ?_
          rotate_left
          ·intro w'
           go_simp
           with_reducible rfl
          rotate_left
          ·simp only [Act.put, List.setIfInBounds_toArray, List.set_cons_zero, List.set_cons_succ, i64_w, i32_w]
           rfl
          refine done_ (by kernel_rfl) ?_
          try go_wp2
          go_ret
          exact ⟨er_, hb_⟩
        ·replace c77 := Bool.eq_false_iff.mpr c77
         subst c77
         rw [if_neg (show ¬ (false = true) by decide)] at H
         obtain rfl := Option.some.inj H
         try go_wp2
         have n0_ := Aside0.mk (Kd.R_drew HO_12.out)
         have n1_ := Aside0.mk (Kd.R_drew HO_306000.out)
         have n2_ := Aside0.mk (Kd.R_drew HO_306001.out)
         have n3_ := Aside0.mk (Kd.S_drew HO_306002.out)
         have n4_ := Aside0.mk (Kd.R_drew HO_313000.out)
         have n5_ := Aside0.mk (Kd.R_drew HO_313001.out)
         have n6_ := Aside0.mk (blk_drew BK272.out)
         have n7_ := Aside0.mk (blk_drew BK273.out)
         have n8_ := Aside0.mk (blk_drew BK305.out)
         have n9_ := Aside0.mk (blk_drew BK312.out)
         have n10_ := Aside0.mk (below_drew1 HB.out)
         clear HO_12
         clear HO_306000
         clear HO_306001
         clear HO_306002
         clear HO_313000
         clear HO_313001
         clear BK272
         clear BK273
         clear BK305
         clear BK312
         clear HB
         have HO_12 := n0_
         have HO_306000 := n1_
         have HO_306001 := n2_
         have HO_306002 := n3_
         have HO_313000 := n4_
         have HO_313001 := n5_
         have BK272 := n6_
         have BK273 := n7_
         have BK305 := n8_
         have BK312 := n9_
         have HB := n10_
         clear n0_ n1_ n2_ n3_ n4_ n5_ n6_ n7_ n8_ n9_ n10_
         refine start_ (n := 5) (S := fun w' => w'.cell? ⟨gb305, 0, none⟩ = some (.slice Ao53 t296.length co53) ∧ w'.cell? ⟨gb305, 1, none⟩ = some (.slice Ao57 t299.length co57) ∧ w'.cell? ⟨gb305, 2, none⟩ = some (.slice Ao58 t302.length co58) ∧ w'.cell? ⟨gb272, 0, none⟩ = some (.slice A0_0 l0_0.length c0_0) ∧ w'.cell? ⟨gb272, 1, none⟩ = some (.slice A0_1 l0_1.length c0_1) ∧ w'.cell? ⟨gb272, 2, none⟩ = some (.slice A0_2 l0_2.length c0_2)) (ds := []) #[false, false, false, false, false] (by kernel_rfl) rfl rfl ⟨(blk_cell BK305.out 0).trans rfl, (blk_cell BK305.out 1).trans rfl, (blk_cell BK305.out 2).trans rfl, (blk_cell BK272.out 0).trans rfl, (blk_cell BK272.out 1).trans rfl, (blk_cell BK272.out 2).trans rfl⟩ (fun hHeld => ?_)
         generalize wc.drew = w121 at HO_12 HO_306000 HO_306001 HO_306002 HO_313000 HO_313001 BK272 BK273 BK305 BK312 HB hHeld ⊢
         refine take_ (i := 0) (N := some 59) (v := ?_) (a' := ?_) #[true, false, false, false, false] rfl rfl (by kernel_rfl) (fun _ _ _ h => h) (Or.inl ⟨by rfl, ?_⟩) hHeld ?_ ?_
         rotate_left
         ·rintro w' ⟨s0, s1, s2, s3, s4, s5⟩
          go_simp
          with_reducible rfl
         rotate_left
         ·simp only [Act.put, List.setIfInBounds_toArray, List.set_cons_zero, List.set_cons_succ, i64_w, i32_w]
          rfl
         refine take_ (i := 1) (N := some 60) (v := ?_) (a' := ?_) #[true, true, false, false, false] rfl rfl (by kernel_rfl) (fun _ _ _ h => h) (Or.inl ⟨by rfl, ?_⟩) hHeld ?_ ?_
         rotate_left
         ·rintro w' ⟨s0, s1, s2, s3, s4, s5⟩
          go_simp
          with_reducible rfl
         rotate_left
         ·simp only [Act.put, List.setIfInBounds_toArray, List.set_cons_zero, List.set_cons_succ, i64_w, i32_w]
          rfl
         refine one_ (i := 2) (N := some 61) #[true, true, true, false, false] rfl rfl (by kernel_rfl) (by decide) (fun K hK => ?_)
         refine goes_ Tryd.func15 (by kernel_rfl) rfl #[.agg #[.slice A0_0 l0_0.length c0_0, .slice A0_1 l0_1.length c0_1, .slice A0_2 l0_2.length c0_2]] (by rfl) rfl rfl ls_ ?_
         with_reducible refine (laws_toBoard.calls kj30 _ _ l0_0 _ _ l0_1 _ _ l0_2 t318 t321 t324 _ ?side1 ?side2 ?side3 ?side4 ?side5 ?side6 A75.out).mono ?_
         (case side1 => exact cb_ HR0_0.out)
         (case side2 => exact HC0_0.out)
         (case side3 => exact cb_ HR0_1.out)
         (case side4 => exact HC0_1.out)
         (case side5 => exact cb_ HR0_2.out)
         (case side6 => exact HC0_2.out)
         rintro e w122 ⟨v319, v322, v325, rfl, ho0, ho1, ho2, hb⟩
         refine ⟨_, rfl, ?_⟩
         have n0_ := Aside0.mk (Kd.R_below (ra_ HO_12.out) hb)
         have n1_ := Aside0.mk (Kd.R_elder' (ra_ HO_306000.out) (Kd.R_base ho0) hb)
         have n2_ := Aside0.mk (Kd.R_elder' (ra_ HO_306001.out) (Kd.R_base ho1) hb)
         have n3_ := Aside0.mk (Kd.S_elder' (sa_ HO_306002.out) (Kd.S_base ho2) hb)
         have n4_ := Aside0.mk (Kd.R_elder' (ra_ HO_313000.out) (Kd.R_base ho0) hb)
         have n5_ := Aside0.mk (Kd.R_elder' (ra_ HO_313001.out) (Kd.R_base ho0) hb)
         have n6_ := Aside0.mk (Kd.R_lower (Kd.R_new' (Kd.R_new' (Kd.R_new' ho0 (Kd.R_lt (ra_ HO_306000.out))) (Kd.R_lt (ra_ HO_313000.out))) (Kd.R_lt (ra_ HO_313001.out))) (below_size hb_))
         have n7_ := Aside0.mk (Kd.R_lower (Kd.R_new' ho1 (Kd.R_lt (ra_ HO_306001.out))) (below_size hb_))
         have n8_ := Aside0.mk (Kd.S_lower (Kd.S_new' (Kd.S_new' ho2 (Kd.R_lt (ra_ HO_12.out))) (Kd.S_lt (sa_ HO_306002.out))) (below_size hb_))
         have n9_ := bb_ BK272 hb
         have n10_ := bb_ BK273 hb
         have n11_ := bb_ BK305 hb
         have n12_ := bb_ BK312 hb
         have n13_ := Aside0.mk (below_step hb_ hb)
         clear HO_12
         clear HO_306000
         clear HO_306001
         clear HO_306002
         clear HO_313000
         clear HO_313001
         clear BK272
         clear BK273
         clear BK305
         clear BK312
         clear HB
         have HO_12 := n0_
         have HO_306000 := n1_
         have HO_306001 := n2_
         have HO_306002 := n3_
         have HO_313000 := n4_
         have HO_313001 := n5_
         have HO320 := n6_
         have HO323 := n7_
         have HO326 := n8_
         have BK272 := n9_
         have BK273 := n10_
         have BK305 := n11_
         have BK312 := n12_
         have HB := n13_
         clear n0_ n1_ n2_ n3_ n4_ n5_ n6_ n7_ n8_ n9_ n10_ n11_ n12_ n13_
         (try clear hb)
         (try clear hb2)
         (try clear hk)
         (try clear hi)
         (try clear ho0)
         (try clear ho1)
         (try clear ho2)
         obtain ⟨Ao123, co123, eo123⟩ := Kd.R_slice HO320.out
         (first | subst eo123 | (injection eo123 with f1_ f2_ f3_; have f4_ := f1_.symm; have f5_ := f3_.symm; clear f1_ f2_ f3_; subst f4_; subst f5_))
         obtain ⟨Ao124, co124, eo124⟩ := Kd.R_slice HO323.out
         (first | subst eo124 | (injection eo124 with f1_ f2_ f3_; have f4_ := f1_.symm; have f5_ := f3_.symm; clear f1_ f2_ f3_; subst f4_; subst f5_))
         obtain ⟨Ao125, co125, eo125⟩ := Kd.S_slice HO326.out
         (first | subst eo125 | (injection eo125 with f1_ f2_ f3_; have f4_ := f1_.symm; have f5_ := f3_.symm; clear f1_ f2_ f3_; subst f4_; subst f5_))
         refine hK.out _ _ ⟨(blk_cell BK305.out 0).trans rfl, (blk_cell BK305.out 1).trans rfl, (blk_cell BK305.out 2).trans rfl, (blk_cell BK272.out 0).trans rfl, (blk_cell BK272.out 1).trans rfl, (blk_cell BK272.out 2).trans rfl⟩ (fun hHeld => ?_)
         clear hK K
         refine norm_ (a' := ?_) ?_ ?_
         rotate_left
         ·show Act.put _ (some 61) _ = _
          simp only [Act.put, List.setIfInBounds_toArray, List.set_cons_zero, List.set_cons_succ, i64_w, i32_w]
          rfl
         refine one_ (i := 3) (N := some 62) #[true, true, true, true, false] rfl rfl (by kernel_rfl) (by decide) (fun K hK => ?_)
         refine goes_ Tryd.func19 (by kernel_rfl) rfl #[.agg #[.slice Ao53 t296.length co53, .slice Ao57 t299.length co57, .slice Ao58 t302.length co58], .agg #[.slice Ao123 t318.length co123, .slice Ao124 t321.length co124, .slice Ao125 t324.length co125]] (by rfl) rfl rfl ls_ ?_
         with_reducible refine (laws_eqBoard.calls kj30 _ _ t296 _ _ t299 _ _ t302 _ _ t318 _ _ t321 _ _ t324 false _ ?side1 ?side2 ?side3 ?side4 ?side5 ?side6 ?side7 ?side8 ?side9 ?side10 ?side11 ?side12 A76.out).mono ?_
         (case side1 => exact ca_ (Kd.R_reads' HO_306000.out).2.2)
         (case side2 => exact (Kd.R_reads' HO_306000.out).2.1)
         (case side3 => exact ca_ (Kd.R_reads' HO_306001.out).2.2)
         (case side4 => exact (Kd.R_reads' HO_306001.out).2.1)
         (case side5 => exact ca_ (Kd.S_reads' HO_306002.out).2.2)
         (case side6 => exact (Kd.S_reads' HO_306002.out).2.1)
         (case side7 => exact ca_ (Kd.R_reads' HO320.out).2.2)
         (case side8 => exact (Kd.R_reads' HO320.out).2.1)
         (case side9 => exact ca_ (Kd.R_reads' HO323.out).2.2)
         (case side10 => exact (Kd.R_reads' HO323.out).2.1)
         (case side11 => exact ca_ (Kd.S_reads' HO326.out).2.2)
         (case side12 => exact (Kd.S_reads' HO326.out).2.1)
         rintro e w126 ⟨rfl, hb⟩
         refine ⟨_, rfl, ?_⟩
         have n0_ := Aside0.mk (Kd.R_below (ra_ HO_12.out) hb)
         have n1_ := Aside0.mk (Kd.R_below (ra_ HO_306000.out) hb)
         have n2_ := Aside0.mk (Kd.R_below (ra_ HO_306001.out) hb)
         have n3_ := Aside0.mk (Kd.S_below (sa_ HO_306002.out) hb)
         have n4_ := Aside0.mk (Kd.R_below (ra_ HO_313000.out) hb)
         have n5_ := Aside0.mk (Kd.R_below (ra_ HO_313001.out) hb)
         have n6_ := Aside0.mk (Kd.R_below (ra_ HO320.out) hb)
         have n7_ := Aside0.mk (Kd.R_below (ra_ HO323.out) hb)
         have n8_ := Aside0.mk (Kd.S_below (sa_ HO326.out) hb)
         have n9_ := bb_ BK272 hb
         have n10_ := bb_ BK273 hb
         have n11_ := bb_ BK305 hb
         have n12_ := bb_ BK312 hb
         have n13_ := Aside0.mk (below_step hb_ hb)
         clear HO_12
         clear HO_306000
         clear HO_306001
         clear HO_306002
         clear HO_313000
         clear HO_313001
         clear HO320
         clear HO323
         clear HO326
         clear BK272
         clear BK273
         clear BK305
         clear BK312
         clear HB
         have HO_12 := n0_
         have HO_306000 := n1_
         have HO_306001 := n2_
         have HO_306002 := n3_
         have HO_313000 := n4_
         have HO_313001 := n5_
         have HO320 := n6_
         have HO323 := n7_
         have HO326 := n8_
         have BK272 := n9_
         have BK273 := n10_
         have BK305 := n11_
         have BK312 := n12_
         have HB := n13_
         clear n0_ n1_ n2_ n3_ n4_ n5_ n6_ n7_ n8_ n9_ n10_ n11_ n12_ n13_
         (try clear hb)
         (try clear hb2)
         (try clear hk)
         (try clear hi)
         refine hK.out _ _ ⟨(blk_cell BK305.out 0).trans rfl, (blk_cell BK305.out 1).trans rfl, (blk_cell BK305.out 2).trans rfl, (blk_cell BK272.out 0).trans rfl, (blk_cell BK272.out 1).trans rfl, (blk_cell BK272.out 2).trans rfl⟩ (fun hHeld => ?_)
         clear hK K
         refine norm_ (a' := ?_) ?_ ?_
         rotate_left
         ·show Act.put _ (some 62) _ = _
          simp only [Act.put, List.setIfInBounds_toArray, List.set_cons_zero, List.set_cons_succ, i64_w, i32_w]
          rfl
         refine pure_ (i := 4) (N := some 63) (v := ?_) (a' := ?_) #[true, true, true, true, true] rfl rfl (by kernel_rfl) (fun _ _ _ h => h) (Or.inl ⟨by rfl, ?_⟩) ?_ ?_
         rotate_left
         ·intro w'
          go_simp
          with_reducible rfl
         rotate_left
         ·simp only [Act.put, List.setIfInBounds_toArray, List.set_cons_zero, List.set_cons_succ, i64_w, i32_w]
          rfl
         refine done_ (by kernel_rfl) ?_
         try go_wp2
         go_ret
         exact ⟨er_, hb_⟩

end Go.Proofs.YtdihodboopeakaaDoor.Pr
