-- Joined and pruned by wip/tools/prune.py out of this session's own texts (Pr25)
import Derived.Test.YtcldlljnaijmhaaZgp7
-- Written by this session's own print (wip/tools/mkmp.py) out of the translation. Lean checks it.
namespace Go.Proofs.Ytcldlljnaijmhaa.Pr
open Go.RowKit Go.Proofs.YtcldlljnaijmhaaW.PrintWords Go.Proofs.YtcldlljnaijmhaaW.PrintLast Go.Proofs.YtcldlljnaijmhaaW.PrintMore
attribute [local go_sem] max2_int min2_int max_two min_two max_three min_three max_four min_four   -- for this text's walks alone
set_option linter.unusedVariables false
set_option linter.unusedSimpArgs false

set_option maxHeartbeats 8000000 in
set_option maxRecDepth 100000 in
theorem laws_FnExactGoodPaths.calls (k : Nat) (a0_0 : Int) (A0_1 : Option Addr) (c0_1 : Nat) (l0_1 : List Int) (A1 : Option Addr) (c1 : Nat) (l1 : List (S47)) (A2 : Option Addr) (c2 : Nat) (l2 : List (List Int)) (r : Bool) (w : World) (hr0_1 : Kd.C (Kd.int .i64) w A0_1 l0_1.length l0_1) (hc0_1 : l0_1.length ≤ c0_1) (hr1 : Kd.C k47 w A1 l1.length l1) (hc1 : l1.length ≤ c1) (hr2 : Kd.C (Kd.slice 3 (Kd.int .i64)) w A2 l2.length l2) (hc2 : l2.length ≤ c2) (h : laws_FnExactGoodPaths.f k a0_0 l0_1 l1 l2 = some r) :
   Calls Try.prog 8 #[.agg #[.int .i64 a0_0, .slice A0_1 l0_1.length c0_1], .slice A1 l1.length c1, .slice A2 l2.length c2] w fun e w' => e = .returned (.bool r) ∧ Below w.heap.size w w' := by
  have hu34 := Try.underlying34
  have hu39 := Try.underlying39
  have HR0_1 := Aside0.mk hr0_1
  have HC0_1 := Aside0.mk hc0_1
  clear hr0_1 hc0_1
  have HR1 := Aside0.mk hr1
  have HC1 := Aside0.mk hc1
  clear hr1 hc1
  have HR2 := Aside0.mk hr2
  have HC2 := Aside0.mk hc2
  clear hr2 hc2
  have HB := Aside0.mk (Below.refl w.heap.size w)
  have H : ((laws_szCells.f a0_0 l0_1 1048576).bind fun t374 => (if t374 < 0 then (some true) else ((laws_szTripS.f l1 t374).bind fun t375 => (if t375 < 0 then (some true) else ((laws_szIntSS.f k l2 t375).bind fun t376 => (if t376 < 0 then (some true) else ((laws_toCells.f k a0_0 l0_1).bind fun bt377 => ((laws_toTripS.f k l1).bind fun t381 => ((laws_toIntSS.f k l2).bind fun t384 => ((spec_GoodPaths.f k bt377.1 bt377.2 t381 t384).bind fun t387 => ((laws_toCells.f k a0_0 l0_1).bind fun bt388 => ((laws_toTripS.f k l1).bind fun t393 => ((laws_toIntSS.f k l2).bind fun t396 => ((impl_GoodPaths.f k bt388.1 bt388.2 t393 t396).bind fun t399 => (if (t399 != t387) = true then (some false) else ((laws_toCells.f k a0_0 l0_1).bind fun bt400 => ((laws_eqCells.f k bt388.1 bt388.2 bt400.1 bt400.2).bind fun t404 => (if t404 = true then ((laws_toTripS.f k l1).bind fun t405 => ((laws_eqTripS.f k t393 t405).bind fun t408 => (if t408 = true then ((laws_toIntSS.f k l2).bind fun t409 => ((laws_eqIntSS.f k t396 t409).bind fun t412 => (if t412 = true then (some true) else (some false)))) else (some false)))) else (some false))))))))))))))))))) = some r := h
  clear h
  replace H := Option.bind_eq_some_iff.mp H
  obtain ⟨t374, A40, H⟩ := H
  replace H : (if t374 < 0 then (some true) else ((laws_szTripS.f l1 t374).bind fun t375 => (if t375 < 0 then (some true) else ((laws_szIntSS.f k l2 t375).bind fun t376 => (if t376 < 0 then (some true) else ((laws_toCells.f k a0_0 l0_1).bind fun bt377 => ((laws_toTripS.f k l1).bind fun t381 => ((laws_toIntSS.f k l2).bind fun t384 => ((spec_GoodPaths.f k bt377.1 bt377.2 t381 t384).bind fun t387 => ((laws_toCells.f k a0_0 l0_1).bind fun bt388 => ((laws_toTripS.f k l1).bind fun t393 => ((laws_toIntSS.f k l2).bind fun t396 => ((impl_GoodPaths.f k bt388.1 bt388.2 t393 t396).bind fun t399 => (if (t399 != t387) = true then (some false) else ((laws_toCells.f k a0_0 l0_1).bind fun bt400 => ((laws_eqCells.f k bt388.1 bt388.2 bt400.1 bt400.2).bind fun t404 => (if t404 = true then ((laws_toTripS.f k l1).bind fun t405 => ((laws_eqTripS.f k t393 t405).bind fun t408 => (if t408 = true then ((laws_toIntSS.f k l2).bind fun t409 => ((laws_eqIntSS.f k t396 t409).bind fun t412 => (if t412 = true then (some true) else (some false)))) else (some false)))) else (some false)))))))))))))))))) = some r := H
  have A4 := Aside0.mk A40
  clear A40
  by_cases c5 : t374 < 0
  ·rw [if_pos c5] at H
   have c5b0 : decide (t374 < 0) = true := decide_eq_true c5
   clear c5
   obtain rfl := Option.some.inj H
   go_enter Try.func8, Try.ntmps8
   go_wp2_with (first | ((with_reducible refine gate_dst (N := 3) rfl ?_); refine box_event ?hg (N := 3) ?hd (cs := #[.int .i64 a0_0, .slice A0_1 l0_1.length c0_1]) (t := 34) ?hr ?_; (case hd => rfl); (case hg => rfl); (case hr => first | (go_simp; done) | (go_simp; rfl)); intro gb373 hg w6 hbox hb; have n0_ := Aside0.mk (below_step hb_ hb); have n1_ := Aside0.mk (hbox); have n2_ : Aside0 (w.heap.size ≤ gb373) := gz_; have n3_ : Aside0 (w.heap.size ≤ gb373) := gz_; clear HB; have HB := n0_; have BK373 := n1_; have GW373 := n2_; have GE373 := n3_; clear n0_ n1_ n2_ n3_; clear hb hbox hg; have hcz7_0 : w6.cell? ⟨gb373, 0, none⟩ = some (.int .i64 a0_0) := (blk_cell BK373.out 0).trans rfl; have hcz7_1 : w6.cell? ⟨gb373, 1, none⟩ = some (.slice A0_1 l0_1.length c0_1) := (blk_cell BK373.out 1).trans rfl; have hfz7_0 := blk_frozen BK373.out 0; have hfz7_1 := blk_frozen BK373.out 1) | ((with_reducible refine gate_callee (f := 23) rfl ?_); refine goesL_ (some 15) rfl rfl Try.func23 (by kernel_rfl) rfl #[.agg #[.int .i64 a0_0, .slice A0_1 l0_1.length c0_1], .int .i64 1048576] rfl ls_ ?_; (with_reducible refine (laws_szCells.calls a0_0 _ _ l0_1 1048576 t374 _ ?side1 ?side2 A4.out).mono ?_); (case side1 => exact cb_ HR0_1.out); (case side2 => exact HC0_1.out); rintro e w8 ⟨rfl, hb⟩; refine ⟨_, rfl, ?_⟩; have n0_ := bb_ BK373 hb; have n1_ := Aside0.mk (below_step hb_ hb); clear BK373; clear HB; have BK373 := n0_; have HB := n1_; clear n0_ n1_; (try clear hb); (try clear hb2); (try clear hk); (try clear hi)))
   go_ret
   exact ⟨er_, hb_⟩
  ·rw [if_neg c5] at H
   have c5b0 : decide (t374 < 0) = false := decide_eq_false c5
   clear c5
   replace H := Option.bind_eq_some_iff.mp H
   obtain ⟨t375, A90, H⟩ := H
   replace H : (if t375 < 0 then (some true) else ((laws_szIntSS.f k l2 t375).bind fun t376 => (if t376 < 0 then (some true) else ((laws_toCells.f k a0_0 l0_1).bind fun bt377 => ((laws_toTripS.f k l1).bind fun t381 => ((laws_toIntSS.f k l2).bind fun t384 => ((spec_GoodPaths.f k bt377.1 bt377.2 t381 t384).bind fun t387 => ((laws_toCells.f k a0_0 l0_1).bind fun bt388 => ((laws_toTripS.f k l1).bind fun t393 => ((laws_toIntSS.f k l2).bind fun t396 => ((impl_GoodPaths.f k bt388.1 bt388.2 t393 t396).bind fun t399 => (if (t399 != t387) = true then (some false) else ((laws_toCells.f k a0_0 l0_1).bind fun bt400 => ((laws_eqCells.f k bt388.1 bt388.2 bt400.1 bt400.2).bind fun t404 => (if t404 = true then ((laws_toTripS.f k l1).bind fun t405 => ((laws_eqTripS.f k t393 t405).bind fun t408 => (if t408 = true then ((laws_toIntSS.f k l2).bind fun t409 => ((laws_eqIntSS.f k t396 t409).bind fun t412 => (if t412 = true then (some true) else (some false)))) else (some false)))) else (some false)))))))))))))))) = some r := H
   have A9 := Aside0.mk A90
   clear A90
   by_cases c10 : t375 < 0
   ·rw [if_pos c10] at H
    have c10b0 : decide (t375 < 0) = true := decide_eq_true c10
    clear c10
    obtain rfl := Option.some.inj H
    go_enter Try.func8, Try.ntmps8
    go_wp2_with (first | ((with_reducible refine gate_dst (N := 3) rfl ?_); refine box_event ?hg (N := 3) ?hd (cs := #[.int .i64 a0_0, .slice A0_1 l0_1.length c0_1]) (t := 34) ?hr ?_; (case hd => rfl); (case hg => rfl); (case hr => first | (go_simp; done) | (go_simp; rfl)); intro gb373 hg w11 hbox hb; have n0_ := Aside0.mk (below_step hb_ hb); have n1_ := Aside0.mk (hbox); have n2_ : Aside0 (w.heap.size ≤ gb373) := gz_; have n3_ : Aside0 (w.heap.size ≤ gb373) := gz_; clear HB; have HB := n0_; have BK373 := n1_; have GW373 := n2_; have GE373 := n3_; clear n0_ n1_ n2_ n3_; clear hb hbox hg; have hcz12_0 : w11.cell? ⟨gb373, 0, none⟩ = some (.int .i64 a0_0) := (blk_cell BK373.out 0).trans rfl; have hcz12_1 : w11.cell? ⟨gb373, 1, none⟩ = some (.slice A0_1 l0_1.length c0_1) := (blk_cell BK373.out 1).trans rfl; have hfz12_0 := blk_frozen BK373.out 0; have hfz12_1 := blk_frozen BK373.out 1) | ((with_reducible refine gate_callee (f := 23) rfl ?_); refine goesL_ (some 15) rfl rfl Try.func23 (by kernel_rfl) rfl #[.agg #[.int .i64 a0_0, .slice A0_1 l0_1.length c0_1], .int .i64 1048576] rfl ls_ ?_; (with_reducible refine (laws_szCells.calls a0_0 _ _ l0_1 1048576 t374 _ ?side1 ?side2 A4.out).mono ?_); (case side1 => exact cb_ HR0_1.out); (case side2 => exact HC0_1.out); rintro e w13 ⟨rfl, hb⟩; refine ⟨_, rfl, ?_⟩; have n0_ := bb_ BK373 hb; have n1_ := Aside0.mk (below_step hb_ hb); clear BK373; clear HB; have BK373 := n0_; have HB := n1_; clear n0_ n1_; (try clear hb); (try clear hb2); (try clear hk); (try clear hi)) | ((with_reducible refine gate_callee (f := 24) rfl ?_); refine goesL_ (some 20) rfl rfl Try.func24 (by kernel_rfl) rfl #[.slice A1 l1.length c1, .int .i64 t374] rfl ls_ ?_; (with_reducible refine (laws_szTripS.calls _ _ l1 t374 t375 _ ?side1 ?side2 A9.out).mono ?_); (case side1 => exact cb_ HR1.out); (case side2 => exact HC1.out); rintro e w' ⟨rfl, ⟨nd, rfl⟩⟩; refine ⟨_, rfl, ?_⟩))
    go_ret
    exact ⟨er_, hb_⟩
   ·rw [if_neg c10] at H
    have c10b0 : decide (t375 < 0) = false := decide_eq_false c10
    clear c10
    replace H := Option.bind_eq_some_iff.mp H
    obtain ⟨t376, A140, H⟩ := H
    replace H : (if t376 < 0 then (some true) else ((laws_toCells.f k a0_0 l0_1).bind fun bt377 => ((laws_toTripS.f k l1).bind fun t381 => ((laws_toIntSS.f k l2).bind fun t384 => ((spec_GoodPaths.f k bt377.1 bt377.2 t381 t384).bind fun t387 => ((laws_toCells.f k a0_0 l0_1).bind fun bt388 => ((laws_toTripS.f k l1).bind fun t393 => ((laws_toIntSS.f k l2).bind fun t396 => ((impl_GoodPaths.f k bt388.1 bt388.2 t393 t396).bind fun t399 => (if (t399 != t387) = true then (some false) else ((laws_toCells.f k a0_0 l0_1).bind fun bt400 => ((laws_eqCells.f k bt388.1 bt388.2 bt400.1 bt400.2).bind fun t404 => (if t404 = true then ((laws_toTripS.f k l1).bind fun t405 => ((laws_eqTripS.f k t393 t405).bind fun t408 => (if t408 = true then ((laws_toIntSS.f k l2).bind fun t409 => ((laws_eqIntSS.f k t396 t409).bind fun t412 => (if t412 = true then (some true) else (some false)))) else (some false)))) else (some false)))))))))))))) = some r := H
    have A14 := Aside0.mk A140
    clear A140
    by_cases c15 : t376 < 0
    ·rw [if_pos c15] at H
     have c15b0 : decide (t376 < 0) = true := decide_eq_true c15
     clear c15
     obtain rfl := Option.some.inj H
     go_enter Try.func8, Try.ntmps8
     go_wp2_with (first | ((with_reducible refine gate_dst (N := 3) rfl ?_); refine box_event ?hg (N := 3) ?hd (cs := #[.int .i64 a0_0, .slice A0_1 l0_1.length c0_1]) (t := 34) ?hr ?_; (case hd => rfl); (case hg => rfl); (case hr => first | (go_simp; done) | (go_simp; rfl)); intro gb373 hg w16 hbox hb; have n0_ := Aside0.mk (below_step hb_ hb); have n1_ := Aside0.mk (hbox); have n2_ : Aside0 (w.heap.size ≤ gb373) := gz_; have n3_ : Aside0 (w.heap.size ≤ gb373) := gz_; clear HB; have HB := n0_; have BK373 := n1_; have GW373 := n2_; have GE373 := n3_; clear n0_ n1_ n2_ n3_; clear hb hbox hg; have hcz17_0 : w16.cell? ⟨gb373, 0, none⟩ = some (.int .i64 a0_0) := (blk_cell BK373.out 0).trans rfl; have hcz17_1 : w16.cell? ⟨gb373, 1, none⟩ = some (.slice A0_1 l0_1.length c0_1) := (blk_cell BK373.out 1).trans rfl; have hfz17_0 := blk_frozen BK373.out 0; have hfz17_1 := blk_frozen BK373.out 1) | ((with_reducible refine gate_callee (f := 23) rfl ?_); refine goesL_ (some 15) rfl rfl Try.func23 (by kernel_rfl) rfl #[.agg #[.int .i64 a0_0, .slice A0_1 l0_1.length c0_1], .int .i64 1048576] rfl ls_ ?_; (with_reducible refine (laws_szCells.calls a0_0 _ _ l0_1 1048576 t374 _ ?side1 ?side2 A4.out).mono ?_); (case side1 => exact cb_ HR0_1.out); (case side2 => exact HC0_1.out); rintro e w18 ⟨rfl, hb⟩; refine ⟨_, rfl, ?_⟩; have n0_ := bb_ BK373 hb; have n1_ := Aside0.mk (below_step hb_ hb); clear BK373; clear HB; have BK373 := n0_; have HB := n1_; clear n0_ n1_; (try clear hb); (try clear hb2); (try clear hk); (try clear hi)) | ((with_reducible refine gate_callee (f := 24) rfl ?_); refine goesL_ (some 20) rfl rfl Try.func24 (by kernel_rfl) rfl #[.slice A1 l1.length c1, .int .i64 t374] rfl ls_ ?_; (with_reducible refine (laws_szTripS.calls _ _ l1 t374 t375 _ ?side1 ?side2 A9.out).mono ?_); (case side1 => exact cb_ HR1.out); (case side2 => exact HC1.out); rintro e w' ⟨rfl, ⟨nd, rfl⟩⟩; refine ⟨_, rfl, ?_⟩) | ((with_reducible refine gate_callee (f := 18) rfl ?_); refine goesL_ (some 25) rfl rfl Try.func18 (by kernel_rfl) rfl #[.slice A2 l2.length c2, .int .i64 t375] rfl ls_ ?_; (with_reducible refine (laws_szIntSS.calls k _ _ l2 t375 t376 _ ?side1 ?side2 A14.out).mono ?_); (case side1 => repeat (first | exact (Kd.C_below HR2.out hb_) | (with_reducible refine Kd.C_alloc ?_ _) | (with_reducible refine Kd.C_drewN ?_ _) | (with_reducible refine Kd.C_drew ?_))); (case side2 => exact HC2.out); rintro e w' ⟨rfl, ⟨nd, rfl⟩⟩; refine ⟨_, rfl, ?_⟩))
     go_ret
     exact ⟨er_, hb_⟩
    ·rw [if_neg c15] at H
     have c15b0 : decide (t376 < 0) = false := decide_eq_false c15
     clear c15
     replace H := Option.bind_eq_some_iff.mp H
     obtain ⟨⟨t377, t378⟩, A190, H⟩ := H
     replace H : ((laws_toTripS.f k l1).bind fun t381 => ((laws_toIntSS.f k l2).bind fun t384 => ((spec_GoodPaths.f k t377 t378 t381 t384).bind fun t387 => ((laws_toCells.f k a0_0 l0_1).bind fun bt388 => ((laws_toTripS.f k l1).bind fun t393 => ((laws_toIntSS.f k l2).bind fun t396 => ((impl_GoodPaths.f k bt388.1 bt388.2 t393 t396).bind fun t399 => (if (t399 != t387) = true then (some false) else ((laws_toCells.f k a0_0 l0_1).bind fun bt400 => ((laws_eqCells.f k bt388.1 bt388.2 bt400.1 bt400.2).bind fun t404 => (if t404 = true then ((laws_toTripS.f k l1).bind fun t405 => ((laws_eqTripS.f k t393 t405).bind fun t408 => (if t408 = true then ((laws_toIntSS.f k l2).bind fun t409 => ((laws_eqIntSS.f k t396 t409).bind fun t412 => (if t412 = true then (some true) else (some false)))) else (some false)))) else (some false)))))))))))) = some r := H
     have A19 := Aside0.mk A190
     clear A190
     replace H := Option.bind_eq_some_iff.mp H
     obtain ⟨t381, A200, H⟩ := H
     replace H : ((laws_toIntSS.f k l2).bind fun t384 => ((spec_GoodPaths.f k t377 t378 t381 t384).bind fun t387 => ((laws_toCells.f k a0_0 l0_1).bind fun bt388 => ((laws_toTripS.f k l1).bind fun t393 => ((laws_toIntSS.f k l2).bind fun t396 => ((impl_GoodPaths.f k bt388.1 bt388.2 t393 t396).bind fun t399 => (if (t399 != t387) = true then (some false) else ((laws_toCells.f k a0_0 l0_1).bind fun bt400 => ((laws_eqCells.f k bt388.1 bt388.2 bt400.1 bt400.2).bind fun t404 => (if t404 = true then ((laws_toTripS.f k l1).bind fun t405 => ((laws_eqTripS.f k t393 t405).bind fun t408 => (if t408 = true then ((laws_toIntSS.f k l2).bind fun t409 => ((laws_eqIntSS.f k t396 t409).bind fun t412 => (if t412 = true then (some true) else (some false)))) else (some false)))) else (some false))))))))))) = some r := H
     have A20 := Aside0.mk A200
     clear A200
     replace H := Option.bind_eq_some_iff.mp H
     obtain ⟨t384, A210, H⟩ := H
     replace H : ((spec_GoodPaths.f k t377 t378 t381 t384).bind fun t387 => ((laws_toCells.f k a0_0 l0_1).bind fun bt388 => ((laws_toTripS.f k l1).bind fun t393 => ((laws_toIntSS.f k l2).bind fun t396 => ((impl_GoodPaths.f k bt388.1 bt388.2 t393 t396).bind fun t399 => (if (t399 != t387) = true then (some false) else ((laws_toCells.f k a0_0 l0_1).bind fun bt400 => ((laws_eqCells.f k bt388.1 bt388.2 bt400.1 bt400.2).bind fun t404 => (if t404 = true then ((laws_toTripS.f k l1).bind fun t405 => ((laws_eqTripS.f k t393 t405).bind fun t408 => (if t408 = true then ((laws_toIntSS.f k l2).bind fun t409 => ((laws_eqIntSS.f k t396 t409).bind fun t412 => (if t412 = true then (some true) else (some false)))) else (some false)))) else (some false)))))))))) = some r := H
     have A21 := Aside0.mk A210
     clear A210
     replace H := Option.bind_eq_some_iff.mp H
     obtain ⟨t387, A220, H⟩ := H
     replace H : ((laws_toCells.f k a0_0 l0_1).bind fun bt388 => ((laws_toTripS.f k l1).bind fun t393 => ((laws_toIntSS.f k l2).bind fun t396 => ((impl_GoodPaths.f k bt388.1 bt388.2 t393 t396).bind fun t399 => (if (t399 != t387) = true then (some false) else ((laws_toCells.f k a0_0 l0_1).bind fun bt400 => ((laws_eqCells.f k bt388.1 bt388.2 bt400.1 bt400.2).bind fun t404 => (if t404 = true then ((laws_toTripS.f k l1).bind fun t405 => ((laws_eqTripS.f k t393 t405).bind fun t408 => (if t408 = true then ((laws_toIntSS.f k l2).bind fun t409 => ((laws_eqIntSS.f k t396 t409).bind fun t412 => (if t412 = true then (some true) else (some false)))) else (some false)))) else (some false))))))))) = some r := H
     have A22 := Aside0.mk A220
     clear A220
     replace H := Option.bind_eq_some_iff.mp H
     obtain ⟨⟨t388, t389⟩, A230, H⟩ := H
     replace H : ((laws_toTripS.f k l1).bind fun t393 => ((laws_toIntSS.f k l2).bind fun t396 => ((impl_GoodPaths.f k t388 t389 t393 t396).bind fun t399 => (if (t399 != t387) = true then (some false) else ((laws_toCells.f k a0_0 l0_1).bind fun bt400 => ((laws_eqCells.f k t388 t389 bt400.1 bt400.2).bind fun t404 => (if t404 = true then ((laws_toTripS.f k l1).bind fun t405 => ((laws_eqTripS.f k t393 t405).bind fun t408 => (if t408 = true then ((laws_toIntSS.f k l2).bind fun t409 => ((laws_eqIntSS.f k t396 t409).bind fun t412 => (if t412 = true then (some true) else (some false)))) else (some false)))) else (some false)))))))) = some r := H
     have A23 := Aside0.mk A230
     clear A230
     replace H := Option.bind_eq_some_iff.mp H
     obtain ⟨t393, A240, H⟩ := H
     replace H : ((laws_toIntSS.f k l2).bind fun t396 => ((impl_GoodPaths.f k t388 t389 t393 t396).bind fun t399 => (if (t399 != t387) = true then (some false) else ((laws_toCells.f k a0_0 l0_1).bind fun bt400 => ((laws_eqCells.f k t388 t389 bt400.1 bt400.2).bind fun t404 => (if t404 = true then ((laws_toTripS.f k l1).bind fun t405 => ((laws_eqTripS.f k t393 t405).bind fun t408 => (if t408 = true then ((laws_toIntSS.f k l2).bind fun t409 => ((laws_eqIntSS.f k t396 t409).bind fun t412 => (if t412 = true then (some true) else (some false)))) else (some false)))) else (some false))))))) = some r := H
     have A24 := Aside0.mk A240
     clear A240
     replace H := Option.bind_eq_some_iff.mp H
     obtain ⟨t396, A250, H⟩ := H
     replace H : ((impl_GoodPaths.f k t388 t389 t393 t396).bind fun t399 => (if (t399 != t387) = true then (some false) else ((laws_toCells.f k a0_0 l0_1).bind fun bt400 => ((laws_eqCells.f k t388 t389 bt400.1 bt400.2).bind fun t404 => (if t404 = true then ((laws_toTripS.f k l1).bind fun t405 => ((laws_eqTripS.f k t393 t405).bind fun t408 => (if t408 = true then ((laws_toIntSS.f k l2).bind fun t409 => ((laws_eqIntSS.f k t396 t409).bind fun t412 => (if t412 = true then (some true) else (some false)))) else (some false)))) else (some false)))))) = some r := H
     have A25 := Aside0.mk A250
     clear A250
     replace H := Option.bind_eq_some_iff.mp H
     obtain ⟨t399, A260, H⟩ := H
     replace H : (if (t399 != t387) = true then (some false) else ((laws_toCells.f k a0_0 l0_1).bind fun bt400 => ((laws_eqCells.f k t388 t389 bt400.1 bt400.2).bind fun t404 => (if t404 = true then ((laws_toTripS.f k l1).bind fun t405 => ((laws_eqTripS.f k t393 t405).bind fun t408 => (if t408 = true then ((laws_toIntSS.f k l2).bind fun t409 => ((laws_eqIntSS.f k t396 t409).bind fun t412 => (if t412 = true then (some true) else (some false)))) else (some false)))) else (some false))))) = some r := H
     have A26 := Aside0.mk A260
     clear A260
     by_cases c27 : (t399 != t387) = true
     ·rw [if_pos c27] at H
      have c27b0 : (t399 != t387) = true := c27
      (try (have c27b1 : decide (t399 = t387) = false := by simpa using c27))
      (try (have c27b2 : (t399 == t387) = false := by simpa using c27))
      (try (have c27b3 : ¬ (t399 = t387) := by simpa using c27))
      clear c27
      obtain rfl := Option.some.inj H
      go_enter Try.func8, Try.ntmps8
      go_wp2_with (first | ((with_reducible refine gate_dst (N := 3) rfl ?_); refine box_event ?hg (N := 3) ?hd (cs := #[.int .i64 a0_0, .slice A0_1 l0_1.length c0_1]) (t := 34) ?hr ?_; (case hd => rfl); (case hg => rfl); (case hr => first | (go_simp; done) | (go_simp; rfl)); intro gb373 hg w28 hbox hb; have n0_ := Aside0.mk (below_step hb_ hb); have n1_ := Aside0.mk (hbox); have n2_ : Aside0 (w.heap.size ≤ gb373) := gz_; have n3_ : Aside0 (w.heap.size ≤ gb373) := gz_; clear HB; have HB := n0_; have BK373 := n1_; have GW373 := n2_; have GE373 := n3_; clear n0_ n1_ n2_ n3_; clear hb hbox hg; have hcz29_0 : w28.cell? ⟨gb373, 0, none⟩ = some (.int .i64 a0_0) := (blk_cell BK373.out 0).trans rfl; have hcz29_1 : w28.cell? ⟨gb373, 1, none⟩ = some (.slice A0_1 l0_1.length c0_1) := (blk_cell BK373.out 1).trans rfl; have hfz29_0 := blk_frozen BK373.out 0; have hfz29_1 := blk_frozen BK373.out 1) | ((with_reducible refine gate_callee (f := 23) rfl ?_); refine goesL_ (some 15) rfl rfl Try.func23 (by kernel_rfl) rfl #[.agg #[.int .i64 a0_0, .slice A0_1 l0_1.length c0_1], .int .i64 1048576] rfl ls_ ?_; (with_reducible refine (laws_szCells.calls a0_0 _ _ l0_1 1048576 t374 _ ?side1 ?side2 A4.out).mono ?_); (case side1 => exact cb_ HR0_1.out); (case side2 => exact HC0_1.out); rintro e w30 ⟨rfl, hb⟩; refine ⟨_, rfl, ?_⟩; have n0_ := bb_ BK373 hb; have n1_ := Aside0.mk (below_step hb_ hb); clear BK373; clear HB; have BK373 := n0_; have HB := n1_; clear n0_ n1_; (try clear hb); (try clear hb2); (try clear hk); (try clear hi)) | ((with_reducible refine gate_callee (f := 24) rfl ?_); refine goesL_ (some 20) rfl rfl Try.func24 (by kernel_rfl) rfl #[.slice A1 l1.length c1, .int .i64 t374] rfl ls_ ?_; (with_reducible refine (laws_szTripS.calls _ _ l1 t374 t375 _ ?side1 ?side2 A9.out).mono ?_); (case side1 => exact cb_ HR1.out); (case side2 => exact HC1.out); rintro e w' ⟨rfl, ⟨nd, rfl⟩⟩; refine ⟨_, rfl, ?_⟩; (try (rw [drewN_self w30]; generalize hq_ : World.drewN w30 _ = w30; have n0_ : Aside0 (w30.heap[gb373]? = some (.cells #[.int .i64 a0_0, .slice A0_1 l0_1.length c0_1] 34 (0, 0))) := ⟨by rw [← hq_]; exact (bk_ BK373.out)⟩; have n1_ : Aside0 (Below w.heap.size w w30) := ⟨by rw [← hq_]; exact hb_⟩; clear BK373 HB hq_; have BK373 := n0_; have HB := n1_; clear n0_ n1_))) | ((with_reducible refine gate_callee (f := 18) rfl ?_); refine goesL_ (some 25) rfl rfl Try.func18 (by kernel_rfl) rfl #[.slice A2 l2.length c2, .int .i64 t375] rfl ls_ ?_; (with_reducible refine (laws_szIntSS.calls k _ _ l2 t375 t376 _ ?side1 ?side2 A14.out).mono ?_); (case side1 => exact cb_ HR2.out); (case side2 => exact HC2.out); rintro e w' ⟨rfl, ⟨nd, rfl⟩⟩; refine ⟨_, rfl, ?_⟩; (try (rw [drewN_self w30]; generalize hq_ : World.drewN w30 _ = w30; have n0_ : Aside0 (w30.heap[gb373]? = some (.cells #[.int .i64 a0_0, .slice A0_1 l0_1.length c0_1] 34 (0, 0))) := ⟨by rw [← hq_]; exact (bk_ BK373.out)⟩; have n1_ : Aside0 (Below w.heap.size w w30) := ⟨by rw [← hq_]; exact hb_⟩; clear BK373 HB hq_; have BK373 := n0_; have HB := n1_; clear n0_ n1_)); have hcz31_0 : w30.cell? ⟨gb373, 0, none⟩ = some (.int .i64 a0_0) := (blk_cell BK373.out 0).trans rfl; have hcz31_1 : w30.cell? ⟨gb373, 1, none⟩ = some (.slice A0_1 l0_1.length c0_1) := (blk_cell BK373.out 1).trans rfl; have hfz31_0 := blk_frozen BK373.out 0; have hfz31_1 := blk_frozen BK373.out 1) | ((with_reducible refine gate_callee (f := 26) rfl ?_); refine goesL_ (some 29) rfl rfl Try.func26 (by kernel_rfl) rfl #[.agg #[.int .i64 a0_0, .slice A0_1 l0_1.length c0_1]] rfl ls_ ?_; (with_reducible refine (laws_toCells.calls k a0_0 _ _ l0_1 t377 t378 _ ?side1 ?side2 A19.out).mono ?_); (case side1 => exact cb_ HR0_1.out); (case side2 => exact HC0_1.out); rintro e w32 ⟨v379, rfl, ho0, hb⟩; refine ⟨_, rfl, ?_⟩; have n0_ := Aside0.mk (Kd.R_lower ho0 (below_size hb_)); have n1_ := bb_ BK373 hb; have n2_ := Aside0.mk (below_step hb_ hb); clear BK373; clear HB; have HO380 := n0_; have BK373 := n1_; have HB := n2_; clear n0_ n1_ n2_; (try clear hb); (try clear hb2); (try clear hk); (try clear hi); (try clear ho0)) | ((with_reducible refine gate_callee (f := 27) rfl ?_); refine goesL_ (some 31) rfl rfl Try.func27 (by kernel_rfl) rfl #[.slice A1 l1.length c1] rfl ls_ ?_; (with_reducible refine (laws_toTripS.calls k _ _ l1 t381 _ ?side1 ?side2 A20.out).mono ?_); (case side1 => exact cb_ HR1.out); (case side2 => exact HC1.out); rintro e w33 ⟨v382, rfl, ho0, hb⟩; refine ⟨_, rfl, ?_⟩; have n0_ := Aside0.mk (Kd.R_below (ra_ HO380.out) hb); have n1_ := Aside0.mk (Kd.R_lower ho0 (below_size hb_)); have n2_ := bb_ BK373 hb; have n3_ := Aside0.mk (below_step hb_ hb); clear HO380; clear BK373; clear HB; have HO380 := n0_; have HO383 := n1_; have BK373 := n2_; have HB := n3_; clear n0_ n1_ n2_ n3_; (try clear hb); (try clear hb2); (try clear hk); (try clear hi); (try clear ho0)) | ((with_reducible refine gate_callee (f := 20) rfl ?_); refine goesL_ (some 33) rfl rfl Try.func20 (by kernel_rfl) rfl #[.slice A2 l2.length c2] rfl ls_ ?_; (with_reducible refine (laws_toIntSS.calls k _ _ l2 t384 _ ?side1 ?side2 A21.out).mono ?_); (case side1 => exact cb_ HR2.out); (case side2 => exact HC2.out); rintro e w34 ⟨v385, rfl, ho0, hb⟩; refine ⟨_, rfl, ?_⟩; have n0_ := Aside0.mk (Kd.R_below (ra_ HO380.out) hb); have n1_ := Aside0.mk (Kd.R_below (ra_ HO383.out) hb); have n2_ := Aside0.mk (Kd.S_lower (Kd.S_new' ho0 (Kd.R_lt (ra_ HO380.out))) (below_size hb_)); have n3_ := bb_ BK373 hb; have n4_ := Aside0.mk (below_step hb_ hb); clear HO380; clear HO383; clear BK373; clear HB; have HO380 := n0_; have HO383 := n1_; have HO386 := n2_; have BK373 := n3_; have HB := n4_; clear n0_ n1_ n2_ n3_ n4_; (try clear hb); (try clear hb2); (try clear hk); (try clear hi); (try clear ho0); obtain ⟨Ao35, co35, eo35⟩ := Kd.R_slice HO380.out; subst eo35; obtain ⟨Ao36, co36, eo36⟩ := Kd.R_slice HO383.out; subst eo36; obtain ⟨Ao37, co37, eo37⟩ := Kd.S_slice HO386.out; subst eo37) | ((with_reducible refine gate_callee (f := 36) rfl ?_); refine goesL_ (some 34) rfl rfl Try.func36 (by kernel_rfl) rfl #[.agg #[.int .i64 t377, .slice Ao35 t378.length co35], .slice Ao36 t381.length co36, .slice Ao37 t384.length co37] rfl ls_ ?_; (with_reducible refine (spec_GoodPaths.calls k t377 _ _ t378 _ _ t381 _ _ t384 t387 _ ?side1 ?side2 ?side3 ?side4 ?side5 ?side6 A22.out).mono ?_); (case side1 => exact ca_ (Kd.R_reads' HO380.out).2.2); (case side2 => exact (Kd.R_reads' HO380.out).2.1); (case side3 => exact ca_ (Kd.R_reads' HO383.out).2.2); (case side4 => exact (Kd.R_reads' HO383.out).2.1); (case side5 => exact ca_ (Kd.S_reads' HO386.out).2.2); (case side6 => exact (Kd.S_reads' HO386.out).2.1); rintro e w38 ⟨rfl, hb⟩; refine ⟨_, rfl, ?_⟩; have n0_ := Aside0.mk (Kd.R_below (ra_ HO380.out) hb); have n1_ := Aside0.mk (Kd.R_below (ra_ HO383.out) hb); have n2_ := Aside0.mk (Kd.S_below (sa_ HO386.out) hb); have n3_ := bb_ BK373 hb; have n4_ := Aside0.mk (below_step hb_ hb); clear HO380; clear HO383; clear HO386; clear BK373; clear HB; have HO380 := n0_; have HO383 := n1_; have HO386 := n2_; have BK373 := n3_; have HB := n4_; clear n0_ n1_ n2_ n3_ n4_; (try clear hb); (try clear hb2); (try clear hk); (try clear hi); have hcz39_0 : w38.cell? ⟨gb373, 0, none⟩ = some (.int .i64 a0_0) := (blk_cell BK373.out 0).trans rfl; have hcz39_1 : w38.cell? ⟨gb373, 1, none⟩ = some (.slice A0_1 l0_1.length c0_1) := (blk_cell BK373.out 1).trans rfl; have hfz39_0 := blk_frozen BK373.out 0; have hfz39_1 := blk_frozen BK373.out 1) | ((with_reducible refine gate_callee (f := 26) rfl ?_); refine goesL_ (some 36) rfl rfl Try.func26 (by kernel_rfl) rfl #[.agg #[.int .i64 a0_0, .slice A0_1 l0_1.length c0_1]] rfl ls_ ?_; (with_reducible refine (laws_toCells.calls k a0_0 _ _ l0_1 t388 t389 _ ?side1 ?side2 A23.out).mono ?_); (case side1 => exact cb_ HR0_1.out); (case side2 => exact HC0_1.out); rintro e w40 ⟨v390, rfl, ho0, hb⟩; refine ⟨_, rfl, ?_⟩; have n0_ := Aside0.mk (Kd.R_elder' (ra_ HO380.out) (Kd.R_base ho0) hb); have n1_ := Aside0.mk (Kd.R_below (ra_ HO383.out) hb); have n2_ := Aside0.mk (Kd.S_elder' (sa_ HO386.out) (Kd.R_base ho0) hb); have n3_ := Aside0.mk (Kd.R_lower (Kd.R_new' ho0 (Kd.R_lt (ra_ HO380.out))) (below_size hb_)); have n4_ := bb_ BK373 hb; have n5_ := Aside0.mk (below_step hb_ hb); clear HO380; clear HO383; clear HO386; clear BK373; clear HB; have HO380 := n0_; have HO383 := n1_; have HO386 := n2_; have HO391 := n3_; have BK373 := n4_; have HB := n5_; clear n0_ n1_ n2_ n3_ n4_ n5_; (try clear hb); (try clear hb2); (try clear hk); (try clear hi); (try clear ho0)) | ((with_reducible refine gate_dst (N := 9) rfl ?_); refine box_event ?hg (N := 9) ?hd (cs := #[.int .i64 0, .slice none 0 0]) (t := 39) ?hr ?_; (case hd => rfl); (case hg => rfl); (case hr => first | (go_simp; done) | (go_simp; rfl)); intro gb392 hg w41 hbox hb; have n0_ := Aside0.mk (Kd.R_below (ra_ HO380.out) hb); have n1_ := Aside0.mk (Kd.R_below (ra_ HO383.out) hb); have n2_ := Aside0.mk (Kd.S_below (sa_ HO386.out) hb); have n3_ := Aside0.mk (Kd.R_below (ra_ HO391.out) hb); have n4_ := bb_ BK373 hb; have n5_ := Aside0.mk (below_step hb_ hb); have n6_ := Aside0.mk (hbox); have n7_ : Aside0 (w.heap.size ≤ gb392) := gz_; have n8_ : Aside0 (w.heap.size ≤ gb392) := gz_; have n9_ := Aside0.mk ((by rw [hg]; exact Nat.ne_of_lt (blk_lt (g := gb373) (o := .cells #[.int .i64 a0_0, .slice A0_1 l0_1.length c0_1] 34 (0, 0)) (bk_ BK373.out)) : gb373 ≠ gb392)); have n10_ := Aside0.mk ((by rw [hg]; exact Nat.ne_of_gt (blk_lt (g := gb373) (o := .cells #[.int .i64 a0_0, .slice A0_1 l0_1.length c0_1] 34 (0, 0)) (bk_ BK373.out)) : gb392 ≠ gb373)); clear HO380; clear HO383; clear HO386; clear HO391; clear BK373; clear HB; have HO380 := n0_; have HO383 := n1_; have HO386 := n2_; have HO391 := n3_; have BK373 := n4_; have HB := n5_; have BK392 := n6_; have GW392 := n7_; have GE392 := n8_; have NB373_392 := n9_; have NB392_373 := n10_; clear n0_ n1_ n2_ n3_ n4_ n5_ n6_ n7_ n8_ n9_ n10_; clear hb hbox hg; have hnb42 := NB392_373.out; have hnc42 := NB373_392.out; have hcz43_0 : w41.cell? ⟨gb392, 0, none⟩ = some (.int .i64 0) := (blk_cell BK392.out 0).trans rfl; have hcz43_1 : w41.cell? ⟨gb392, 1, none⟩ = some (.slice none 0 0) := (blk_cell BK392.out 1).trans rfl; have hfz43_0 := blk_frozen BK392.out 0; have hfz43_1 := blk_frozen BK392.out 1; obtain ⟨Ao44, co44, eo44⟩ := Kd.R_slice HO391.out; subst eo44) | ((with_reducible refine gate_callee (f := 27) rfl ?_); refine goesL_ (some 38) rfl rfl Try.func27 (by kernel_rfl) rfl #[.slice A1 l1.length c1] rfl ls_ ?_; (with_reducible refine (laws_toTripS.calls k _ _ l1 t393 _ ?side1 ?side2 A24.out).mono ?_); (case side1 => exact Kd.C_below HR1.out hb_); (case side2 => exact HC1.out); rintro e w45 ⟨v394, rfl, ho0, hb⟩; refine ⟨_, rfl, ?_⟩; have n0_ := Aside0.mk (Kd.R_below (by (with_reducible repeat (first | apply Kd.R_alloc | apply Kd.R_drewN | apply Kd.R_drew)); exact (Kd.R_mono (Kd.R_far (p := ⟨gb392, 1, none⟩) (Kd.R_far (p := ⟨gb392, 0, none⟩) (Kd.R_types HO380.out BK392.out (by decide)) (fun _ hk => hk.2) (.int .i64 t388)) (fun _ hk => hk.2) (.slice Ao44 t389.length co44)) (fun _ h_ => h_.1))) hb); have n1_ := Aside0.mk (Kd.R_elder' (by (with_reducible repeat (first | apply Kd.R_alloc | apply Kd.R_drewN | apply Kd.R_drew)); exact (Kd.R_mono (Kd.R_far (p := ⟨gb392, 1, none⟩) (Kd.R_far (p := ⟨gb392, 0, none⟩) (Kd.R_types HO383.out BK392.out (by decide)) (fun _ hk => hk.2) (.int .i64 t388)) (fun _ hk => hk.2) (.slice Ao44 t389.length co44)) (fun _ h_ => h_.1))) (Kd.R_base ho0) hb); have n2_ := Aside0.mk (Kd.S_below (by (with_reducible repeat (first | apply Kd.S_alloc | apply Kd.S_drewN | apply Kd.S_drew)); exact (Kd.S_mono (Kd.S_far (p := ⟨gb392, 1, none⟩) (Kd.S_far (p := ⟨gb392, 0, none⟩) (Kd.S_types HO386.out BK392.out (by decide)) (fun _ hk => hk.2) (.int .i64 t388)) (fun _ hk => hk.2) (.slice Ao44 t389.length co44)) (fun _ h_ => h_.1))) hb); have n3_ := Aside0.mk (Kd.R_below (by (with_reducible repeat (first | apply Kd.R_alloc | apply Kd.R_drewN | apply Kd.R_drew)); exact (Kd.R_mono (Kd.R_far (p := ⟨gb392, 1, none⟩) (Kd.R_far (p := ⟨gb392, 0, none⟩) (Kd.R_types HO391.out BK392.out (by decide)) (fun _ hk => hk.2) (.int .i64 t388)) (fun _ hk => hk.2) (.slice Ao44 t389.length co44)) (fun _ h_ => h_.1))) hb); have n4_ := Aside0.mk (Kd.R_lower (Kd.R_new' ho0 (Kd.R_lt (by (with_reducible repeat (first | apply Kd.R_alloc | apply Kd.R_drewN | apply Kd.R_drew)); exact (Kd.R_mono (Kd.R_far (p := ⟨gb392, 1, none⟩) (Kd.R_far (p := ⟨gb392, 0, none⟩) (Kd.R_types HO383.out BK392.out (by decide)) (fun _ hk => hk.2) (.int .i64 t388)) (fun _ hk => hk.2) (.slice Ao44 t389.length co44)) (fun _ h_ => h_.1))))) (below_size hb_)); have n5_ := Aside0.mk (blk_below (g := gb373) (o := .cells #[.int .i64 a0_0, .slice A0_1 l0_1.length c0_1] 34 (0, 0)) (by (with_reducible repeat (first | refine blk_drewN ?_ _ | refine blk_drew ?_ | refine blk_alloc ?_ _)); refine blk_far ?_ NB373_392.out _; (with_reducible repeat (first | refine blk_drewN ?_ _ | refine blk_drew ?_ | refine blk_alloc ?_ _)); refine blk_far ?_ NB373_392.out _; (with_reducible repeat (first | refine blk_drewN ?_ _ | refine blk_drew ?_ | refine blk_alloc ?_ _)); exact BK373.out) hb); have n6_ := Aside0.mk (blk_below (g := gb392) (o := .cells #[.int .i64 t388, .slice Ao44 t389.length co44] 39 (0, 0)) (by (with_reducible repeat (first | refine blk_drewN ?_ _ | refine blk_drew ?_ | refine blk_alloc ?_ _)); refine blk_put (cs := #[.int .i64 t388, .slice none 0 0]) ?_ 1 _ rfl; (with_reducible repeat (first | refine blk_drewN ?_ _ | refine blk_drew ?_ | refine blk_alloc ?_ _)); refine blk_put (cs := #[.int .i64 0, .slice none 0 0]) ?_ 0 _ rfl; (with_reducible repeat (first | refine blk_drewN ?_ _ | refine blk_drew ?_ | refine blk_alloc ?_ _)); exact BK392.out) hb); have n7_ := Aside0.mk (below_step hb_ hb); clear HO380; clear HO383; clear HO386; clear HO391; clear BK373; clear BK392; clear HB; have HO380 := n0_; have HO383 := n1_; have HO386 := n2_; have HO391 := n3_; have HO395 := n4_; have BK373 := n5_; have BK392 := n6_; have HB := n7_; clear n0_ n1_ n2_ n3_ n4_ n5_ n6_ n7_; (try clear hb); (try clear hb2); (try clear hk); (try clear hi); (try clear ho0)) | ((with_reducible refine gate_callee (f := 20) rfl ?_); refine goesL_ (some 40) rfl rfl Try.func20 (by kernel_rfl) rfl #[.slice A2 l2.length c2] rfl ls_ ?_; (with_reducible refine (laws_toIntSS.calls k _ _ l2 t396 _ ?side1 ?side2 A25.out).mono ?_); (case side1 => exact cb_ HR2.out); (case side2 => exact HC2.out); rintro e w46 ⟨v397, rfl, ho0, hb⟩; refine ⟨_, rfl, ?_⟩; have n0_ := Aside0.mk (Kd.R_below (ra_ HO380.out) hb); have n1_ := Aside0.mk (Kd.R_below (ra_ HO383.out) hb); have n2_ := Aside0.mk (Kd.S_elder' (sa_ HO386.out) (Kd.S_base ho0) hb); have n3_ := Aside0.mk (Kd.R_below (ra_ HO391.out) hb); have n4_ := Aside0.mk (Kd.R_below (ra_ HO395.out) hb); have n5_ := Aside0.mk (Kd.S_lower (Kd.S_new' (Kd.S_new' (Kd.S_new' ho0 (Kd.R_lt (ra_ HO380.out))) (Kd.S_lt (sa_ HO386.out))) (Kd.R_lt (ra_ HO391.out))) (below_size hb_)); have n6_ := bb_ BK373 hb; have n7_ := bb_ BK392 hb; have n8_ := Aside0.mk (below_step hb_ hb); clear HO380; clear HO383; clear HO386; clear HO391; clear HO395; clear BK373; clear BK392; clear HB; have HO380 := n0_; have HO383 := n1_; have HO386 := n2_; have HO391 := n3_; have HO395 := n4_; have HO398 := n5_; have BK373 := n6_; have BK392 := n7_; have HB := n8_; clear n0_ n1_ n2_ n3_ n4_ n5_ n6_ n7_ n8_; (try clear hb); (try clear hb2); (try clear hk); (try clear hi); (try clear ho0); have hcz47_0 : w46.cell? ⟨gb392, 0, none⟩ = some (.int .i64 t388) := (blk_cell BK392.out 0).trans rfl; have hcz47_1 : w46.cell? ⟨gb392, 1, none⟩ = some (.slice Ao44 t389.length co44) := (blk_cell BK392.out 1).trans rfl; have hfz47_0 := blk_frozen BK392.out 0; have hfz47_1 := blk_frozen BK392.out 1; obtain ⟨Ao48, co48, eo48⟩ := Kd.R_slice HO395.out; subst eo48; obtain ⟨Ao49, co49, eo49⟩ := Kd.S_slice HO398.out; subst eo49) | ((with_reducible refine gate_callee (f := 37) rfl ?_); refine goesL_ (some 44) rfl rfl Try.func37 (by kernel_rfl) rfl #[.agg #[.int .i64 t388, .slice Ao44 t389.length co44], .slice Ao48 t393.length co48, .slice Ao49 t396.length co49] rfl ls_ ?_; (with_reducible refine (impl_GoodPaths.calls k t388 _ _ t389 _ _ t393 _ _ t396 t399 _ ?side1 ?side2 ?side3 ?side4 ?side5 ?side6 A26.out).mono ?_); (case side1 => exact ca_ (Kd.R_reads' HO391.out).2.2); (case side2 => exact (Kd.R_reads' HO391.out).2.1); (case side3 => exact ca_ (Kd.R_reads' HO395.out).2.2); (case side4 => exact (Kd.R_reads' HO395.out).2.1); (case side5 => exact ca_ (Kd.S_reads' HO398.out).2.2); (case side6 => exact (Kd.S_reads' HO398.out).2.1); rintro e w50 ⟨rfl, hb⟩; refine ⟨_, rfl, ?_⟩; have n0_ := Aside0.mk (Kd.R_below (ra_ HO380.out) hb); have n1_ := Aside0.mk (Kd.R_below (ra_ HO383.out) hb); have n2_ := Aside0.mk (Kd.S_below (sa_ HO386.out) hb); have n3_ := Aside0.mk (Kd.R_below (ra_ HO391.out) hb); have n4_ := Aside0.mk (Kd.R_below (ra_ HO395.out) hb); have n5_ := Aside0.mk (Kd.S_below (sa_ HO398.out) hb); have n6_ := bb_ BK373 hb; have n7_ := bb_ BK392 hb; have n8_ := Aside0.mk (below_step hb_ hb); clear HO380; clear HO383; clear HO386; clear HO391; clear HO395; clear HO398; clear BK373; clear BK392; clear HB; have HO380 := n0_; have HO383 := n1_; have HO386 := n2_; have HO391 := n3_; have HO395 := n4_; have HO398 := n5_; have BK373 := n6_; have BK392 := n7_; have HB := n8_; clear n0_ n1_ n2_ n3_ n4_ n5_ n6_ n7_ n8_; (try clear hb); (try clear hb2); (try clear hk); (try clear hi)))
      go_ret
      exact ⟨er_, hb_⟩
     ·rw [if_neg c27] at H
      have c27b0 : (t399 != t387) = false := by simpa using c27
      (try (have c27b1 : decide (t399 = t387) = true := by simpa using c27))
      (try (have c27b2 : (t399 == t387) = true := by simpa using c27))
      clear c27
      replace H := Option.bind_eq_some_iff.mp H
      obtain ⟨⟨t400, t401⟩, A510, H⟩ := H
      replace H : ((laws_eqCells.f k t388 t389 t400 t401).bind fun t404 => (if t404 = true then ((laws_toTripS.f k l1).bind fun t405 => ((laws_eqTripS.f k t393 t405).bind fun t408 => (if t408 = true then ((laws_toIntSS.f k l2).bind fun t409 => ((laws_eqIntSS.f k t396 t409).bind fun t412 => (if t412 = true then (some true) else (some false)))) else (some false)))) else (some false))) = some r := H
      have A51 := Aside0.mk A510
      clear A510
      replace H := Option.bind_eq_some_iff.mp H
      obtain ⟨t404, A520, H⟩ := H
      replace H : (if t404 = true then ((laws_toTripS.f k l1).bind fun t405 => ((laws_eqTripS.f k t393 t405).bind fun t408 => (if t408 = true then ((laws_toIntSS.f k l2).bind fun t409 => ((laws_eqIntSS.f k t396 t409).bind fun t412 => (if t412 = true then (some true) else (some false)))) else (some false)))) else (some false)) = some r := H
      have A52 := Aside0.mk A520
      clear A520
      by_cases c53 : t404 = true
      ·subst c53
       rw [if_pos rfl] at H
       replace H := Option.bind_eq_some_iff.mp H
       obtain ⟨t405, A540, H⟩ := H
       replace H : ((laws_eqTripS.f k t393 t405).bind fun t408 => (if t408 = true then ((laws_toIntSS.f k l2).bind fun t409 => ((laws_eqIntSS.f k t396 t409).bind fun t412 => (if t412 = true then (some true) else (some false)))) else (some false))) = some r := H
       have A54 := Aside0.mk A540
       clear A540
       replace H := Option.bind_eq_some_iff.mp H
       obtain ⟨t408, A550, H⟩ := H
       replace H : (if t408 = true then ((laws_toIntSS.f k l2).bind fun t409 => ((laws_eqIntSS.f k t396 t409).bind fun t412 => (if t412 = true then (some true) else (some false)))) else (some false)) = some r := H
       have A55 := Aside0.mk A550
       clear A550
       by_cases c56 : t408 = true
       ·subst c56
        rw [if_pos rfl] at H
        replace H := Option.bind_eq_some_iff.mp H
        obtain ⟨t409, A570, H⟩ := H
        replace H : ((laws_eqIntSS.f k t396 t409).bind fun t412 => (if t412 = true then (some true) else (some false))) = some r := H
        have A57 := Aside0.mk A570
        clear A570
        replace H := Option.bind_eq_some_iff.mp H
        obtain ⟨t412, A580, H⟩ := H
        replace H : (if t412 = true then (some true) else (some false)) = some r := H
        have A58 := Aside0.mk A580
        clear A580
        by_cases c59 : t412 = true
        ·subst c59
         rw [if_pos rfl] at H
         obtain rfl := Option.some.inj H
         go_enter Try.func8, Try.ntmps8
         try go_wp2_with (first | ((with_reducible refine gate_dst (N := 3) rfl ?_); refine box_event ?hg (N := 3) ?hd (cs := #[.int .i64 a0_0, .slice A0_1 l0_1.length c0_1]) (t := 34) ?hr ?_; (case hd => rfl); (case hg => rfl); (case hr => first | (go_simp; done) | (go_simp; rfl)); intro gb373 hg w60 hbox hb; have n0_ := Aside0.mk (below_step hb_ hb); have n1_ := Aside0.mk (hbox); have n2_ : Aside0 (w.heap.size ≤ gb373) := gz_; have n3_ : Aside0 (w.heap.size ≤ gb373) := gz_; clear HB; have HB := n0_; have BK373 := n1_; have GW373 := n2_; have GE373 := n3_; clear n0_ n1_ n2_ n3_; clear hb hbox hg; have hcz61_0 : w60.cell? ⟨gb373, 0, none⟩ = some (.int .i64 a0_0) := (blk_cell BK373.out 0).trans rfl; have hcz61_1 : w60.cell? ⟨gb373, 1, none⟩ = some (.slice A0_1 l0_1.length c0_1) := (blk_cell BK373.out 1).trans rfl; have hfz61_0 := blk_frozen BK373.out 0; have hfz61_1 := blk_frozen BK373.out 1) | ((with_reducible refine gate_callee (f := 23) rfl ?_); refine goesL_ (some 15) rfl rfl Try.func23 (by kernel_rfl) rfl #[.agg #[.int .i64 a0_0, .slice A0_1 l0_1.length c0_1], .int .i64 1048576] rfl ls_ ?_; (with_reducible refine (laws_szCells.calls a0_0 _ _ l0_1 1048576 t374 _ ?side1 ?side2 A4.out).mono ?_); (case side1 => exact cb_ HR0_1.out); (case side2 => exact HC0_1.out); rintro e w62 ⟨rfl, hb⟩; refine ⟨_, rfl, ?_⟩; have n0_ := bb_ BK373 hb; have n1_ := Aside0.mk (below_step hb_ hb); clear BK373; clear HB; have BK373 := n0_; have HB := n1_; clear n0_ n1_; (try clear hb); (try clear hb2); (try clear hk); (try clear hi)) | ((with_reducible refine gate_callee (f := 24) rfl ?_); refine goesL_ (some 20) rfl rfl Try.func24 (by kernel_rfl) rfl #[.slice A1 l1.length c1, .int .i64 t374] rfl ls_ ?_; (with_reducible refine (laws_szTripS.calls _ _ l1 t374 t375 _ ?side1 ?side2 A9.out).mono ?_); (case side1 => exact cb_ HR1.out); (case side2 => exact HC1.out); rintro e w' ⟨rfl, ⟨nd, rfl⟩⟩; refine ⟨_, rfl, ?_⟩; (try (rw [drewN_self w62]; generalize hq_ : World.drewN w62 _ = w62; have n0_ : Aside0 (w62.heap[gb373]? = some (.cells #[.int .i64 a0_0, .slice A0_1 l0_1.length c0_1] 34 (0, 0))) := ⟨by rw [← hq_]; exact (bk_ BK373.out)⟩; have n1_ : Aside0 (Below w.heap.size w w62) := ⟨by rw [← hq_]; exact hb_⟩; clear BK373 HB hq_; have BK373 := n0_; have HB := n1_; clear n0_ n1_))) | ((with_reducible refine gate_callee (f := 18) rfl ?_); refine goesL_ (some 25) rfl rfl Try.func18 (by kernel_rfl) rfl #[.slice A2 l2.length c2, .int .i64 t375] rfl ls_ ?_; (with_reducible refine (laws_szIntSS.calls k _ _ l2 t375 t376 _ ?side1 ?side2 A14.out).mono ?_); (case side1 => exact cb_ HR2.out); (case side2 => exact HC2.out); rintro e w' ⟨rfl, ⟨nd, rfl⟩⟩; refine ⟨_, rfl, ?_⟩; (try (rw [drewN_self w62]; generalize hq_ : World.drewN w62 _ = w62; have n0_ : Aside0 (w62.heap[gb373]? = some (.cells #[.int .i64 a0_0, .slice A0_1 l0_1.length c0_1] 34 (0, 0))) := ⟨by rw [← hq_]; exact (bk_ BK373.out)⟩; have n1_ : Aside0 (Below w.heap.size w w62) := ⟨by rw [← hq_]; exact hb_⟩; clear BK373 HB hq_; have BK373 := n0_; have HB := n1_; clear n0_ n1_)); have hcz63_0 : w62.cell? ⟨gb373, 0, none⟩ = some (.int .i64 a0_0) := (blk_cell BK373.out 0).trans rfl; have hcz63_1 : w62.cell? ⟨gb373, 1, none⟩ = some (.slice A0_1 l0_1.length c0_1) := (blk_cell BK373.out 1).trans rfl; have hfz63_0 := blk_frozen BK373.out 0; have hfz63_1 := blk_frozen BK373.out 1) | ((with_reducible refine gate_callee (f := 26) rfl ?_); refine goesL_ (some 29) rfl rfl Try.func26 (by kernel_rfl) rfl #[.agg #[.int .i64 a0_0, .slice A0_1 l0_1.length c0_1]] rfl ls_ ?_; (with_reducible refine (laws_toCells.calls k a0_0 _ _ l0_1 t377 t378 _ ?side1 ?side2 A19.out).mono ?_); (case side1 => exact cb_ HR0_1.out); (case side2 => exact HC0_1.out); rintro e w64 ⟨v379, rfl, ho0, hb⟩; refine ⟨_, rfl, ?_⟩; have n0_ := Aside0.mk (Kd.R_lower ho0 (below_size hb_)); have n1_ := bb_ BK373 hb; have n2_ := Aside0.mk (below_step hb_ hb); clear BK373; clear HB; have HO380 := n0_; have BK373 := n1_; have HB := n2_; clear n0_ n1_ n2_; (try clear hb); (try clear hb2); (try clear hk); (try clear hi); (try clear ho0)) | ((with_reducible refine gate_callee (f := 27) rfl ?_); refine goesL_ (some 31) rfl rfl Try.func27 (by kernel_rfl) rfl #[.slice A1 l1.length c1] rfl ls_ ?_; (with_reducible refine (laws_toTripS.calls k _ _ l1 t381 _ ?side1 ?side2 A20.out).mono ?_); (case side1 => exact cb_ HR1.out); (case side2 => exact HC1.out); rintro e w65 ⟨v382, rfl, ho0, hb⟩; refine ⟨_, rfl, ?_⟩; have n0_ := Aside0.mk (Kd.R_below (ra_ HO380.out) hb); have n1_ := Aside0.mk (Kd.R_lower ho0 (below_size hb_)); have n2_ := bb_ BK373 hb; have n3_ := Aside0.mk (below_step hb_ hb); clear HO380; clear BK373; clear HB; have HO380 := n0_; have HO383 := n1_; have BK373 := n2_; have HB := n3_; clear n0_ n1_ n2_ n3_; (try clear hb); (try clear hb2); (try clear hk); (try clear hi); (try clear ho0)) | ((with_reducible refine gate_callee (f := 20) rfl ?_); refine goesL_ (some 33) rfl rfl Try.func20 (by kernel_rfl) rfl #[.slice A2 l2.length c2] rfl ls_ ?_; (with_reducible refine (laws_toIntSS.calls k _ _ l2 t384 _ ?side1 ?side2 A21.out).mono ?_); (case side1 => exact cb_ HR2.out); (case side2 => exact HC2.out); rintro e w66 ⟨v385, rfl, ho0, hb⟩; refine ⟨_, rfl, ?_⟩; have n0_ := Aside0.mk (Kd.R_below (ra_ HO380.out) hb); have n1_ := Aside0.mk (Kd.R_below (ra_ HO383.out) hb); have n2_ := Aside0.mk (Kd.S_lower (Kd.S_new' ho0 (Kd.R_lt (ra_ HO380.out))) (below_size hb_)); have n3_ := bb_ BK373 hb; have n4_ := Aside0.mk (below_step hb_ hb); clear HO380; clear HO383; clear BK373; clear HB; have HO380 := n0_; have HO383 := n1_; have HO386 := n2_; have BK373 := n3_; have HB := n4_; clear n0_ n1_ n2_ n3_ n4_; (try clear hb); (try clear hb2); (try clear hk); (try clear hi); (try clear ho0); obtain ⟨Ao67, co67, eo67⟩ := Kd.R_slice HO380.out; subst eo67; obtain ⟨Ao68, co68, eo68⟩ := Kd.R_slice HO383.out; subst eo68; obtain ⟨Ao69, co69, eo69⟩ := Kd.S_slice HO386.out; subst eo69) | ((with_reducible refine gate_callee (f := 36) rfl ?_); refine goesL_ (some 34) rfl rfl Try.func36 (by kernel_rfl) rfl #[.agg #[.int .i64 t377, .slice Ao67 t378.length co67], .slice Ao68 t381.length co68, .slice Ao69 t384.length co69] rfl ls_ ?_; (with_reducible refine (spec_GoodPaths.calls k t377 _ _ t378 _ _ t381 _ _ t384 t387 _ ?side1 ?side2 ?side3 ?side4 ?side5 ?side6 A22.out).mono ?_); (case side1 => exact ca_ (Kd.R_reads' HO380.out).2.2); (case side2 => exact (Kd.R_reads' HO380.out).2.1); (case side3 => exact ca_ (Kd.R_reads' HO383.out).2.2); (case side4 => exact (Kd.R_reads' HO383.out).2.1); (case side5 => exact ca_ (Kd.S_reads' HO386.out).2.2); (case side6 => exact (Kd.S_reads' HO386.out).2.1); rintro e w70 ⟨rfl, hb⟩; refine ⟨_, rfl, ?_⟩; have n0_ := Aside0.mk (Kd.R_below (ra_ HO380.out) hb); have n1_ := Aside0.mk (Kd.R_below (ra_ HO383.out) hb); have n2_ := Aside0.mk (Kd.S_below (sa_ HO386.out) hb); have n3_ := bb_ BK373 hb; have n4_ := Aside0.mk (below_step hb_ hb); clear HO380; clear HO383; clear HO386; clear BK373; clear HB; have HO380 := n0_; have HO383 := n1_; have HO386 := n2_; have BK373 := n3_; have HB := n4_; clear n0_ n1_ n2_ n3_ n4_; (try clear hb); (try clear hb2); (try clear hk); (try clear hi); have hcz71_0 : w70.cell? ⟨gb373, 0, none⟩ = some (.int .i64 a0_0) := (blk_cell BK373.out 0).trans rfl; have hcz71_1 : w70.cell? ⟨gb373, 1, none⟩ = some (.slice A0_1 l0_1.length c0_1) := (blk_cell BK373.out 1).trans rfl; have hfz71_0 := blk_frozen BK373.out 0; have hfz71_1 := blk_frozen BK373.out 1) | ((with_reducible refine gate_callee (f := 26) rfl ?_); refine goesL_ (some 36) rfl rfl Try.func26 (by kernel_rfl) rfl #[.agg #[.int .i64 a0_0, .slice A0_1 l0_1.length c0_1]] rfl ls_ ?_; (with_reducible refine (laws_toCells.calls k a0_0 _ _ l0_1 t388 t389 _ ?side1 ?side2 A23.out).mono ?_); (case side1 => exact cb_ HR0_1.out); (case side2 => exact HC0_1.out); rintro e w72 ⟨v390, rfl, ho0, hb⟩; refine ⟨_, rfl, ?_⟩; have n0_ := Aside0.mk (Kd.R_elder' (ra_ HO380.out) (Kd.R_base ho0) hb); have n1_ := Aside0.mk (Kd.R_below (ra_ HO383.out) hb); have n2_ := Aside0.mk (Kd.S_elder' (sa_ HO386.out) (Kd.R_base ho0) hb); have n3_ := Aside0.mk (Kd.R_lower (Kd.R_new' ho0 (Kd.R_lt (ra_ HO380.out))) (below_size hb_)); have n4_ := bb_ BK373 hb; have n5_ := Aside0.mk (below_step hb_ hb); clear HO380; clear HO383; clear HO386; clear BK373; clear HB; have HO380 := n0_; have HO383 := n1_; have HO386 := n2_; have HO391 := n3_; have BK373 := n4_; have HB := n5_; clear n0_ n1_ n2_ n3_ n4_ n5_; (try clear hb); (try clear hb2); (try clear hk); (try clear hi); (try clear ho0)) | ((with_reducible refine gate_dst (N := 9) rfl ?_); refine box_event ?hg (N := 9) ?hd (cs := #[.int .i64 0, .slice none 0 0]) (t := 39) ?hr ?_; (case hd => rfl); (case hg => rfl); (case hr => first | (go_simp; done) | (go_simp; rfl)); intro gb392 hg w73 hbox hb; have n0_ := Aside0.mk (Kd.R_below (ra_ HO380.out) hb); have n1_ := Aside0.mk (Kd.R_below (ra_ HO383.out) hb); have n2_ := Aside0.mk (Kd.S_below (sa_ HO386.out) hb); have n3_ := Aside0.mk (Kd.R_below (ra_ HO391.out) hb); have n4_ := bb_ BK373 hb; have n5_ := Aside0.mk (below_step hb_ hb); have n6_ := Aside0.mk (hbox); have n7_ : Aside0 (w.heap.size ≤ gb392) := gz_; have n8_ : Aside0 (w.heap.size ≤ gb392) := gz_; have n9_ := Aside0.mk ((by rw [hg]; exact Nat.ne_of_lt (blk_lt (g := gb373) (o := .cells #[.int .i64 a0_0, .slice A0_1 l0_1.length c0_1] 34 (0, 0)) (bk_ BK373.out)) : gb373 ≠ gb392)); have n10_ := Aside0.mk ((by rw [hg]; exact Nat.ne_of_gt (blk_lt (g := gb373) (o := .cells #[.int .i64 a0_0, .slice A0_1 l0_1.length c0_1] 34 (0, 0)) (bk_ BK373.out)) : gb392 ≠ gb373)); clear HO380; clear HO383; clear HO386; clear HO391; clear BK373; clear HB; have HO380 := n0_; have HO383 := n1_; have HO386 := n2_; have HO391 := n3_; have BK373 := n4_; have HB := n5_; have BK392 := n6_; have GW392 := n7_; have GE392 := n8_; have NB373_392 := n9_; have NB392_373 := n10_; clear n0_ n1_ n2_ n3_ n4_ n5_ n6_ n7_ n8_ n9_ n10_; clear hb hbox hg; have hnb74 := NB392_373.out; have hnc74 := NB373_392.out; have hcz75_0 : w73.cell? ⟨gb392, 0, none⟩ = some (.int .i64 0) := (blk_cell BK392.out 0).trans rfl; have hcz75_1 : w73.cell? ⟨gb392, 1, none⟩ = some (.slice none 0 0) := (blk_cell BK392.out 1).trans rfl; have hfz75_0 := blk_frozen BK392.out 0; have hfz75_1 := blk_frozen BK392.out 1; obtain ⟨Ao76, co76, eo76⟩ := Kd.R_slice HO391.out; subst eo76) | ((with_reducible refine gate_callee (f := 27) rfl ?_); refine goesL_ (some 38) rfl rfl Try.func27 (by kernel_rfl) rfl #[.slice A1 l1.length c1] rfl ls_ ?_; (with_reducible refine (laws_toTripS.calls k _ _ l1 t393 _ ?side1 ?side2 A24.out).mono ?_); (case side1 => exact Kd.C_below HR1.out hb_); (case side2 => exact HC1.out); rintro e w77 ⟨v394, rfl, ho0, hb⟩; refine ⟨_, rfl, ?_⟩; have n0_ := Aside0.mk (Kd.R_below (by (with_reducible repeat (first | apply Kd.R_alloc | apply Kd.R_drewN | apply Kd.R_drew)); exact (Kd.R_mono (Kd.R_far (p := ⟨gb392, 1, none⟩) (Kd.R_far (p := ⟨gb392, 0, none⟩) (Kd.R_types HO380.out BK392.out (by decide)) (fun _ hk => hk.2) (.int .i64 t388)) (fun _ hk => hk.2) (.slice Ao76 t389.length co76)) (fun _ h_ => h_.1))) hb); have n1_ := Aside0.mk (Kd.R_elder' (by (with_reducible repeat (first | apply Kd.R_alloc | apply Kd.R_drewN | apply Kd.R_drew)); exact (Kd.R_mono (Kd.R_far (p := ⟨gb392, 1, none⟩) (Kd.R_far (p := ⟨gb392, 0, none⟩) (Kd.R_types HO383.out BK392.out (by decide)) (fun _ hk => hk.2) (.int .i64 t388)) (fun _ hk => hk.2) (.slice Ao76 t389.length co76)) (fun _ h_ => h_.1))) (Kd.R_base ho0) hb); have n2_ := Aside0.mk (Kd.S_below (by (with_reducible repeat (first | apply Kd.S_alloc | apply Kd.S_drewN | apply Kd.S_drew)); exact (Kd.S_mono (Kd.S_far (p := ⟨gb392, 1, none⟩) (Kd.S_far (p := ⟨gb392, 0, none⟩) (Kd.S_types HO386.out BK392.out (by decide)) (fun _ hk => hk.2) (.int .i64 t388)) (fun _ hk => hk.2) (.slice Ao76 t389.length co76)) (fun _ h_ => h_.1))) hb); have n3_ := Aside0.mk (Kd.R_below (by (with_reducible repeat (first | apply Kd.R_alloc | apply Kd.R_drewN | apply Kd.R_drew)); exact (Kd.R_mono (Kd.R_far (p := ⟨gb392, 1, none⟩) (Kd.R_far (p := ⟨gb392, 0, none⟩) (Kd.R_types HO391.out BK392.out (by decide)) (fun _ hk => hk.2) (.int .i64 t388)) (fun _ hk => hk.2) (.slice Ao76 t389.length co76)) (fun _ h_ => h_.1))) hb); have n4_ := Aside0.mk (Kd.R_lower (Kd.R_new' ho0 (Kd.R_lt (by (with_reducible repeat (first | apply Kd.R_alloc | apply Kd.R_drewN | apply Kd.R_drew)); exact (Kd.R_mono (Kd.R_far (p := ⟨gb392, 1, none⟩) (Kd.R_far (p := ⟨gb392, 0, none⟩) (Kd.R_types HO383.out BK392.out (by decide)) (fun _ hk => hk.2) (.int .i64 t388)) (fun _ hk => hk.2) (.slice Ao76 t389.length co76)) (fun _ h_ => h_.1))))) (below_size hb_)); have n5_ := Aside0.mk (blk_below (g := gb373) (o := .cells #[.int .i64 a0_0, .slice A0_1 l0_1.length c0_1] 34 (0, 0)) (by (with_reducible repeat (first | refine blk_drewN ?_ _ | refine blk_drew ?_ | refine blk_alloc ?_ _)); refine blk_far ?_ NB373_392.out _; (with_reducible repeat (first | refine blk_drewN ?_ _ | refine blk_drew ?_ | refine blk_alloc ?_ _)); refine blk_far ?_ NB373_392.out _; (with_reducible repeat (first | refine blk_drewN ?_ _ | refine blk_drew ?_ | refine blk_alloc ?_ _)); exact BK373.out) hb); have n6_ := Aside0.mk (blk_below (g := gb392) (o := .cells #[.int .i64 t388, .slice Ao76 t389.length co76] 39 (0, 0)) (by (with_reducible repeat (first | refine blk_drewN ?_ _ | refine blk_drew ?_ | refine blk_alloc ?_ _)); refine blk_put (cs := #[.int .i64 t388, .slice none 0 0]) ?_ 1 _ rfl; (with_reducible repeat (first | refine blk_drewN ?_ _ | refine blk_drew ?_ | refine blk_alloc ?_ _)); refine blk_put (cs := #[.int .i64 0, .slice none 0 0]) ?_ 0 _ rfl; (with_reducible repeat (first | refine blk_drewN ?_ _ | refine blk_drew ?_ | refine blk_alloc ?_ _)); exact BK392.out) hb); have n7_ := Aside0.mk (below_step hb_ hb); clear HO380; clear HO383; clear HO386; clear HO391; clear BK373; clear BK392; clear HB; have HO380 := n0_; have HO383 := n1_; have HO386 := n2_; have HO391 := n3_; have HO395 := n4_; have BK373 := n5_; have BK392 := n6_; have HB := n7_; clear n0_ n1_ n2_ n3_ n4_ n5_ n6_ n7_; (try clear hb); (try clear hb2); (try clear hk); (try clear hi); (try clear ho0)) | ((with_reducible refine gate_callee (f := 20) rfl ?_); refine goesL_ (some 40) rfl rfl Try.func20 (by kernel_rfl) rfl #[.slice A2 l2.length c2] rfl ls_ ?_; (with_reducible refine (laws_toIntSS.calls k _ _ l2 t396 _ ?side1 ?side2 A25.out).mono ?_); (case side1 => exact cb_ HR2.out); (case side2 => exact HC2.out); rintro e w78 ⟨v397, rfl, ho0, hb⟩; refine ⟨_, rfl, ?_⟩; have n0_ := Aside0.mk (Kd.R_below (ra_ HO380.out) hb); have n1_ := Aside0.mk (Kd.R_below (ra_ HO383.out) hb); have n2_ := Aside0.mk (Kd.S_elder' (sa_ HO386.out) (Kd.S_base ho0) hb); have n3_ := Aside0.mk (Kd.R_below (ra_ HO391.out) hb); have n4_ := Aside0.mk (Kd.R_below (ra_ HO395.out) hb); have n5_ := Aside0.mk (Kd.S_lower (Kd.S_new' (Kd.S_new' (Kd.S_new' ho0 (Kd.R_lt (ra_ HO380.out))) (Kd.S_lt (sa_ HO386.out))) (Kd.R_lt (ra_ HO391.out))) (below_size hb_)); have n6_ := bb_ BK373 hb; have n7_ := bb_ BK392 hb; have n8_ := Aside0.mk (below_step hb_ hb); clear HO380; clear HO383; clear HO386; clear HO391; clear HO395; clear BK373; clear BK392; clear HB; have HO380 := n0_; have HO383 := n1_; have HO386 := n2_; have HO391 := n3_; have HO395 := n4_; have HO398 := n5_; have BK373 := n6_; have BK392 := n7_; have HB := n8_; clear n0_ n1_ n2_ n3_ n4_ n5_ n6_ n7_ n8_; (try clear hb); (try clear hb2); (try clear hk); (try clear hi); (try clear ho0); have hcz79_0 : w78.cell? ⟨gb392, 0, none⟩ = some (.int .i64 t388) := (blk_cell BK392.out 0).trans rfl; have hcz79_1 : w78.cell? ⟨gb392, 1, none⟩ = some (.slice Ao76 t389.length co76) := (blk_cell BK392.out 1).trans rfl; have hfz79_0 := blk_frozen BK392.out 0; have hfz79_1 := blk_frozen BK392.out 1; obtain ⟨Ao80, co80, eo80⟩ := Kd.R_slice HO395.out; subst eo80; obtain ⟨Ao81, co81, eo81⟩ := Kd.S_slice HO398.out; subst eo81) | ((with_reducible refine gate_callee (f := 37) rfl ?_); refine goesL_ (some 44) rfl rfl Try.func37 (by kernel_rfl) rfl #[.agg #[.int .i64 t388, .slice Ao76 t389.length co76], .slice Ao80 t393.length co80, .slice Ao81 t396.length co81] rfl ls_ ?_; (with_reducible refine (impl_GoodPaths.calls k t388 _ _ t389 _ _ t393 _ _ t396 t399 _ ?side1 ?side2 ?side3 ?side4 ?side5 ?side6 A26.out).mono ?_); (case side1 => exact ca_ (Kd.R_reads' HO391.out).2.2); (case side2 => exact (Kd.R_reads' HO391.out).2.1); (case side3 => exact ca_ (Kd.R_reads' HO395.out).2.2); (case side4 => exact (Kd.R_reads' HO395.out).2.1); (case side5 => exact ca_ (Kd.S_reads' HO398.out).2.2); (case side6 => exact (Kd.S_reads' HO398.out).2.1); rintro e w82 ⟨rfl, hb⟩; refine ⟨_, rfl, ?_⟩; have n0_ := Aside0.mk (Kd.R_below (ra_ HO380.out) hb); have n1_ := Aside0.mk (Kd.R_below (ra_ HO383.out) hb); have n2_ := Aside0.mk (Kd.S_below (sa_ HO386.out) hb); have n3_ := Aside0.mk (Kd.R_below (ra_ HO391.out) hb); have n4_ := Aside0.mk (Kd.R_below (ra_ HO395.out) hb); have n5_ := Aside0.mk (Kd.S_below (sa_ HO398.out) hb); have n6_ := bb_ BK373 hb; have n7_ := bb_ BK392 hb; have n8_ := Aside0.mk (below_step hb_ hb); clear HO380; clear HO383; clear HO386; clear HO391; clear HO395; clear HO398; clear BK373; clear BK392; clear HB; have HO380 := n0_; have HO383 := n1_; have HO386 := n2_; have HO391 := n3_; have HO395 := n4_; have HO398 := n5_; have BK373 := n6_; have BK392 := n7_; have HB := n8_; clear n0_ n1_ n2_ n3_ n4_ n5_ n6_ n7_ n8_; (try clear hb); (try clear hb2); (try clear hk); (try clear hi)))
         have n0_ := Aside0.mk (Kd.R_drew HO380.out)
         have n1_ := Aside0.mk (Kd.R_drew HO383.out)
         have n2_ := Aside0.mk (Kd.S_drew HO386.out)
         have n3_ := Aside0.mk (Kd.R_drew HO391.out)
         have n4_ := Aside0.mk (Kd.R_drew HO395.out)
         have n5_ := Aside0.mk (Kd.S_drew HO398.out)
         have n6_ := Aside0.mk (blk_drew BK373.out)
         have n7_ := Aside0.mk (blk_drew BK392.out)
         have n8_ := Aside0.mk (below_drew1 HB.out)
         clear HO380
         clear HO383
         clear HO386
         clear HO391
         clear HO395
         clear HO398
         clear BK373
         clear BK392
         clear HB
         have HO380 := n0_
         have HO383 := n1_
         have HO386 := n2_
         have HO391 := n3_
         have HO395 := n4_
         have HO398 := n5_
         have BK373 := n6_
         have BK392 := n7_
         have HB := n8_
         clear n0_ n1_ n2_ n3_ n4_ n5_ n6_ n7_ n8_
         refine start_ (n := 5) (S := fun w' => w'.cell? ⟨gb392, 0, none⟩ = some (.int .i64 t388) ∧ w'.cell? ⟨gb392, 1, none⟩ = some (.slice Ao76 t389.length co76) ∧ w'.cell? ⟨gb373, 0, none⟩ = some (.int .i64 a0_0) ∧ w'.cell? ⟨gb373, 1, none⟩ = some (.slice A0_1 l0_1.length c0_1)) (ds := []) #[false, false, false, false, false] (by kernel_rfl) rfl rfl ⟨(blk_cell BK392.out 0).trans rfl, (blk_cell BK392.out 1).trans rfl, (blk_cell BK373.out 0).trans rfl, (blk_cell BK373.out 1).trans rfl⟩ (fun hHeld => ?_)
         generalize w82.drew = w83 at HO380 HO383 HO386 HO391 HO395 HO398 BK373 BK392 HB hHeld ⊢
         refine take_ (i := 0) (N := some 48) (v := ?_) (a' := ?_) #[true, false, false, false, false] rfl rfl (by kernel_rfl) (fun _ _ _ h => h) (Or.inl ⟨by rfl, ?_⟩) hHeld ?_ ?_
         rotate_left
         ·rintro w' ⟨s0, s1, s2, s3⟩
          go_simp
          with_reducible rfl
         rotate_left
         ·simp only [Act.put, List.setIfInBounds_toArray, List.set_cons_zero, List.set_cons_succ, i64_w, i32_w]
          rfl
         refine take_ (i := 1) (N := some 49) (v := ?_) (a' := ?_) #[true, true, false, false, false] rfl rfl (by kernel_rfl) (fun _ _ _ h => h) (Or.inl ⟨by rfl, ?_⟩) hHeld ?_ ?_
         rotate_left
         ·rintro w' ⟨s0, s1, s2, s3⟩
          go_simp
          with_reducible rfl
         rotate_left
         ·simp only [Act.put, List.setIfInBounds_toArray, List.set_cons_zero, List.set_cons_succ, i64_w, i32_w]
          rfl
         refine one_ (i := 2) (N := some 50) #[true, true, true, false, false] rfl rfl (by kernel_rfl) (by decide) (fun K hK => ?_)
         refine goes_ Try.func26 (by kernel_rfl) rfl #[.agg #[.int .i64 a0_0, .slice A0_1 l0_1.length c0_1]] (by rfl) rfl rfl ls_ ?_
         with_reducible refine (laws_toCells.calls k a0_0 _ _ l0_1 t400 t401 _ ?side1 ?side2 A51.out).mono ?_
         (case side1 => exact cb_ HR0_1.out)
         (case side2 => exact HC0_1.out)
         rintro e w84 ⟨v402, rfl, ho0, hb⟩
         refine ⟨_, rfl, ?_⟩
         have n0_ := Aside0.mk (Kd.R_elder' (ra_ HO380.out) (Kd.R_base ho0) hb)
         have n1_ := Aside0.mk (Kd.R_below (ra_ HO383.out) hb)
         have n2_ := Aside0.mk (Kd.S_elder' (sa_ HO386.out) (Kd.R_base ho0) hb)
         have n3_ := Aside0.mk (Kd.R_elder' (ra_ HO391.out) (Kd.R_base ho0) hb)
         have n4_ := Aside0.mk (Kd.R_below (ra_ HO395.out) hb)
         have n5_ := Aside0.mk (Kd.S_elder' (sa_ HO398.out) (Kd.R_base ho0) hb)
         have n6_ := Aside0.mk (Kd.R_lower (Kd.R_new' (Kd.R_new' ho0 (Kd.R_lt (ra_ HO380.out))) (Kd.R_lt (ra_ HO391.out))) (below_size hb_))
         have n7_ := bb_ BK373 hb
         have n8_ := bb_ BK392 hb
         have n9_ := Aside0.mk (below_step hb_ hb)
         clear HO380
         clear HO383
         clear HO386
         clear HO391
         clear HO395
         clear HO398
         clear BK373
         clear BK392
         clear HB
         have HO380 := n0_
         have HO383 := n1_
         have HO386 := n2_
         have HO391 := n3_
         have HO395 := n4_
         have HO398 := n5_
         have HO403 := n6_
         have BK373 := n7_
         have BK392 := n8_
         have HB := n9_
         clear n0_ n1_ n2_ n3_ n4_ n5_ n6_ n7_ n8_ n9_
         (try clear hb)
         (try clear hb2)
         (try clear hk)
         (try clear hi)
         (try clear ho0)
         obtain ⟨Ao85, co85, eo85⟩ := Kd.R_slice HO403.out
         (first | subst eo85 | (injection eo85 with f1_ f2_ f3_; have f4_ := f1_.symm; have f5_ := f3_.symm; clear f1_ f2_ f3_; subst f4_; subst f5_))
         refine hK.out _ _ ⟨(blk_cell BK392.out 0).trans rfl, (blk_cell BK392.out 1).trans rfl, (blk_cell BK373.out 0).trans rfl, (blk_cell BK373.out 1).trans rfl⟩ (fun hHeld => ?_)
         clear hK K
         refine norm_ (a' := ?_) ?_ ?_
         rotate_left
         ·show Act.put _ (some 50) _ = _
          simp only [Act.put, List.setIfInBounds_toArray, List.set_cons_zero, List.set_cons_succ, i64_w, i32_w]
          rfl
         refine one_ (i := 3) (N := some 51) #[true, true, true, true, false] rfl rfl (by kernel_rfl) (by decide) (fun K hK => ?_)
         refine goes_ Try.func29 (by kernel_rfl) rfl #[.agg #[.int .i64 t388, .slice Ao76 t389.length co76], .agg #[.int .i64 t400, .slice Ao85 t401.length co85]] (by rfl) rfl rfl ls_ ?_
         with_reducible refine (laws_eqCells.calls k t388 _ _ t389 t400 _ _ t401 true _ ?side1 ?side2 ?side3 ?side4 A52.out).mono ?_
         (case side1 => exact ca_ (Kd.R_reads' HO391.out).2.2)
         (case side2 => exact (Kd.R_reads' HO391.out).2.1)
         (case side3 => exact ca_ (Kd.R_reads' HO403.out).2.2)
         (case side4 => exact (Kd.R_reads' HO403.out).2.1)
         rintro e w86 ⟨rfl, hb⟩
         refine ⟨_, rfl, ?_⟩
         have n0_ := Aside0.mk (Kd.R_below (ra_ HO380.out) hb)
         have n1_ := Aside0.mk (Kd.R_below (ra_ HO383.out) hb)
         have n2_ := Aside0.mk (Kd.S_below (sa_ HO386.out) hb)
         have n3_ := Aside0.mk (Kd.R_below (ra_ HO391.out) hb)
         have n4_ := Aside0.mk (Kd.R_below (ra_ HO395.out) hb)
         have n5_ := Aside0.mk (Kd.S_below (sa_ HO398.out) hb)
         have n6_ := Aside0.mk (Kd.R_below (ra_ HO403.out) hb)
         have n7_ := bb_ BK373 hb
         have n8_ := bb_ BK392 hb
         have n9_ := Aside0.mk (below_step hb_ hb)
         clear HO380
         clear HO383
         clear HO386
         clear HO391
         clear HO395
         clear HO398
         clear HO403
         clear BK373
         clear BK392
         clear HB
         have HO380 := n0_
         have HO383 := n1_
         have HO386 := n2_
         have HO391 := n3_
         have HO395 := n4_
         have HO398 := n5_
         have HO403 := n6_
         have BK373 := n7_
         have BK392 := n8_
         have HB := n9_
         clear n0_ n1_ n2_ n3_ n4_ n5_ n6_ n7_ n8_ n9_
         (try clear hb)
         (try clear hb2)
         (try clear hk)
         (try clear hi)
         refine hK.out _ _ ⟨(blk_cell BK392.out 0).trans rfl, (blk_cell BK392.out 1).trans rfl, (blk_cell BK373.out 0).trans rfl, (blk_cell BK373.out 1).trans rfl⟩ (fun hHeld => ?_)
         clear hK K
         refine norm_ (a' := ?_) ?_ ?_
         rotate_left
         ·show Act.put _ (some 51) _ = _
          simp only [Act.put, List.setIfInBounds_toArray, List.set_cons_zero, List.set_cons_succ, i64_w, i32_w]
          rfl
         refine pure_ (i := 4) (N := some 52) (v := ?_) (a' := ?_) #[true, true, true, true, true] rfl rfl (by kernel_rfl) (fun _ _ _ h => h) (Or.inl ⟨by rfl, ?_⟩) ?_ ?_
         rotate_left
         ·intro w'
          go_simp
          with_reducible rfl
         rotate_left
         ·simp only [Act.put, List.setIfInBounds_toArray, List.set_cons_zero, List.set_cons_succ, i64_w, i32_w]
          rfl
         refine done_ (by kernel_rfl) ?_
         try go_wp2_with (first | ((with_reducible refine gate_callee (f := 27) rfl ?_); refine goesL_ (some 55) rfl rfl Try.func27 (by kernel_rfl) rfl #[.slice A1 l1.length c1] rfl ls_ ?_; (with_reducible refine (laws_toTripS.calls k _ _ l1 t405 _ ?side1 ?side2 A54.out).mono ?_); (case side1 => exact cb_ HR1.out); (case side2 => exact HC1.out); rintro e w87 ⟨v406, rfl, ho0, hb⟩; refine ⟨_, rfl, ?_⟩; have n0_ := Aside0.mk (Kd.R_below (ra_ HO380.out) hb); have n1_ := Aside0.mk (Kd.R_elder' (ra_ HO383.out) (Kd.R_base ho0) hb); have n2_ := Aside0.mk (Kd.S_below (sa_ HO386.out) hb); have n3_ := Aside0.mk (Kd.R_below (ra_ HO391.out) hb); have n4_ := Aside0.mk (Kd.R_elder' (ra_ HO395.out) (Kd.R_base ho0) hb); have n5_ := Aside0.mk (Kd.S_below (sa_ HO398.out) hb); have n6_ := Aside0.mk (Kd.R_below (ra_ HO403.out) hb); have n7_ := Aside0.mk (Kd.R_lower (Kd.R_new' (Kd.R_new' ho0 (Kd.R_lt (ra_ HO383.out))) (Kd.R_lt (ra_ HO395.out))) (below_size hb_)); have n8_ := bb_ BK373 hb; have n9_ := bb_ BK392 hb; have n10_ := Aside0.mk (below_step hb_ hb); clear HO380; clear HO383; clear HO386; clear HO391; clear HO395; clear HO398; clear HO403; clear BK373; clear BK392; clear HB; have HO380 := n0_; have HO383 := n1_; have HO386 := n2_; have HO391 := n3_; have HO395 := n4_; have HO398 := n5_; have HO403 := n6_; have HO407 := n7_; have BK373 := n8_; have BK392 := n9_; have HB := n10_; clear n0_ n1_ n2_ n3_ n4_ n5_ n6_ n7_ n8_ n9_ n10_; (try clear hb); (try clear hb2); (try clear hk); (try clear hi); (try clear ho0); obtain ⟨Ao88, co88, eo88⟩ := Kd.R_slice HO407.out; subst eo88) | ((with_reducible refine gate_callee (f := 30) rfl ?_); refine goesL_ (some 56) rfl rfl Try.func30 (by kernel_rfl) rfl #[.slice Ao80 t393.length co80, .slice Ao88 t405.length co88] rfl ls_ ?_; (with_reducible refine (laws_eqTripS.calls k _ _ t393 _ _ t405 true _ ?side1 ?side2 ?side3 ?side4 A55.out).mono ?_); (case side1 => exact ca_ (Kd.R_reads' HO395.out).2.2); (case side2 => exact (Kd.R_reads' HO395.out).2.1); (case side3 => exact ca_ (Kd.R_reads' HO407.out).2.2); (case side4 => exact (Kd.R_reads' HO407.out).2.1); rintro e w89 ⟨rfl, hb⟩; refine ⟨_, rfl, ?_⟩; have n0_ := Aside0.mk (Kd.R_below (ra_ HO380.out) hb); have n1_ := Aside0.mk (Kd.R_below (ra_ HO383.out) hb); have n2_ := Aside0.mk (Kd.S_below (sa_ HO386.out) hb); have n3_ := Aside0.mk (Kd.R_below (ra_ HO391.out) hb); have n4_ := Aside0.mk (Kd.R_below (ra_ HO395.out) hb); have n5_ := Aside0.mk (Kd.S_below (sa_ HO398.out) hb); have n6_ := Aside0.mk (Kd.R_below (ra_ HO403.out) hb); have n7_ := Aside0.mk (Kd.R_below (ra_ HO407.out) hb); have n8_ := bb_ BK373 hb; have n9_ := bb_ BK392 hb; have n10_ := Aside0.mk (below_step hb_ hb); clear HO380; clear HO383; clear HO386; clear HO391; clear HO395; clear HO398; clear HO403; clear HO407; clear BK373; clear BK392; clear HB; have HO380 := n0_; have HO383 := n1_; have HO386 := n2_; have HO391 := n3_; have HO395 := n4_; have HO398 := n5_; have HO403 := n6_; have HO407 := n7_; have BK373 := n8_; have BK392 := n9_; have HB := n10_; clear n0_ n1_ n2_ n3_ n4_ n5_ n6_ n7_ n8_ n9_ n10_; (try clear hb); (try clear hb2); (try clear hk); (try clear hi)) | ((with_reducible refine gate_callee (f := 20) rfl ?_); refine goesL_ (some 60) rfl rfl Try.func20 (by kernel_rfl) rfl #[.slice A2 l2.length c2] rfl ls_ ?_; (with_reducible refine (laws_toIntSS.calls k _ _ l2 t409 _ ?side1 ?side2 A57.out).mono ?_); (case side1 => exact cb_ HR2.out); (case side2 => exact HC2.out); rintro e w90 ⟨v410, rfl, ho0, hb⟩; refine ⟨_, rfl, ?_⟩; have n0_ := Aside0.mk (Kd.R_below (ra_ HO380.out) hb); have n1_ := Aside0.mk (Kd.R_below (ra_ HO383.out) hb); have n2_ := Aside0.mk (Kd.S_elder' (sa_ HO386.out) (Kd.S_base ho0) hb); have n3_ := Aside0.mk (Kd.R_below (ra_ HO391.out) hb); have n4_ := Aside0.mk (Kd.R_below (ra_ HO395.out) hb); have n5_ := Aside0.mk (Kd.S_elder' (sa_ HO398.out) (Kd.S_base ho0) hb); have n6_ := Aside0.mk (Kd.R_below (ra_ HO403.out) hb); have n7_ := Aside0.mk (Kd.R_below (ra_ HO407.out) hb); have n8_ := Aside0.mk (Kd.S_lower (Kd.S_new' (Kd.S_new' (Kd.S_new' (Kd.S_new' (Kd.S_new' ho0 (Kd.R_lt (ra_ HO380.out))) (Kd.S_lt (sa_ HO386.out))) (Kd.R_lt (ra_ HO391.out))) (Kd.S_lt (sa_ HO398.out))) (Kd.R_lt (ra_ HO403.out))) (below_size hb_)); have n9_ := bb_ BK373 hb; have n10_ := bb_ BK392 hb; have n11_ := Aside0.mk (below_step hb_ hb); clear HO380; clear HO383; clear HO386; clear HO391; clear HO395; clear HO398; clear HO403; clear HO407; clear BK373; clear BK392; clear HB; have HO380 := n0_; have HO383 := n1_; have HO386 := n2_; have HO391 := n3_; have HO395 := n4_; have HO398 := n5_; have HO403 := n6_; have HO407 := n7_; have HO411 := n8_; have BK373 := n9_; have BK392 := n10_; have HB := n11_; clear n0_ n1_ n2_ n3_ n4_ n5_ n6_ n7_ n8_ n9_ n10_ n11_; (try clear hb); (try clear hb2); (try clear hk); (try clear hi); (try clear ho0); obtain ⟨Ao91, co91, eo91⟩ := Kd.S_slice HO411.out; subst eo91) | ((with_reducible refine gate_callee (f := 22) rfl ?_); refine goesL_ (some 61) rfl rfl Try.func22 (by kernel_rfl) rfl #[.slice Ao81 t396.length co81, .slice Ao91 t409.length co91] rfl ls_ ?_; (with_reducible refine (laws_eqIntSS.calls k _ _ t396 _ _ t409 true _ ?side1 ?side2 ?side3 ?side4 A58.out).mono ?_); (case side1 => exact ca_ (Kd.S_reads' HO398.out).2.2); (case side2 => exact (Kd.S_reads' HO398.out).2.1); (case side3 => exact ca_ (Kd.S_reads' HO411.out).2.2); (case side4 => exact (Kd.S_reads' HO411.out).2.1); rintro e w' ⟨rfl, ⟨nd, rfl⟩⟩; refine ⟨_, rfl, ?_⟩))
         go_ret
         exact ⟨er_, hb_⟩
        ·replace c59 := Bool.eq_false_iff.mpr c59
         subst c59
         rw [if_neg (show ¬ (false = true) by decide)] at H
         obtain rfl := Option.some.inj H
         go_enter Try.func8, Try.ntmps8
         try go_wp2_with (first | ((with_reducible refine gate_dst (N := 3) rfl ?_); refine box_event ?hg (N := 3) ?hd (cs := #[.int .i64 a0_0, .slice A0_1 l0_1.length c0_1]) (t := 34) ?hr ?_; (case hd => rfl); (case hg => rfl); (case hr => first | (go_simp; done) | (go_simp; rfl)); intro gb373 hg w92 hbox hb; have n0_ := Aside0.mk (below_step hb_ hb); have n1_ := Aside0.mk (hbox); have n2_ : Aside0 (w.heap.size ≤ gb373) := gz_; have n3_ : Aside0 (w.heap.size ≤ gb373) := gz_; clear HB; have HB := n0_; have BK373 := n1_; have GW373 := n2_; have GE373 := n3_; clear n0_ n1_ n2_ n3_; clear hb hbox hg; have hcz93_0 : w92.cell? ⟨gb373, 0, none⟩ = some (.int .i64 a0_0) := (blk_cell BK373.out 0).trans rfl; have hcz93_1 : w92.cell? ⟨gb373, 1, none⟩ = some (.slice A0_1 l0_1.length c0_1) := (blk_cell BK373.out 1).trans rfl; have hfz93_0 := blk_frozen BK373.out 0; have hfz93_1 := blk_frozen BK373.out 1) | ((with_reducible refine gate_callee (f := 23) rfl ?_); refine goesL_ (some 15) rfl rfl Try.func23 (by kernel_rfl) rfl #[.agg #[.int .i64 a0_0, .slice A0_1 l0_1.length c0_1], .int .i64 1048576] rfl ls_ ?_; (with_reducible refine (laws_szCells.calls a0_0 _ _ l0_1 1048576 t374 _ ?side1 ?side2 A4.out).mono ?_); (case side1 => exact cb_ HR0_1.out); (case side2 => exact HC0_1.out); rintro e w94 ⟨rfl, hb⟩; refine ⟨_, rfl, ?_⟩; have n0_ := bb_ BK373 hb; have n1_ := Aside0.mk (below_step hb_ hb); clear BK373; clear HB; have BK373 := n0_; have HB := n1_; clear n0_ n1_; (try clear hb); (try clear hb2); (try clear hk); (try clear hi)) | ((with_reducible refine gate_callee (f := 24) rfl ?_); refine goesL_ (some 20) rfl rfl Try.func24 (by kernel_rfl) rfl #[.slice A1 l1.length c1, .int .i64 t374] rfl ls_ ?_; (with_reducible refine (laws_szTripS.calls _ _ l1 t374 t375 _ ?side1 ?side2 A9.out).mono ?_); (case side1 => exact cb_ HR1.out); (case side2 => exact HC1.out); rintro e w' ⟨rfl, ⟨nd, rfl⟩⟩; refine ⟨_, rfl, ?_⟩; (try (rw [drewN_self w94]; generalize hq_ : World.drewN w94 _ = w94; have n0_ : Aside0 (w94.heap[gb373]? = some (.cells #[.int .i64 a0_0, .slice A0_1 l0_1.length c0_1] 34 (0, 0))) := ⟨by rw [← hq_]; exact (bk_ BK373.out)⟩; have n1_ : Aside0 (Below w.heap.size w w94) := ⟨by rw [← hq_]; exact hb_⟩; clear BK373 HB hq_; have BK373 := n0_; have HB := n1_; clear n0_ n1_))) | ((with_reducible refine gate_callee (f := 18) rfl ?_); refine goesL_ (some 25) rfl rfl Try.func18 (by kernel_rfl) rfl #[.slice A2 l2.length c2, .int .i64 t375] rfl ls_ ?_; (with_reducible refine (laws_szIntSS.calls k _ _ l2 t375 t376 _ ?side1 ?side2 A14.out).mono ?_); (case side1 => exact cb_ HR2.out); (case side2 => exact HC2.out); rintro e w' ⟨rfl, ⟨nd, rfl⟩⟩; refine ⟨_, rfl, ?_⟩; (try (rw [drewN_self w94]; generalize hq_ : World.drewN w94 _ = w94; have n0_ : Aside0 (w94.heap[gb373]? = some (.cells #[.int .i64 a0_0, .slice A0_1 l0_1.length c0_1] 34 (0, 0))) := ⟨by rw [← hq_]; exact (bk_ BK373.out)⟩; have n1_ : Aside0 (Below w.heap.size w w94) := ⟨by rw [← hq_]; exact hb_⟩; clear BK373 HB hq_; have BK373 := n0_; have HB := n1_; clear n0_ n1_)); have hcz95_0 : w94.cell? ⟨gb373, 0, none⟩ = some (.int .i64 a0_0) := (blk_cell BK373.out 0).trans rfl; have hcz95_1 : w94.cell? ⟨gb373, 1, none⟩ = some (.slice A0_1 l0_1.length c0_1) := (blk_cell BK373.out 1).trans rfl; have hfz95_0 := blk_frozen BK373.out 0; have hfz95_1 := blk_frozen BK373.out 1) | ((with_reducible refine gate_callee (f := 26) rfl ?_); refine goesL_ (some 29) rfl rfl Try.func26 (by kernel_rfl) rfl #[.agg #[.int .i64 a0_0, .slice A0_1 l0_1.length c0_1]] rfl ls_ ?_; (with_reducible refine (laws_toCells.calls k a0_0 _ _ l0_1 t377 t378 _ ?side1 ?side2 A19.out).mono ?_); (case side1 => exact cb_ HR0_1.out); (case side2 => exact HC0_1.out); rintro e w96 ⟨v379, rfl, ho0, hb⟩; refine ⟨_, rfl, ?_⟩; have n0_ := Aside0.mk (Kd.R_lower ho0 (below_size hb_)); have n1_ := bb_ BK373 hb; have n2_ := Aside0.mk (below_step hb_ hb); clear BK373; clear HB; have HO380 := n0_; have BK373 := n1_; have HB := n2_; clear n0_ n1_ n2_; (try clear hb); (try clear hb2); (try clear hk); (try clear hi); (try clear ho0)) | ((with_reducible refine gate_callee (f := 27) rfl ?_); refine goesL_ (some 31) rfl rfl Try.func27 (by kernel_rfl) rfl #[.slice A1 l1.length c1] rfl ls_ ?_; (with_reducible refine (laws_toTripS.calls k _ _ l1 t381 _ ?side1 ?side2 A20.out).mono ?_); (case side1 => exact cb_ HR1.out); (case side2 => exact HC1.out); rintro e w97 ⟨v382, rfl, ho0, hb⟩; refine ⟨_, rfl, ?_⟩; have n0_ := Aside0.mk (Kd.R_below (ra_ HO380.out) hb); have n1_ := Aside0.mk (Kd.R_lower ho0 (below_size hb_)); have n2_ := bb_ BK373 hb; have n3_ := Aside0.mk (below_step hb_ hb); clear HO380; clear BK373; clear HB; have HO380 := n0_; have HO383 := n1_; have BK373 := n2_; have HB := n3_; clear n0_ n1_ n2_ n3_; (try clear hb); (try clear hb2); (try clear hk); (try clear hi); (try clear ho0)) | ((with_reducible refine gate_callee (f := 20) rfl ?_); refine goesL_ (some 33) rfl rfl Try.func20 (by kernel_rfl) rfl #[.slice A2 l2.length c2] rfl ls_ ?_; (with_reducible refine (laws_toIntSS.calls k _ _ l2 t384 _ ?side1 ?side2 A21.out).mono ?_); (case side1 => exact cb_ HR2.out); (case side2 => exact HC2.out); rintro e w98 ⟨v385, rfl, ho0, hb⟩; refine ⟨_, rfl, ?_⟩; have n0_ := Aside0.mk (Kd.R_below (ra_ HO380.out) hb); have n1_ := Aside0.mk (Kd.R_below (ra_ HO383.out) hb); have n2_ := Aside0.mk (Kd.S_lower (Kd.S_new' ho0 (Kd.R_lt (ra_ HO380.out))) (below_size hb_)); have n3_ := bb_ BK373 hb; have n4_ := Aside0.mk (below_step hb_ hb); clear HO380; clear HO383; clear BK373; clear HB; have HO380 := n0_; have HO383 := n1_; have HO386 := n2_; have BK373 := n3_; have HB := n4_; clear n0_ n1_ n2_ n3_ n4_; (try clear hb); (try clear hb2); (try clear hk); (try clear hi); (try clear ho0); obtain ⟨Ao99, co99, eo99⟩ := Kd.R_slice HO380.out; subst eo99; obtain ⟨Ao100, co100, eo100⟩ := Kd.R_slice HO383.out; subst eo100; obtain ⟨Ao101, co101, eo101⟩ := Kd.S_slice HO386.out; subst eo101) | ((with_reducible refine gate_callee (f := 36) rfl ?_); refine goesL_ (some 34) rfl rfl Try.func36 (by kernel_rfl) rfl #[.agg #[.int .i64 t377, .slice Ao99 t378.length co99], .slice Ao100 t381.length co100, .slice Ao101 t384.length co101] rfl ls_ ?_; (with_reducible refine (spec_GoodPaths.calls k t377 _ _ t378 _ _ t381 _ _ t384 t387 _ ?side1 ?side2 ?side3 ?side4 ?side5 ?side6 A22.out).mono ?_); (case side1 => exact ca_ (Kd.R_reads' HO380.out).2.2); (case side2 => exact (Kd.R_reads' HO380.out).2.1); (case side3 => exact ca_ (Kd.R_reads' HO383.out).2.2); (case side4 => exact (Kd.R_reads' HO383.out).2.1); (case side5 => exact ca_ (Kd.S_reads' HO386.out).2.2); (case side6 => exact (Kd.S_reads' HO386.out).2.1); rintro e w102 ⟨rfl, hb⟩; refine ⟨_, rfl, ?_⟩; have n0_ := Aside0.mk (Kd.R_below (ra_ HO380.out) hb); have n1_ := Aside0.mk (Kd.R_below (ra_ HO383.out) hb); have n2_ := Aside0.mk (Kd.S_below (sa_ HO386.out) hb); have n3_ := bb_ BK373 hb; have n4_ := Aside0.mk (below_step hb_ hb); clear HO380; clear HO383; clear HO386; clear BK373; clear HB; have HO380 := n0_; have HO383 := n1_; have HO386 := n2_; have BK373 := n3_; have HB := n4_; clear n0_ n1_ n2_ n3_ n4_; (try clear hb); (try clear hb2); (try clear hk); (try clear hi); have hcz103_0 : w102.cell? ⟨gb373, 0, none⟩ = some (.int .i64 a0_0) := (blk_cell BK373.out 0).trans rfl; have hcz103_1 : w102.cell? ⟨gb373, 1, none⟩ = some (.slice A0_1 l0_1.length c0_1) := (blk_cell BK373.out 1).trans rfl; have hfz103_0 := blk_frozen BK373.out 0; have hfz103_1 := blk_frozen BK373.out 1) | ((with_reducible refine gate_callee (f := 26) rfl ?_); refine goesL_ (some 36) rfl rfl Try.func26 (by kernel_rfl) rfl #[.agg #[.int .i64 a0_0, .slice A0_1 l0_1.length c0_1]] rfl ls_ ?_; (with_reducible refine (laws_toCells.calls k a0_0 _ _ l0_1 t388 t389 _ ?side1 ?side2 A23.out).mono ?_); (case side1 => exact cb_ HR0_1.out); (case side2 => exact HC0_1.out); rintro e w104 ⟨v390, rfl, ho0, hb⟩; refine ⟨_, rfl, ?_⟩; have n0_ := Aside0.mk (Kd.R_elder' (ra_ HO380.out) (Kd.R_base ho0) hb); have n1_ := Aside0.mk (Kd.R_below (ra_ HO383.out) hb); have n2_ := Aside0.mk (Kd.S_elder' (sa_ HO386.out) (Kd.R_base ho0) hb); have n3_ := Aside0.mk (Kd.R_lower (Kd.R_new' ho0 (Kd.R_lt (ra_ HO380.out))) (below_size hb_)); have n4_ := bb_ BK373 hb; have n5_ := Aside0.mk (below_step hb_ hb); clear HO380; clear HO383; clear HO386; clear BK373; clear HB; have HO380 := n0_; have HO383 := n1_; have HO386 := n2_; have HO391 := n3_; have BK373 := n4_; have HB := n5_; clear n0_ n1_ n2_ n3_ n4_ n5_; (try clear hb); (try clear hb2); (try clear hk); (try clear hi); (try clear ho0)) | ((with_reducible refine gate_dst (N := 9) rfl ?_); refine box_event ?hg (N := 9) ?hd (cs := #[.int .i64 0, .slice none 0 0]) (t := 39) ?hr ?_; (case hd => rfl); (case hg => rfl); (case hr => first | (go_simp; done) | (go_simp; rfl)); intro gb392 hg w105 hbox hb; have n0_ := Aside0.mk (Kd.R_below (ra_ HO380.out) hb); have n1_ := Aside0.mk (Kd.R_below (ra_ HO383.out) hb); have n2_ := Aside0.mk (Kd.S_below (sa_ HO386.out) hb); have n3_ := Aside0.mk (Kd.R_below (ra_ HO391.out) hb); have n4_ := bb_ BK373 hb; have n5_ := Aside0.mk (below_step hb_ hb); have n6_ := Aside0.mk (hbox); have n7_ : Aside0 (w.heap.size ≤ gb392) := gz_; have n8_ : Aside0 (w.heap.size ≤ gb392) := gz_; have n9_ := Aside0.mk ((by rw [hg]; exact Nat.ne_of_lt (blk_lt (g := gb373) (o := .cells #[.int .i64 a0_0, .slice A0_1 l0_1.length c0_1] 34 (0, 0)) (bk_ BK373.out)) : gb373 ≠ gb392)); have n10_ := Aside0.mk ((by rw [hg]; exact Nat.ne_of_gt (blk_lt (g := gb373) (o := .cells #[.int .i64 a0_0, .slice A0_1 l0_1.length c0_1] 34 (0, 0)) (bk_ BK373.out)) : gb392 ≠ gb373)); clear HO380; clear HO383; clear HO386; clear HO391; clear BK373; clear HB; have HO380 := n0_; have HO383 := n1_; have HO386 := n2_; have HO391 := n3_; have BK373 := n4_; have HB := n5_; have BK392 := n6_; have GW392 := n7_; have GE392 := n8_; have NB373_392 := n9_; have NB392_373 := n10_; clear n0_ n1_ n2_ n3_ n4_ n5_ n6_ n7_ n8_ n9_ n10_; clear hb hbox hg; have hnb106 := NB392_373.out; have hnc106 := NB373_392.out; have hcz107_0 : w105.cell? ⟨gb392, 0, none⟩ = some (.int .i64 0) := (blk_cell BK392.out 0).trans rfl; have hcz107_1 : w105.cell? ⟨gb392, 1, none⟩ = some (.slice none 0 0) := (blk_cell BK392.out 1).trans rfl; have hfz107_0 := blk_frozen BK392.out 0; have hfz107_1 := blk_frozen BK392.out 1; obtain ⟨Ao108, co108, eo108⟩ := Kd.R_slice HO391.out; subst eo108) | ((with_reducible refine gate_callee (f := 27) rfl ?_); refine goesL_ (some 38) rfl rfl Try.func27 (by kernel_rfl) rfl #[.slice A1 l1.length c1] rfl ls_ ?_; (with_reducible refine (laws_toTripS.calls k _ _ l1 t393 _ ?side1 ?side2 A24.out).mono ?_); (case side1 => exact Kd.C_below HR1.out hb_); (case side2 => exact HC1.out); rintro e w109 ⟨v394, rfl, ho0, hb⟩; refine ⟨_, rfl, ?_⟩; have n0_ := Aside0.mk (Kd.R_below (by (with_reducible repeat (first | apply Kd.R_alloc | apply Kd.R_drewN | apply Kd.R_drew)); exact (Kd.R_mono (Kd.R_far (p := ⟨gb392, 1, none⟩) (Kd.R_far (p := ⟨gb392, 0, none⟩) (Kd.R_types HO380.out BK392.out (by decide)) (fun _ hk => hk.2) (.int .i64 t388)) (fun _ hk => hk.2) (.slice Ao108 t389.length co108)) (fun _ h_ => h_.1))) hb); have n1_ := Aside0.mk (Kd.R_elder' (by (with_reducible repeat (first | apply Kd.R_alloc | apply Kd.R_drewN | apply Kd.R_drew)); exact (Kd.R_mono (Kd.R_far (p := ⟨gb392, 1, none⟩) (Kd.R_far (p := ⟨gb392, 0, none⟩) (Kd.R_types HO383.out BK392.out (by decide)) (fun _ hk => hk.2) (.int .i64 t388)) (fun _ hk => hk.2) (.slice Ao108 t389.length co108)) (fun _ h_ => h_.1))) (Kd.R_base ho0) hb); have n2_ := Aside0.mk (Kd.S_below (by (with_reducible repeat (first | apply Kd.S_alloc | apply Kd.S_drewN | apply Kd.S_drew)); exact (Kd.S_mono (Kd.S_far (p := ⟨gb392, 1, none⟩) (Kd.S_far (p := ⟨gb392, 0, none⟩) (Kd.S_types HO386.out BK392.out (by decide)) (fun _ hk => hk.2) (.int .i64 t388)) (fun _ hk => hk.2) (.slice Ao108 t389.length co108)) (fun _ h_ => h_.1))) hb); have n3_ := Aside0.mk (Kd.R_below (by (with_reducible repeat (first | apply Kd.R_alloc | apply Kd.R_drewN | apply Kd.R_drew)); exact (Kd.R_mono (Kd.R_far (p := ⟨gb392, 1, none⟩) (Kd.R_far (p := ⟨gb392, 0, none⟩) (Kd.R_types HO391.out BK392.out (by decide)) (fun _ hk => hk.2) (.int .i64 t388)) (fun _ hk => hk.2) (.slice Ao108 t389.length co108)) (fun _ h_ => h_.1))) hb); have n4_ := Aside0.mk (Kd.R_lower (Kd.R_new' ho0 (Kd.R_lt (by (with_reducible repeat (first | apply Kd.R_alloc | apply Kd.R_drewN | apply Kd.R_drew)); exact (Kd.R_mono (Kd.R_far (p := ⟨gb392, 1, none⟩) (Kd.R_far (p := ⟨gb392, 0, none⟩) (Kd.R_types HO383.out BK392.out (by decide)) (fun _ hk => hk.2) (.int .i64 t388)) (fun _ hk => hk.2) (.slice Ao108 t389.length co108)) (fun _ h_ => h_.1))))) (below_size hb_)); have n5_ := Aside0.mk (blk_below (g := gb373) (o := .cells #[.int .i64 a0_0, .slice A0_1 l0_1.length c0_1] 34 (0, 0)) (by (with_reducible repeat (first | refine blk_drewN ?_ _ | refine blk_drew ?_ | refine blk_alloc ?_ _)); refine blk_far ?_ NB373_392.out _; (with_reducible repeat (first | refine blk_drewN ?_ _ | refine blk_drew ?_ | refine blk_alloc ?_ _)); refine blk_far ?_ NB373_392.out _; (with_reducible repeat (first | refine blk_drewN ?_ _ | refine blk_drew ?_ | refine blk_alloc ?_ _)); exact BK373.out) hb); have n6_ := Aside0.mk (blk_below (g := gb392) (o := .cells #[.int .i64 t388, .slice Ao108 t389.length co108] 39 (0, 0)) (by (with_reducible repeat (first | refine blk_drewN ?_ _ | refine blk_drew ?_ | refine blk_alloc ?_ _)); refine blk_put (cs := #[.int .i64 t388, .slice none 0 0]) ?_ 1 _ rfl; (with_reducible repeat (first | refine blk_drewN ?_ _ | refine blk_drew ?_ | refine blk_alloc ?_ _)); refine blk_put (cs := #[.int .i64 0, .slice none 0 0]) ?_ 0 _ rfl; (with_reducible repeat (first | refine blk_drewN ?_ _ | refine blk_drew ?_ | refine blk_alloc ?_ _)); exact BK392.out) hb); have n7_ := Aside0.mk (below_step hb_ hb); clear HO380; clear HO383; clear HO386; clear HO391; clear BK373; clear BK392; clear HB; have HO380 := n0_; have HO383 := n1_; have HO386 := n2_; have HO391 := n3_; have HO395 := n4_; have BK373 := n5_; have BK392 := n6_; have HB := n7_; clear n0_ n1_ n2_ n3_ n4_ n5_ n6_ n7_; (try clear hb); (try clear hb2); (try clear hk); (try clear hi); (try clear ho0)) | ((with_reducible refine gate_callee (f := 20) rfl ?_); refine goesL_ (some 40) rfl rfl Try.func20 (by kernel_rfl) rfl #[.slice A2 l2.length c2] rfl ls_ ?_; (with_reducible refine (laws_toIntSS.calls k _ _ l2 t396 _ ?side1 ?side2 A25.out).mono ?_); (case side1 => exact cb_ HR2.out); (case side2 => exact HC2.out); rintro e w110 ⟨v397, rfl, ho0, hb⟩; refine ⟨_, rfl, ?_⟩; have n0_ := Aside0.mk (Kd.R_below (ra_ HO380.out) hb); have n1_ := Aside0.mk (Kd.R_below (ra_ HO383.out) hb); have n2_ := Aside0.mk (Kd.S_elder' (sa_ HO386.out) (Kd.S_base ho0) hb); have n3_ := Aside0.mk (Kd.R_below (ra_ HO391.out) hb); have n4_ := Aside0.mk (Kd.R_below (ra_ HO395.out) hb); have n5_ := Aside0.mk (Kd.S_lower (Kd.S_new' (Kd.S_new' (Kd.S_new' ho0 (Kd.R_lt (ra_ HO380.out))) (Kd.S_lt (sa_ HO386.out))) (Kd.R_lt (ra_ HO391.out))) (below_size hb_)); have n6_ := bb_ BK373 hb; have n7_ := bb_ BK392 hb; have n8_ := Aside0.mk (below_step hb_ hb); clear HO380; clear HO383; clear HO386; clear HO391; clear HO395; clear BK373; clear BK392; clear HB; have HO380 := n0_; have HO383 := n1_; have HO386 := n2_; have HO391 := n3_; have HO395 := n4_; have HO398 := n5_; have BK373 := n6_; have BK392 := n7_; have HB := n8_; clear n0_ n1_ n2_ n3_ n4_ n5_ n6_ n7_ n8_; (try clear hb); (try clear hb2); (try clear hk); (try clear hi); (try clear ho0); have hcz111_0 : w110.cell? ⟨gb392, 0, none⟩ = some (.int .i64 t388) := (blk_cell BK392.out 0).trans rfl; have hcz111_1 : w110.cell? ⟨gb392, 1, none⟩ = some (.slice Ao108 t389.length co108) := (blk_cell BK392.out 1).trans rfl; have hfz111_0 := blk_frozen BK392.out 0; have hfz111_1 := blk_frozen BK392.out 1; obtain ⟨Ao112, co112, eo112⟩ := Kd.R_slice HO395.out; subst eo112; obtain ⟨Ao113, co113, eo113⟩ := Kd.S_slice HO398.out; subst eo113) | ((with_reducible refine gate_callee (f := 37) rfl ?_); refine goesL_ (some 44) rfl rfl Try.func37 (by kernel_rfl) rfl #[.agg #[.int .i64 t388, .slice Ao108 t389.length co108], .slice Ao112 t393.length co112, .slice Ao113 t396.length co113] rfl ls_ ?_; (with_reducible refine (impl_GoodPaths.calls k t388 _ _ t389 _ _ t393 _ _ t396 t399 _ ?side1 ?side2 ?side3 ?side4 ?side5 ?side6 A26.out).mono ?_); (case side1 => exact ca_ (Kd.R_reads' HO391.out).2.2); (case side2 => exact (Kd.R_reads' HO391.out).2.1); (case side3 => exact ca_ (Kd.R_reads' HO395.out).2.2); (case side4 => exact (Kd.R_reads' HO395.out).2.1); (case side5 => exact ca_ (Kd.S_reads' HO398.out).2.2); (case side6 => exact (Kd.S_reads' HO398.out).2.1); rintro e w114 ⟨rfl, hb⟩; refine ⟨_, rfl, ?_⟩; have n0_ := Aside0.mk (Kd.R_below (ra_ HO380.out) hb); have n1_ := Aside0.mk (Kd.R_below (ra_ HO383.out) hb); have n2_ := Aside0.mk (Kd.S_below (sa_ HO386.out) hb); have n3_ := Aside0.mk (Kd.R_below (ra_ HO391.out) hb); have n4_ := Aside0.mk (Kd.R_below (ra_ HO395.out) hb); have n5_ := Aside0.mk (Kd.S_below (sa_ HO398.out) hb); have n6_ := bb_ BK373 hb; have n7_ := bb_ BK392 hb; have n8_ := Aside0.mk (below_step hb_ hb); clear HO380; clear HO383; clear HO386; clear HO391; clear HO395; clear HO398; clear BK373; clear BK392; clear HB; have HO380 := n0_; have HO383 := n1_; have HO386 := n2_; have HO391 := n3_; have HO395 := n4_; have HO398 := n5_; have BK373 := n6_; have BK392 := n7_; have HB := n8_; clear n0_ n1_ n2_ n3_ n4_ n5_ n6_ n7_ n8_; (try clear hb); (try clear hb2); (try clear hk); (try clear hi)))
         have n0_ := Aside0.mk (Kd.R_drew HO380.out)
         have n1_ := Aside0.mk (Kd.R_drew HO383.out)
         have n2_ := Aside0.mk (Kd.S_drew HO386.out)
         have n3_ := Aside0.mk (Kd.R_drew HO391.out)
         have n4_ := Aside0.mk (Kd.R_drew HO395.out)
         have n5_ := Aside0.mk (Kd.S_drew HO398.out)
         have n6_ := Aside0.mk (blk_drew BK373.out)
         have n7_ := Aside0.mk (blk_drew BK392.out)
         have n8_ := Aside0.mk (below_drew1 HB.out)
         clear HO380
         clear HO383
         clear HO386
         clear HO391
         clear HO395
         clear HO398
         clear BK373
         clear BK392
         clear HB
         have HO380 := n0_
         have HO383 := n1_
         have HO386 := n2_
         have HO391 := n3_
         have HO395 := n4_
         have HO398 := n5_
         have BK373 := n6_
         have BK392 := n7_
         have HB := n8_
         clear n0_ n1_ n2_ n3_ n4_ n5_ n6_ n7_ n8_
         refine start_ (n := 5) (S := fun w' => w'.cell? ⟨gb392, 0, none⟩ = some (.int .i64 t388) ∧ w'.cell? ⟨gb392, 1, none⟩ = some (.slice Ao108 t389.length co108) ∧ w'.cell? ⟨gb373, 0, none⟩ = some (.int .i64 a0_0) ∧ w'.cell? ⟨gb373, 1, none⟩ = some (.slice A0_1 l0_1.length c0_1)) (ds := []) #[false, false, false, false, false] (by kernel_rfl) rfl rfl ⟨(blk_cell BK392.out 0).trans rfl, (blk_cell BK392.out 1).trans rfl, (blk_cell BK373.out 0).trans rfl, (blk_cell BK373.out 1).trans rfl⟩ (fun hHeld => ?_)
         generalize w114.drew = w115 at HO380 HO383 HO386 HO391 HO395 HO398 BK373 BK392 HB hHeld ⊢
         refine take_ (i := 0) (N := some 48) (v := ?_) (a' := ?_) #[true, false, false, false, false] rfl rfl (by kernel_rfl) (fun _ _ _ h => h) (Or.inl ⟨by rfl, ?_⟩) hHeld ?_ ?_
         rotate_left
         ·rintro w' ⟨s0, s1, s2, s3⟩
          go_simp
          with_reducible rfl
         rotate_left
         ·simp only [Act.put, List.setIfInBounds_toArray, List.set_cons_zero, List.set_cons_succ, i64_w, i32_w]
          rfl
         refine take_ (i := 1) (N := some 49) (v := ?_) (a' := ?_) #[true, true, false, false, false] rfl rfl (by kernel_rfl) (fun _ _ _ h => h) (Or.inl ⟨by rfl, ?_⟩) hHeld ?_ ?_
         rotate_left
         ·rintro w' ⟨s0, s1, s2, s3⟩
          go_simp
          with_reducible rfl
         rotate_left
         ·simp only [Act.put, List.setIfInBounds_toArray, List.set_cons_zero, List.set_cons_succ, i64_w, i32_w]
          rfl
         refine one_ (i := 2) (N := some 50) #[true, true, true, false, false] rfl rfl (by kernel_rfl) (by decide) (fun K hK => ?_)
         refine goes_ Try.func26 (by kernel_rfl) rfl #[.agg #[.int .i64 a0_0, .slice A0_1 l0_1.length c0_1]] (by rfl) rfl rfl ls_ ?_
         with_reducible refine (laws_toCells.calls k a0_0 _ _ l0_1 t400 t401 _ ?side1 ?side2 A51.out).mono ?_
         (case side1 => exact cb_ HR0_1.out)
         (case side2 => exact HC0_1.out)
         rintro e w116 ⟨v402, rfl, ho0, hb⟩
         refine ⟨_, rfl, ?_⟩
         have n0_ := Aside0.mk (Kd.R_elder' (ra_ HO380.out) (Kd.R_base ho0) hb)
         have n1_ := Aside0.mk (Kd.R_below (ra_ HO383.out) hb)
         have n2_ := Aside0.mk (Kd.S_elder' (sa_ HO386.out) (Kd.R_base ho0) hb)
         have n3_ := Aside0.mk (Kd.R_elder' (ra_ HO391.out) (Kd.R_base ho0) hb)
         have n4_ := Aside0.mk (Kd.R_below (ra_ HO395.out) hb)
         have n5_ := Aside0.mk (Kd.S_elder' (sa_ HO398.out) (Kd.R_base ho0) hb)
         have n6_ := Aside0.mk (Kd.R_lower (Kd.R_new' (Kd.R_new' ho0 (Kd.R_lt (ra_ HO380.out))) (Kd.R_lt (ra_ HO391.out))) (below_size hb_))
         have n7_ := bb_ BK373 hb
         have n8_ := bb_ BK392 hb
         have n9_ := Aside0.mk (below_step hb_ hb)
         clear HO380
         clear HO383
         clear HO386
         clear HO391
         clear HO395
         clear HO398
         clear BK373
         clear BK392
         clear HB
         have HO380 := n0_
         have HO383 := n1_
         have HO386 := n2_
         have HO391 := n3_
         have HO395 := n4_
         have HO398 := n5_
         have HO403 := n6_
         have BK373 := n7_
         have BK392 := n8_
         have HB := n9_
         clear n0_ n1_ n2_ n3_ n4_ n5_ n6_ n7_ n8_ n9_
         (try clear hb)
         (try clear hb2)
         (try clear hk)
         (try clear hi)
         (try clear ho0)
         obtain ⟨Ao117, co117, eo117⟩ := Kd.R_slice HO403.out
         (first | subst eo117 | (injection eo117 with f1_ f2_ f3_; have f4_ := f1_.symm; have f5_ := f3_.symm; clear f1_ f2_ f3_; subst f4_; subst f5_))
         refine hK.out _ _ ⟨(blk_cell BK392.out 0).trans rfl, (blk_cell BK392.out 1).trans rfl, (blk_cell BK373.out 0).trans rfl, (blk_cell BK373.out 1).trans rfl⟩ (fun hHeld => ?_)
         clear hK K
         refine norm_ (a' := ?_) ?_ ?_
         rotate_left
         ·show Act.put _ (some 50) _ = _
          simp only [Act.put, List.setIfInBounds_toArray, List.set_cons_zero, List.set_cons_succ, i64_w, i32_w]
          rfl
         refine one_ (i := 3) (N := some 51) #[true, true, true, true, false] rfl rfl (by kernel_rfl) (by decide) (fun K hK => ?_)
         refine goes_ Try.func29 (by kernel_rfl) rfl #[.agg #[.int .i64 t388, .slice Ao108 t389.length co108], .agg #[.int .i64 t400, .slice Ao117 t401.length co117]] (by rfl) rfl rfl ls_ ?_
         with_reducible refine (laws_eqCells.calls k t388 _ _ t389 t400 _ _ t401 true _ ?side1 ?side2 ?side3 ?side4 A52.out).mono ?_
         (case side1 => exact ca_ (Kd.R_reads' HO391.out).2.2)
         (case side2 => exact (Kd.R_reads' HO391.out).2.1)
         (case side3 => exact ca_ (Kd.R_reads' HO403.out).2.2)
         (case side4 => exact (Kd.R_reads' HO403.out).2.1)
         rintro e w118 ⟨rfl, hb⟩
         refine ⟨_, rfl, ?_⟩
         have n0_ := Aside0.mk (Kd.R_below (ra_ HO380.out) hb)
         have n1_ := Aside0.mk (Kd.R_below (ra_ HO383.out) hb)
         have n2_ := Aside0.mk (Kd.S_below (sa_ HO386.out) hb)
         have n3_ := Aside0.mk (Kd.R_below (ra_ HO391.out) hb)
         have n4_ := Aside0.mk (Kd.R_below (ra_ HO395.out) hb)
         have n5_ := Aside0.mk (Kd.S_below (sa_ HO398.out) hb)
         have n6_ := Aside0.mk (Kd.R_below (ra_ HO403.out) hb)
         have n7_ := bb_ BK373 hb
         have n8_ := bb_ BK392 hb
         have n9_ := Aside0.mk (below_step hb_ hb)
         clear HO380
         clear HO383
         clear HO386
         clear HO391
         clear HO395
         clear HO398
         clear HO403
         clear BK373
         clear BK392
         clear HB
         have HO380 := n0_
         have HO383 := n1_
         have HO386 := n2_
         have HO391 := n3_
         have HO395 := n4_
         have HO398 := n5_
         have HO403 := n6_
         have BK373 := n7_
         have BK392 := n8_
         have HB := n9_
         clear n0_ n1_ n2_ n3_ n4_ n5_ n6_ n7_ n8_ n9_
         (try clear hb)
         (try clear hb2)
         (try clear hk)
         (try clear hi)
         refine hK.out _ _ ⟨(blk_cell BK392.out 0).trans rfl, (blk_cell BK392.out 1).trans rfl, (blk_cell BK373.out 0).trans rfl, (blk_cell BK373.out 1).trans rfl⟩ (fun hHeld => ?_)
         clear hK K
         refine norm_ (a' := ?_) ?_ ?_
         rotate_left
         ·show Act.put _ (some 51) _ = _
          simp only [Act.put, List.setIfInBounds_toArray, List.set_cons_zero, List.set_cons_succ, i64_w, i32_w]
          rfl
         refine pure_ (i := 4) (N := some 52) (v := ?_) (a' := ?_) #[true, true, true, true, true] rfl rfl (by kernel_rfl) (fun _ _ _ h => h) (Or.inl ⟨by rfl, ?_⟩) ?_ ?_
         rotate_left
         ·intro w'
          go_simp
          with_reducible rfl
         rotate_left
         ·simp only [Act.put, List.setIfInBounds_toArray, List.set_cons_zero, List.set_cons_succ, i64_w, i32_w]
          rfl
         refine done_ (by kernel_rfl) ?_
         try go_wp2_with (first | ((with_reducible refine gate_callee (f := 27) rfl ?_); refine goesL_ (some 55) rfl rfl Try.func27 (by kernel_rfl) rfl #[.slice A1 l1.length c1] rfl ls_ ?_; (with_reducible refine (laws_toTripS.calls k _ _ l1 t405 _ ?side1 ?side2 A54.out).mono ?_); (case side1 => exact cb_ HR1.out); (case side2 => exact HC1.out); rintro e w119 ⟨v406, rfl, ho0, hb⟩; refine ⟨_, rfl, ?_⟩; have n0_ := Aside0.mk (Kd.R_below (ra_ HO380.out) hb); have n1_ := Aside0.mk (Kd.R_elder' (ra_ HO383.out) (Kd.R_base ho0) hb); have n2_ := Aside0.mk (Kd.S_below (sa_ HO386.out) hb); have n3_ := Aside0.mk (Kd.R_below (ra_ HO391.out) hb); have n4_ := Aside0.mk (Kd.R_elder' (ra_ HO395.out) (Kd.R_base ho0) hb); have n5_ := Aside0.mk (Kd.S_below (sa_ HO398.out) hb); have n6_ := Aside0.mk (Kd.R_below (ra_ HO403.out) hb); have n7_ := Aside0.mk (Kd.R_lower (Kd.R_new' (Kd.R_new' ho0 (Kd.R_lt (ra_ HO383.out))) (Kd.R_lt (ra_ HO395.out))) (below_size hb_)); have n8_ := bb_ BK373 hb; have n9_ := bb_ BK392 hb; have n10_ := Aside0.mk (below_step hb_ hb); clear HO380; clear HO383; clear HO386; clear HO391; clear HO395; clear HO398; clear HO403; clear BK373; clear BK392; clear HB; have HO380 := n0_; have HO383 := n1_; have HO386 := n2_; have HO391 := n3_; have HO395 := n4_; have HO398 := n5_; have HO403 := n6_; have HO407 := n7_; have BK373 := n8_; have BK392 := n9_; have HB := n10_; clear n0_ n1_ n2_ n3_ n4_ n5_ n6_ n7_ n8_ n9_ n10_; (try clear hb); (try clear hb2); (try clear hk); (try clear hi); (try clear ho0); obtain ⟨Ao120, co120, eo120⟩ := Kd.R_slice HO407.out; subst eo120) | ((with_reducible refine gate_callee (f := 30) rfl ?_); refine goesL_ (some 56) rfl rfl Try.func30 (by kernel_rfl) rfl #[.slice Ao112 t393.length co112, .slice Ao120 t405.length co120] rfl ls_ ?_; (with_reducible refine (laws_eqTripS.calls k _ _ t393 _ _ t405 true _ ?side1 ?side2 ?side3 ?side4 A55.out).mono ?_); (case side1 => exact ca_ (Kd.R_reads' HO395.out).2.2); (case side2 => exact (Kd.R_reads' HO395.out).2.1); (case side3 => exact ca_ (Kd.R_reads' HO407.out).2.2); (case side4 => exact (Kd.R_reads' HO407.out).2.1); rintro e w121 ⟨rfl, hb⟩; refine ⟨_, rfl, ?_⟩; have n0_ := Aside0.mk (Kd.R_below (ra_ HO380.out) hb); have n1_ := Aside0.mk (Kd.R_below (ra_ HO383.out) hb); have n2_ := Aside0.mk (Kd.S_below (sa_ HO386.out) hb); have n3_ := Aside0.mk (Kd.R_below (ra_ HO391.out) hb); have n4_ := Aside0.mk (Kd.R_below (ra_ HO395.out) hb); have n5_ := Aside0.mk (Kd.S_below (sa_ HO398.out) hb); have n6_ := Aside0.mk (Kd.R_below (ra_ HO403.out) hb); have n7_ := Aside0.mk (Kd.R_below (ra_ HO407.out) hb); have n8_ := bb_ BK373 hb; have n9_ := bb_ BK392 hb; have n10_ := Aside0.mk (below_step hb_ hb); clear HO380; clear HO383; clear HO386; clear HO391; clear HO395; clear HO398; clear HO403; clear HO407; clear BK373; clear BK392; clear HB; have HO380 := n0_; have HO383 := n1_; have HO386 := n2_; have HO391 := n3_; have HO395 := n4_; have HO398 := n5_; have HO403 := n6_; have HO407 := n7_; have BK373 := n8_; have BK392 := n9_; have HB := n10_; clear n0_ n1_ n2_ n3_ n4_ n5_ n6_ n7_ n8_ n9_ n10_; (try clear hb); (try clear hb2); (try clear hk); (try clear hi)) | ((with_reducible refine gate_callee (f := 20) rfl ?_); refine goesL_ (some 60) rfl rfl Try.func20 (by kernel_rfl) rfl #[.slice A2 l2.length c2] rfl ls_ ?_; (with_reducible refine (laws_toIntSS.calls k _ _ l2 t409 _ ?side1 ?side2 A57.out).mono ?_); (case side1 => exact cb_ HR2.out); (case side2 => exact HC2.out); rintro e w122 ⟨v410, rfl, ho0, hb⟩; refine ⟨_, rfl, ?_⟩; have n0_ := Aside0.mk (Kd.R_below (ra_ HO380.out) hb); have n1_ := Aside0.mk (Kd.R_below (ra_ HO383.out) hb); have n2_ := Aside0.mk (Kd.S_elder' (sa_ HO386.out) (Kd.S_base ho0) hb); have n3_ := Aside0.mk (Kd.R_below (ra_ HO391.out) hb); have n4_ := Aside0.mk (Kd.R_below (ra_ HO395.out) hb); have n5_ := Aside0.mk (Kd.S_elder' (sa_ HO398.out) (Kd.S_base ho0) hb); have n6_ := Aside0.mk (Kd.R_below (ra_ HO403.out) hb); have n7_ := Aside0.mk (Kd.R_below (ra_ HO407.out) hb); have n8_ := Aside0.mk (Kd.S_lower (Kd.S_new' (Kd.S_new' (Kd.S_new' (Kd.S_new' (Kd.S_new' ho0 (Kd.R_lt (ra_ HO380.out))) (Kd.S_lt (sa_ HO386.out))) (Kd.R_lt (ra_ HO391.out))) (Kd.S_lt (sa_ HO398.out))) (Kd.R_lt (ra_ HO403.out))) (below_size hb_)); have n9_ := bb_ BK373 hb; have n10_ := bb_ BK392 hb; have n11_ := Aside0.mk (below_step hb_ hb); clear HO380; clear HO383; clear HO386; clear HO391; clear HO395; clear HO398; clear HO403; clear HO407; clear BK373; clear BK392; clear HB; have HO380 := n0_; have HO383 := n1_; have HO386 := n2_; have HO391 := n3_; have HO395 := n4_; have HO398 := n5_; have HO403 := n6_; have HO407 := n7_; have HO411 := n8_; have BK373 := n9_; have BK392 := n10_; have HB := n11_; clear n0_ n1_ n2_ n3_ n4_ n5_ n6_ n7_ n8_ n9_ n10_ n11_; (try clear hb); (try clear hb2); (try clear hk); (try clear hi); (try clear ho0); obtain ⟨Ao123, co123, eo123⟩ := Kd.S_slice HO411.out; subst eo123) | ((with_reducible refine gate_callee (f := 22) rfl ?_); refine goesL_ (some 61) rfl rfl Try.func22 (by kernel_rfl) rfl #[.slice Ao113 t396.length co113, .slice Ao123 t409.length co123] rfl ls_ ?_; (with_reducible refine (laws_eqIntSS.calls k _ _ t396 _ _ t409 false _ ?side1 ?side2 ?side3 ?side4 A58.out).mono ?_); (case side1 => exact ca_ (Kd.S_reads' HO398.out).2.2); (case side2 => exact (Kd.S_reads' HO398.out).2.1); (case side3 => exact ca_ (Kd.S_reads' HO411.out).2.2); (case side4 => exact (Kd.S_reads' HO411.out).2.1); rintro e w' ⟨rfl, ⟨nd, rfl⟩⟩; refine ⟨_, rfl, ?_⟩))
         go_ret
         exact ⟨er_, hb_⟩
       ·replace c56 := Bool.eq_false_iff.mpr c56
        subst c56
        rw [if_neg (show ¬ (false = true) by decide)] at H
        obtain rfl := Option.some.inj H
        go_enter Try.func8, Try.ntmps8
        try go_wp2_with (first | ((with_reducible refine gate_dst (N := 3) rfl ?_); refine box_event ?hg (N := 3) ?hd (cs := #[.int .i64 a0_0, .slice A0_1 l0_1.length c0_1]) (t := 34) ?hr ?_; (case hd => rfl); (case hg => rfl); (case hr => first | (go_simp; done) | (go_simp; rfl)); intro gb373 hg w124 hbox hb; have n0_ := Aside0.mk (below_step hb_ hb); have n1_ := Aside0.mk (hbox); have n2_ : Aside0 (w.heap.size ≤ gb373) := gz_; have n3_ : Aside0 (w.heap.size ≤ gb373) := gz_; clear HB; have HB := n0_; have BK373 := n1_; have GW373 := n2_; have GE373 := n3_; clear n0_ n1_ n2_ n3_; clear hb hbox hg; have hcz125_0 : w124.cell? ⟨gb373, 0, none⟩ = some (.int .i64 a0_0) := (blk_cell BK373.out 0).trans rfl; have hcz125_1 : w124.cell? ⟨gb373, 1, none⟩ = some (.slice A0_1 l0_1.length c0_1) := (blk_cell BK373.out 1).trans rfl; have hfz125_0 := blk_frozen BK373.out 0; have hfz125_1 := blk_frozen BK373.out 1) | ((with_reducible refine gate_callee (f := 23) rfl ?_); refine goesL_ (some 15) rfl rfl Try.func23 (by kernel_rfl) rfl #[.agg #[.int .i64 a0_0, .slice A0_1 l0_1.length c0_1], .int .i64 1048576] rfl ls_ ?_; (with_reducible refine (laws_szCells.calls a0_0 _ _ l0_1 1048576 t374 _ ?side1 ?side2 A4.out).mono ?_); (case side1 => exact cb_ HR0_1.out); (case side2 => exact HC0_1.out); rintro e w126 ⟨rfl, hb⟩; refine ⟨_, rfl, ?_⟩; have n0_ := bb_ BK373 hb; have n1_ := Aside0.mk (below_step hb_ hb); clear BK373; clear HB; have BK373 := n0_; have HB := n1_; clear n0_ n1_; (try clear hb); (try clear hb2); (try clear hk); (try clear hi)) | ((with_reducible refine gate_callee (f := 24) rfl ?_); refine goesL_ (some 20) rfl rfl Try.func24 (by kernel_rfl) rfl #[.slice A1 l1.length c1, .int .i64 t374] rfl ls_ ?_; (with_reducible refine (laws_szTripS.calls _ _ l1 t374 t375 _ ?side1 ?side2 A9.out).mono ?_); (case side1 => exact cb_ HR1.out); (case side2 => exact HC1.out); rintro e w' ⟨rfl, ⟨nd, rfl⟩⟩; refine ⟨_, rfl, ?_⟩; (try (rw [drewN_self w126]; generalize hq_ : World.drewN w126 _ = w126; have n0_ : Aside0 (w126.heap[gb373]? = some (.cells #[.int .i64 a0_0, .slice A0_1 l0_1.length c0_1] 34 (0, 0))) := ⟨by rw [← hq_]; exact (bk_ BK373.out)⟩; have n1_ : Aside0 (Below w.heap.size w w126) := ⟨by rw [← hq_]; exact hb_⟩; clear BK373 HB hq_; have BK373 := n0_; have HB := n1_; clear n0_ n1_))) | ((with_reducible refine gate_callee (f := 18) rfl ?_); refine goesL_ (some 25) rfl rfl Try.func18 (by kernel_rfl) rfl #[.slice A2 l2.length c2, .int .i64 t375] rfl ls_ ?_; (with_reducible refine (laws_szIntSS.calls k _ _ l2 t375 t376 _ ?side1 ?side2 A14.out).mono ?_); (case side1 => exact cb_ HR2.out); (case side2 => exact HC2.out); rintro e w' ⟨rfl, ⟨nd, rfl⟩⟩; refine ⟨_, rfl, ?_⟩; (try (rw [drewN_self w126]; generalize hq_ : World.drewN w126 _ = w126; have n0_ : Aside0 (w126.heap[gb373]? = some (.cells #[.int .i64 a0_0, .slice A0_1 l0_1.length c0_1] 34 (0, 0))) := ⟨by rw [← hq_]; exact (bk_ BK373.out)⟩; have n1_ : Aside0 (Below w.heap.size w w126) := ⟨by rw [← hq_]; exact hb_⟩; clear BK373 HB hq_; have BK373 := n0_; have HB := n1_; clear n0_ n1_)); have hcz127_0 : w126.cell? ⟨gb373, 0, none⟩ = some (.int .i64 a0_0) := (blk_cell BK373.out 0).trans rfl; have hcz127_1 : w126.cell? ⟨gb373, 1, none⟩ = some (.slice A0_1 l0_1.length c0_1) := (blk_cell BK373.out 1).trans rfl; have hfz127_0 := blk_frozen BK373.out 0; have hfz127_1 := blk_frozen BK373.out 1) | ((with_reducible refine gate_callee (f := 26) rfl ?_); refine goesL_ (some 29) rfl rfl Try.func26 (by kernel_rfl) rfl #[.agg #[.int .i64 a0_0, .slice A0_1 l0_1.length c0_1]] rfl ls_ ?_; (with_reducible refine (laws_toCells.calls k a0_0 _ _ l0_1 t377 t378 _ ?side1 ?side2 A19.out).mono ?_); (case side1 => exact cb_ HR0_1.out); (case side2 => exact HC0_1.out); rintro e w128 ⟨v379, rfl, ho0, hb⟩; refine ⟨_, rfl, ?_⟩; have n0_ := Aside0.mk (Kd.R_lower ho0 (below_size hb_)); have n1_ := bb_ BK373 hb; have n2_ := Aside0.mk (below_step hb_ hb); clear BK373; clear HB; have HO380 := n0_; have BK373 := n1_; have HB := n2_; clear n0_ n1_ n2_; (try clear hb); (try clear hb2); (try clear hk); (try clear hi); (try clear ho0)) | ((with_reducible refine gate_callee (f := 27) rfl ?_); refine goesL_ (some 31) rfl rfl Try.func27 (by kernel_rfl) rfl #[.slice A1 l1.length c1] rfl ls_ ?_; (with_reducible refine (laws_toTripS.calls k _ _ l1 t381 _ ?side1 ?side2 A20.out).mono ?_); (case side1 => exact cb_ HR1.out); (case side2 => exact HC1.out); rintro e w129 ⟨v382, rfl, ho0, hb⟩; refine ⟨_, rfl, ?_⟩; have n0_ := Aside0.mk (Kd.R_below (ra_ HO380.out) hb); have n1_ := Aside0.mk (Kd.R_lower ho0 (below_size hb_)); have n2_ := bb_ BK373 hb; have n3_ := Aside0.mk (below_step hb_ hb); clear HO380; clear BK373; clear HB; have HO380 := n0_; have HO383 := n1_; have BK373 := n2_; have HB := n3_; clear n0_ n1_ n2_ n3_; (try clear hb); (try clear hb2); (try clear hk); (try clear hi); (try clear ho0)) | ((with_reducible refine gate_callee (f := 20) rfl ?_); refine goesL_ (some 33) rfl rfl Try.func20 (by kernel_rfl) rfl #[.slice A2 l2.length c2] rfl ls_ ?_; (with_reducible refine (laws_toIntSS.calls k _ _ l2 t384 _ ?side1 ?side2 A21.out).mono ?_); (case side1 => exact cb_ HR2.out); (case side2 => exact HC2.out); rintro e w130 ⟨v385, rfl, ho0, hb⟩; refine ⟨_, rfl, ?_⟩; have n0_ := Aside0.mk (Kd.R_below (ra_ HO380.out) hb); have n1_ := Aside0.mk (Kd.R_below (ra_ HO383.out) hb); have n2_ := Aside0.mk (Kd.S_lower (Kd.S_new' ho0 (Kd.R_lt (ra_ HO380.out))) (below_size hb_)); have n3_ := bb_ BK373 hb; have n4_ := Aside0.mk (below_step hb_ hb); clear HO380; clear HO383; clear BK373; clear HB; have HO380 := n0_; have HO383 := n1_; have HO386 := n2_; have BK373 := n3_; have HB := n4_; clear n0_ n1_ n2_ n3_ n4_; (try clear hb); (try clear hb2); (try clear hk); (try clear hi); (try clear ho0); obtain ⟨Ao131, co131, eo131⟩ := Kd.R_slice HO380.out; subst eo131; obtain ⟨Ao132, co132, eo132⟩ := Kd.R_slice HO383.out; subst eo132; obtain ⟨Ao133, co133, eo133⟩ := Kd.S_slice HO386.out; subst eo133) | ((with_reducible refine gate_callee (f := 36) rfl ?_); refine goesL_ (some 34) rfl rfl Try.func36 (by kernel_rfl) rfl #[.agg #[.int .i64 t377, .slice Ao131 t378.length co131], .slice Ao132 t381.length co132, .slice Ao133 t384.length co133] rfl ls_ ?_; (with_reducible refine (spec_GoodPaths.calls k t377 _ _ t378 _ _ t381 _ _ t384 t387 _ ?side1 ?side2 ?side3 ?side4 ?side5 ?side6 A22.out).mono ?_); (case side1 => exact ca_ (Kd.R_reads' HO380.out).2.2); (case side2 => exact (Kd.R_reads' HO380.out).2.1); (case side3 => exact ca_ (Kd.R_reads' HO383.out).2.2); (case side4 => exact (Kd.R_reads' HO383.out).2.1); (case side5 => exact ca_ (Kd.S_reads' HO386.out).2.2); (case side6 => exact (Kd.S_reads' HO386.out).2.1); rintro e w134 ⟨rfl, hb⟩; refine ⟨_, rfl, ?_⟩; have n0_ := Aside0.mk (Kd.R_below (ra_ HO380.out) hb); have n1_ := Aside0.mk (Kd.R_below (ra_ HO383.out) hb); have n2_ := Aside0.mk (Kd.S_below (sa_ HO386.out) hb); have n3_ := bb_ BK373 hb; have n4_ := Aside0.mk (below_step hb_ hb); clear HO380; clear HO383; clear HO386; clear BK373; clear HB; have HO380 := n0_; have HO383 := n1_; have HO386 := n2_; have BK373 := n3_; have HB := n4_; clear n0_ n1_ n2_ n3_ n4_; (try clear hb); (try clear hb2); (try clear hk); (try clear hi); have hcz135_0 : w134.cell? ⟨gb373, 0, none⟩ = some (.int .i64 a0_0) := (blk_cell BK373.out 0).trans rfl; have hcz135_1 : w134.cell? ⟨gb373, 1, none⟩ = some (.slice A0_1 l0_1.length c0_1) := (blk_cell BK373.out 1).trans rfl; have hfz135_0 := blk_frozen BK373.out 0; have hfz135_1 := blk_frozen BK373.out 1) | ((with_reducible refine gate_callee (f := 26) rfl ?_); refine goesL_ (some 36) rfl rfl Try.func26 (by kernel_rfl) rfl #[.agg #[.int .i64 a0_0, .slice A0_1 l0_1.length c0_1]] rfl ls_ ?_; (with_reducible refine (laws_toCells.calls k a0_0 _ _ l0_1 t388 t389 _ ?side1 ?side2 A23.out).mono ?_); (case side1 => exact cb_ HR0_1.out); (case side2 => exact HC0_1.out); rintro e w136 ⟨v390, rfl, ho0, hb⟩; refine ⟨_, rfl, ?_⟩; have n0_ := Aside0.mk (Kd.R_elder' (ra_ HO380.out) (Kd.R_base ho0) hb); have n1_ := Aside0.mk (Kd.R_below (ra_ HO383.out) hb); have n2_ := Aside0.mk (Kd.S_elder' (sa_ HO386.out) (Kd.R_base ho0) hb); have n3_ := Aside0.mk (Kd.R_lower (Kd.R_new' ho0 (Kd.R_lt (ra_ HO380.out))) (below_size hb_)); have n4_ := bb_ BK373 hb; have n5_ := Aside0.mk (below_step hb_ hb); clear HO380; clear HO383; clear HO386; clear BK373; clear HB; have HO380 := n0_; have HO383 := n1_; have HO386 := n2_; have HO391 := n3_; have BK373 := n4_; have HB := n5_; clear n0_ n1_ n2_ n3_ n4_ n5_; (try clear hb); (try clear hb2); (try clear hk); (try clear hi); (try clear ho0)) | ((with_reducible refine gate_dst (N := 9) rfl ?_); refine box_event ?hg (N := 9) ?hd (cs := #[.int .i64 0, .slice none 0 0]) (t := 39) ?hr ?_; (case hd => rfl); (case hg => rfl); (case hr => first | (go_simp; done) | (go_simp; rfl)); intro gb392 hg w137 hbox hb; have n0_ := Aside0.mk (Kd.R_below (ra_ HO380.out) hb); have n1_ := Aside0.mk (Kd.R_below (ra_ HO383.out) hb); have n2_ := Aside0.mk (Kd.S_below (sa_ HO386.out) hb); have n3_ := Aside0.mk (Kd.R_below (ra_ HO391.out) hb); have n4_ := bb_ BK373 hb; have n5_ := Aside0.mk (below_step hb_ hb); have n6_ := Aside0.mk (hbox); have n7_ : Aside0 (w.heap.size ≤ gb392) := gz_; have n8_ : Aside0 (w.heap.size ≤ gb392) := gz_; have n9_ := Aside0.mk ((by rw [hg]; exact Nat.ne_of_lt (blk_lt (g := gb373) (o := .cells #[.int .i64 a0_0, .slice A0_1 l0_1.length c0_1] 34 (0, 0)) (bk_ BK373.out)) : gb373 ≠ gb392)); have n10_ := Aside0.mk ((by rw [hg]; exact Nat.ne_of_gt (blk_lt (g := gb373) (o := .cells #[.int .i64 a0_0, .slice A0_1 l0_1.length c0_1] 34 (0, 0)) (bk_ BK373.out)) : gb392 ≠ gb373)); clear HO380; clear HO383; clear HO386; clear HO391; clear BK373; clear HB; have HO380 := n0_; have HO383 := n1_; have HO386 := n2_; have HO391 := n3_; have BK373 := n4_; have HB := n5_; have BK392 := n6_; have GW392 := n7_; have GE392 := n8_; have NB373_392 := n9_; have NB392_373 := n10_; clear n0_ n1_ n2_ n3_ n4_ n5_ n6_ n7_ n8_ n9_ n10_; clear hb hbox hg; have hnb138 := NB392_373.out; have hnc138 := NB373_392.out; have hcz139_0 : w137.cell? ⟨gb392, 0, none⟩ = some (.int .i64 0) := (blk_cell BK392.out 0).trans rfl; have hcz139_1 : w137.cell? ⟨gb392, 1, none⟩ = some (.slice none 0 0) := (blk_cell BK392.out 1).trans rfl; have hfz139_0 := blk_frozen BK392.out 0; have hfz139_1 := blk_frozen BK392.out 1; obtain ⟨Ao140, co140, eo140⟩ := Kd.R_slice HO391.out; subst eo140) | ((with_reducible refine gate_callee (f := 27) rfl ?_); refine goesL_ (some 38) rfl rfl Try.func27 (by kernel_rfl) rfl #[.slice A1 l1.length c1] rfl ls_ ?_; (with_reducible refine (laws_toTripS.calls k _ _ l1 t393 _ ?side1 ?side2 A24.out).mono ?_); (case side1 => exact Kd.C_below HR1.out hb_); (case side2 => exact HC1.out); rintro e w141 ⟨v394, rfl, ho0, hb⟩; refine ⟨_, rfl, ?_⟩; have n0_ := Aside0.mk (Kd.R_below (by (with_reducible repeat (first | apply Kd.R_alloc | apply Kd.R_drewN | apply Kd.R_drew)); exact (Kd.R_mono (Kd.R_far (p := ⟨gb392, 1, none⟩) (Kd.R_far (p := ⟨gb392, 0, none⟩) (Kd.R_types HO380.out BK392.out (by decide)) (fun _ hk => hk.2) (.int .i64 t388)) (fun _ hk => hk.2) (.slice Ao140 t389.length co140)) (fun _ h_ => h_.1))) hb); have n1_ := Aside0.mk (Kd.R_elder' (by (with_reducible repeat (first | apply Kd.R_alloc | apply Kd.R_drewN | apply Kd.R_drew)); exact (Kd.R_mono (Kd.R_far (p := ⟨gb392, 1, none⟩) (Kd.R_far (p := ⟨gb392, 0, none⟩) (Kd.R_types HO383.out BK392.out (by decide)) (fun _ hk => hk.2) (.int .i64 t388)) (fun _ hk => hk.2) (.slice Ao140 t389.length co140)) (fun _ h_ => h_.1))) (Kd.R_base ho0) hb); have n2_ := Aside0.mk (Kd.S_below (by (with_reducible repeat (first | apply Kd.S_alloc | apply Kd.S_drewN | apply Kd.S_drew)); exact (Kd.S_mono (Kd.S_far (p := ⟨gb392, 1, none⟩) (Kd.S_far (p := ⟨gb392, 0, none⟩) (Kd.S_types HO386.out BK392.out (by decide)) (fun _ hk => hk.2) (.int .i64 t388)) (fun _ hk => hk.2) (.slice Ao140 t389.length co140)) (fun _ h_ => h_.1))) hb); have n3_ := Aside0.mk (Kd.R_below (by (with_reducible repeat (first | apply Kd.R_alloc | apply Kd.R_drewN | apply Kd.R_drew)); exact (Kd.R_mono (Kd.R_far (p := ⟨gb392, 1, none⟩) (Kd.R_far (p := ⟨gb392, 0, none⟩) (Kd.R_types HO391.out BK392.out (by decide)) (fun _ hk => hk.2) (.int .i64 t388)) (fun _ hk => hk.2) (.slice Ao140 t389.length co140)) (fun _ h_ => h_.1))) hb); have n4_ := Aside0.mk (Kd.R_lower (Kd.R_new' ho0 (Kd.R_lt (by (with_reducible repeat (first | apply Kd.R_alloc | apply Kd.R_drewN | apply Kd.R_drew)); exact (Kd.R_mono (Kd.R_far (p := ⟨gb392, 1, none⟩) (Kd.R_far (p := ⟨gb392, 0, none⟩) (Kd.R_types HO383.out BK392.out (by decide)) (fun _ hk => hk.2) (.int .i64 t388)) (fun _ hk => hk.2) (.slice Ao140 t389.length co140)) (fun _ h_ => h_.1))))) (below_size hb_)); have n5_ := Aside0.mk (blk_below (g := gb373) (o := .cells #[.int .i64 a0_0, .slice A0_1 l0_1.length c0_1] 34 (0, 0)) (by (with_reducible repeat (first | refine blk_drewN ?_ _ | refine blk_drew ?_ | refine blk_alloc ?_ _)); refine blk_far ?_ NB373_392.out _; (with_reducible repeat (first | refine blk_drewN ?_ _ | refine blk_drew ?_ | refine blk_alloc ?_ _)); refine blk_far ?_ NB373_392.out _; (with_reducible repeat (first | refine blk_drewN ?_ _ | refine blk_drew ?_ | refine blk_alloc ?_ _)); exact BK373.out) hb); have n6_ := Aside0.mk (blk_below (g := gb392) (o := .cells #[.int .i64 t388, .slice Ao140 t389.length co140] 39 (0, 0)) (by (with_reducible repeat (first | refine blk_drewN ?_ _ | refine blk_drew ?_ | refine blk_alloc ?_ _)); refine blk_put (cs := #[.int .i64 t388, .slice none 0 0]) ?_ 1 _ rfl; (with_reducible repeat (first | refine blk_drewN ?_ _ | refine blk_drew ?_ | refine blk_alloc ?_ _)); refine blk_put (cs := #[.int .i64 0, .slice none 0 0]) ?_ 0 _ rfl; (with_reducible repeat (first | refine blk_drewN ?_ _ | refine blk_drew ?_ | refine blk_alloc ?_ _)); exact BK392.out) hb); have n7_ := Aside0.mk (below_step hb_ hb); clear HO380; clear HO383; clear HO386; clear HO391; clear BK373; clear BK392; clear HB; have HO380 := n0_; have HO383 := n1_; have HO386 := n2_; have HO391 := n3_; have HO395 := n4_; have BK373 := n5_; have BK392 := n6_; have HB := n7_; clear n0_ n1_ n2_ n3_ n4_ n5_ n6_ n7_; (try clear hb); (try clear hb2); (try clear hk); (try clear hi); (try clear ho0)) | ((with_reducible refine gate_callee (f := 20) rfl ?_); refine goesL_ (some 40) rfl rfl Try.func20 (by kernel_rfl) rfl #[.slice A2 l2.length c2] rfl ls_ ?_; (with_reducible refine (laws_toIntSS.calls k _ _ l2 t396 _ ?side1 ?side2 A25.out).mono ?_); (case side1 => exact cb_ HR2.out); (case side2 => exact HC2.out); rintro e w142 ⟨v397, rfl, ho0, hb⟩; refine ⟨_, rfl, ?_⟩; have n0_ := Aside0.mk (Kd.R_below (ra_ HO380.out) hb); have n1_ := Aside0.mk (Kd.R_below (ra_ HO383.out) hb); have n2_ := Aside0.mk (Kd.S_elder' (sa_ HO386.out) (Kd.S_base ho0) hb); have n3_ := Aside0.mk (Kd.R_below (ra_ HO391.out) hb); have n4_ := Aside0.mk (Kd.R_below (ra_ HO395.out) hb); have n5_ := Aside0.mk (Kd.S_lower (Kd.S_new' (Kd.S_new' (Kd.S_new' ho0 (Kd.R_lt (ra_ HO380.out))) (Kd.S_lt (sa_ HO386.out))) (Kd.R_lt (ra_ HO391.out))) (below_size hb_)); have n6_ := bb_ BK373 hb; have n7_ := bb_ BK392 hb; have n8_ := Aside0.mk (below_step hb_ hb); clear HO380; clear HO383; clear HO386; clear HO391; clear HO395; clear BK373; clear BK392; clear HB; have HO380 := n0_; have HO383 := n1_; have HO386 := n2_; have HO391 := n3_; have HO395 := n4_; have HO398 := n5_; have BK373 := n6_; have BK392 := n7_; have HB := n8_; clear n0_ n1_ n2_ n3_ n4_ n5_ n6_ n7_ n8_; (try clear hb); (try clear hb2); (try clear hk); (try clear hi); (try clear ho0); have hcz143_0 : w142.cell? ⟨gb392, 0, none⟩ = some (.int .i64 t388) := (blk_cell BK392.out 0).trans rfl; have hcz143_1 : w142.cell? ⟨gb392, 1, none⟩ = some (.slice Ao140 t389.length co140) := (blk_cell BK392.out 1).trans rfl; have hfz143_0 := blk_frozen BK392.out 0; have hfz143_1 := blk_frozen BK392.out 1; obtain ⟨Ao144, co144, eo144⟩ := Kd.R_slice HO395.out; subst eo144; obtain ⟨Ao145, co145, eo145⟩ := Kd.S_slice HO398.out; subst eo145) | ((with_reducible refine gate_callee (f := 37) rfl ?_); refine goesL_ (some 44) rfl rfl Try.func37 (by kernel_rfl) rfl #[.agg #[.int .i64 t388, .slice Ao140 t389.length co140], .slice Ao144 t393.length co144, .slice Ao145 t396.length co145] rfl ls_ ?_; (with_reducible refine (impl_GoodPaths.calls k t388 _ _ t389 _ _ t393 _ _ t396 t399 _ ?side1 ?side2 ?side3 ?side4 ?side5 ?side6 A26.out).mono ?_); (case side1 => exact ca_ (Kd.R_reads' HO391.out).2.2); (case side2 => exact (Kd.R_reads' HO391.out).2.1); (case side3 => exact ca_ (Kd.R_reads' HO395.out).2.2); (case side4 => exact (Kd.R_reads' HO395.out).2.1); (case side5 => exact ca_ (Kd.S_reads' HO398.out).2.2); (case side6 => exact (Kd.S_reads' HO398.out).2.1); rintro e w146 ⟨rfl, hb⟩; refine ⟨_, rfl, ?_⟩; have n0_ := Aside0.mk (Kd.R_below (ra_ HO380.out) hb); have n1_ := Aside0.mk (Kd.R_below (ra_ HO383.out) hb); have n2_ := Aside0.mk (Kd.S_below (sa_ HO386.out) hb); have n3_ := Aside0.mk (Kd.R_below (ra_ HO391.out) hb); have n4_ := Aside0.mk (Kd.R_below (ra_ HO395.out) hb); have n5_ := Aside0.mk (Kd.S_below (sa_ HO398.out) hb); have n6_ := bb_ BK373 hb; have n7_ := bb_ BK392 hb; have n8_ := Aside0.mk (below_step hb_ hb); clear HO380; clear HO383; clear HO386; clear HO391; clear HO395; clear HO398; clear BK373; clear BK392; clear HB; have HO380 := n0_; have HO383 := n1_; have HO386 := n2_; have HO391 := n3_; have HO395 := n4_; have HO398 := n5_; have BK373 := n6_; have BK392 := n7_; have HB := n8_; clear n0_ n1_ n2_ n3_ n4_ n5_ n6_ n7_ n8_; (try clear hb); (try clear hb2); (try clear hk); (try clear hi)))
        have n0_ := Aside0.mk (Kd.R_drew HO380.out)
        have n1_ := Aside0.mk (Kd.R_drew HO383.out)
        have n2_ := Aside0.mk (Kd.S_drew HO386.out)
        have n3_ := Aside0.mk (Kd.R_drew HO391.out)
        have n4_ := Aside0.mk (Kd.R_drew HO395.out)
        have n5_ := Aside0.mk (Kd.S_drew HO398.out)
        have n6_ := Aside0.mk (blk_drew BK373.out)
        have n7_ := Aside0.mk (blk_drew BK392.out)
        have n8_ := Aside0.mk (below_drew1 HB.out)
        clear HO380
        clear HO383
        clear HO386
        clear HO391
        clear HO395
        clear HO398
        clear BK373
        clear BK392
        clear HB
        have HO380 := n0_
        have HO383 := n1_
        have HO386 := n2_
        have HO391 := n3_
        have HO395 := n4_
        have HO398 := n5_
        have BK373 := n6_
        have BK392 := n7_
        have HB := n8_
        clear n0_ n1_ n2_ n3_ n4_ n5_ n6_ n7_ n8_
        refine start_ (n := 5) (S := fun w' => w'.cell? ⟨gb392, 0, none⟩ = some (.int .i64 t388) ∧ w'.cell? ⟨gb392, 1, none⟩ = some (.slice Ao140 t389.length co140) ∧ w'.cell? ⟨gb373, 0, none⟩ = some (.int .i64 a0_0) ∧ w'.cell? ⟨gb373, 1, none⟩ = some (.slice A0_1 l0_1.length c0_1)) (ds := []) #[false, false, false, false, false] (by kernel_rfl) rfl rfl ⟨(blk_cell BK392.out 0).trans rfl, (blk_cell BK392.out 1).trans rfl, (blk_cell BK373.out 0).trans rfl, (blk_cell BK373.out 1).trans rfl⟩ (fun hHeld => ?_)
        generalize w146.drew = w147 at HO380 HO383 HO386 HO391 HO395 HO398 BK373 BK392 HB hHeld ⊢
        refine take_ (i := 0) (N := some 48) (v := ?_) (a' := ?_) #[true, false, false, false, false] rfl rfl (by kernel_rfl) (fun _ _ _ h => h) (Or.inl ⟨by rfl, ?_⟩) hHeld ?_ ?_
        rotate_left
        ·rintro w' ⟨s0, s1, s2, s3⟩
         go_simp
         with_reducible rfl
        rotate_left
        ·simp only [Act.put, List.setIfInBounds_toArray, List.set_cons_zero, List.set_cons_succ, i64_w, i32_w]
         rfl
        refine take_ (i := 1) (N := some 49) (v := ?_) (a' := ?_) #[true, true, false, false, false] rfl rfl (by kernel_rfl) (fun _ _ _ h => h) (Or.inl ⟨by rfl, ?_⟩) hHeld ?_ ?_
        rotate_left
        ·rintro w' ⟨s0, s1, s2, s3⟩
         go_simp
         with_reducible rfl
        rotate_left
        ·simp only [Act.put, List.setIfInBounds_toArray, List.set_cons_zero, List.set_cons_succ, i64_w, i32_w]
         rfl
        refine one_ (i := 2) (N := some 50) #[true, true, true, false, false] rfl rfl (by kernel_rfl) (by decide) (fun K hK => ?_)
        refine goes_ Try.func26 (by kernel_rfl) rfl #[.agg #[.int .i64 a0_0, .slice A0_1 l0_1.length c0_1]] (by rfl) rfl rfl ls_ ?_
        with_reducible refine (laws_toCells.calls k a0_0 _ _ l0_1 t400 t401 _ ?side1 ?side2 A51.out).mono ?_
        (case side1 => exact cb_ HR0_1.out)
        (case side2 => exact HC0_1.out)
        rintro e w148 ⟨v402, rfl, ho0, hb⟩
        refine ⟨_, rfl, ?_⟩
        have n0_ := Aside0.mk (Kd.R_elder' (ra_ HO380.out) (Kd.R_base ho0) hb)
        have n1_ := Aside0.mk (Kd.R_below (ra_ HO383.out) hb)
        have n2_ := Aside0.mk (Kd.S_elder' (sa_ HO386.out) (Kd.R_base ho0) hb)
        have n3_ := Aside0.mk (Kd.R_elder' (ra_ HO391.out) (Kd.R_base ho0) hb)
        have n4_ := Aside0.mk (Kd.R_below (ra_ HO395.out) hb)
        have n5_ := Aside0.mk (Kd.S_elder' (sa_ HO398.out) (Kd.R_base ho0) hb)
        have n6_ := Aside0.mk (Kd.R_lower (Kd.R_new' (Kd.R_new' ho0 (Kd.R_lt (ra_ HO380.out))) (Kd.R_lt (ra_ HO391.out))) (below_size hb_))
        have n7_ := bb_ BK373 hb
        have n8_ := bb_ BK392 hb
        have n9_ := Aside0.mk (below_step hb_ hb)
        clear HO380
        clear HO383
        clear HO386
        clear HO391
        clear HO395
        clear HO398
        clear BK373
        clear BK392
        clear HB
        have HO380 := n0_
        have HO383 := n1_
        have HO386 := n2_
        have HO391 := n3_
        have HO395 := n4_
        have HO398 := n5_
        have HO403 := n6_
        have BK373 := n7_
        have BK392 := n8_
        have HB := n9_
        clear n0_ n1_ n2_ n3_ n4_ n5_ n6_ n7_ n8_ n9_
        (try clear hb)
        (try clear hb2)
        (try clear hk)
        (try clear hi)
        (try clear ho0)
        obtain ⟨Ao149, co149, eo149⟩ := Kd.R_slice HO403.out
        (first | subst eo149 | (injection eo149 with f1_ f2_ f3_; have f4_ := f1_.symm; have f5_ := f3_.symm; clear f1_ f2_ f3_; subst f4_; subst f5_))
        refine hK.out _ _ ⟨(blk_cell BK392.out 0).trans rfl, (blk_cell BK392.out 1).trans rfl, (blk_cell BK373.out 0).trans rfl, (blk_cell BK373.out 1).trans rfl⟩ (fun hHeld => ?_)
        clear hK K
        refine norm_ (a' := ?_) ?_ ?_
        rotate_left
        ·show Act.put _ (some 50) _ = _
         simp only [Act.put, List.setIfInBounds_toArray, List.set_cons_zero, List.set_cons_succ, i64_w, i32_w]
         rfl
        refine one_ (i := 3) (N := some 51) #[true, true, true, true, false] rfl rfl (by kernel_rfl) (by decide) (fun K hK => ?_)
        refine goes_ Try.func29 (by kernel_rfl) rfl #[.agg #[.int .i64 t388, .slice Ao140 t389.length co140], .agg #[.int .i64 t400, .slice Ao149 t401.length co149]] (by rfl) rfl rfl ls_ ?_
        with_reducible refine (laws_eqCells.calls k t388 _ _ t389 t400 _ _ t401 true _ ?side1 ?side2 ?side3 ?side4 A52.out).mono ?_
        (case side1 => exact ca_ (Kd.R_reads' HO391.out).2.2)
        (case side2 => exact (Kd.R_reads' HO391.out).2.1)
        (case side3 => exact ca_ (Kd.R_reads' HO403.out).2.2)
        (case side4 => exact (Kd.R_reads' HO403.out).2.1)
        rintro e w150 ⟨rfl, hb⟩
        refine ⟨_, rfl, ?_⟩
        have n0_ := Aside0.mk (Kd.R_below (ra_ HO380.out) hb)
        have n1_ := Aside0.mk (Kd.R_below (ra_ HO383.out) hb)
        have n2_ := Aside0.mk (Kd.S_below (sa_ HO386.out) hb)
        have n3_ := Aside0.mk (Kd.R_below (ra_ HO391.out) hb)
        have n4_ := Aside0.mk (Kd.R_below (ra_ HO395.out) hb)
        have n5_ := Aside0.mk (Kd.S_below (sa_ HO398.out) hb)
        have n6_ := Aside0.mk (Kd.R_below (ra_ HO403.out) hb)
        have n7_ := bb_ BK373 hb
        have n8_ := bb_ BK392 hb
        have n9_ := Aside0.mk (below_step hb_ hb)
        clear HO380
        clear HO383
        clear HO386
        clear HO391
        clear HO395
        clear HO398
        clear HO403
        clear BK373
        clear BK392
        clear HB
        have HO380 := n0_
        have HO383 := n1_
        have HO386 := n2_
        have HO391 := n3_
        have HO395 := n4_
        have HO398 := n5_
        have HO403 := n6_
        have BK373 := n7_
        have BK392 := n8_
        have HB := n9_
        clear n0_ n1_ n2_ n3_ n4_ n5_ n6_ n7_ n8_ n9_
        (try clear hb)
        (try clear hb2)
        (try clear hk)
        (try clear hi)
        refine hK.out _ _ ⟨(blk_cell BK392.out 0).trans rfl, (blk_cell BK392.out 1).trans rfl, (blk_cell BK373.out 0).trans rfl, (blk_cell BK373.out 1).trans rfl⟩ (fun hHeld => ?_)
        clear hK K
        refine norm_ (a' := ?_) ?_ ?_
        rotate_left
        ·show Act.put _ (some 51) _ = _
         simp only [Act.put, List.setIfInBounds_toArray, List.set_cons_zero, List.set_cons_succ, i64_w, i32_w]
         rfl
        refine pure_ (i := 4) (N := some 52) (v := ?_) (a' := ?_) #[true, true, true, true, true] rfl rfl (by kernel_rfl) (fun _ _ _ h => h) (Or.inl ⟨by rfl, ?_⟩) ?_ ?_
        rotate_left
        ·intro w'
         go_simp
         with_reducible rfl
        rotate_left
        ·simp only [Act.put, List.setIfInBounds_toArray, List.set_cons_zero, List.set_cons_succ, i64_w, i32_w]
         rfl
        refine done_ (by kernel_rfl) ?_
        try go_wp2_with (first | ((with_reducible refine gate_callee (f := 27) rfl ?_); refine goesL_ (some 55) rfl rfl Try.func27 (by kernel_rfl) rfl #[.slice A1 l1.length c1] rfl ls_ ?_; (with_reducible refine (laws_toTripS.calls k _ _ l1 t405 _ ?side1 ?side2 A54.out).mono ?_); (case side1 => exact cb_ HR1.out); (case side2 => exact HC1.out); rintro e w151 ⟨v406, rfl, ho0, hb⟩; refine ⟨_, rfl, ?_⟩; have n0_ := Aside0.mk (Kd.R_below (ra_ HO380.out) hb); have n1_ := Aside0.mk (Kd.R_elder' (ra_ HO383.out) (Kd.R_base ho0) hb); have n2_ := Aside0.mk (Kd.S_below (sa_ HO386.out) hb); have n3_ := Aside0.mk (Kd.R_below (ra_ HO391.out) hb); have n4_ := Aside0.mk (Kd.R_elder' (ra_ HO395.out) (Kd.R_base ho0) hb); have n5_ := Aside0.mk (Kd.S_below (sa_ HO398.out) hb); have n6_ := Aside0.mk (Kd.R_below (ra_ HO403.out) hb); have n7_ := Aside0.mk (Kd.R_lower (Kd.R_new' (Kd.R_new' ho0 (Kd.R_lt (ra_ HO383.out))) (Kd.R_lt (ra_ HO395.out))) (below_size hb_)); have n8_ := bb_ BK373 hb; have n9_ := bb_ BK392 hb; have n10_ := Aside0.mk (below_step hb_ hb); clear HO380; clear HO383; clear HO386; clear HO391; clear HO395; clear HO398; clear HO403; clear BK373; clear BK392; clear HB; have HO380 := n0_; have HO383 := n1_; have HO386 := n2_; have HO391 := n3_; have HO395 := n4_; have HO398 := n5_; have HO403 := n6_; have HO407 := n7_; have BK373 := n8_; have BK392 := n9_; have HB := n10_; clear n0_ n1_ n2_ n3_ n4_ n5_ n6_ n7_ n8_ n9_ n10_; (try clear hb); (try clear hb2); (try clear hk); (try clear hi); (try clear ho0); obtain ⟨Ao152, co152, eo152⟩ := Kd.R_slice HO407.out; subst eo152) | ((with_reducible refine gate_callee (f := 30) rfl ?_); refine goesL_ (some 56) rfl rfl Try.func30 (by kernel_rfl) rfl #[.slice Ao144 t393.length co144, .slice Ao152 t405.length co152] rfl ls_ ?_; (with_reducible refine (laws_eqTripS.calls k _ _ t393 _ _ t405 false _ ?side1 ?side2 ?side3 ?side4 A55.out).mono ?_); (case side1 => exact ca_ (Kd.R_reads' HO395.out).2.2); (case side2 => exact (Kd.R_reads' HO395.out).2.1); (case side3 => exact ca_ (Kd.R_reads' HO407.out).2.2); (case side4 => exact (Kd.R_reads' HO407.out).2.1); rintro e w153 ⟨rfl, hb⟩; refine ⟨_, rfl, ?_⟩; have n0_ := Aside0.mk (Kd.R_below (ra_ HO380.out) hb); have n1_ := Aside0.mk (Kd.R_below (ra_ HO383.out) hb); have n2_ := Aside0.mk (Kd.S_below (sa_ HO386.out) hb); have n3_ := Aside0.mk (Kd.R_below (ra_ HO391.out) hb); have n4_ := Aside0.mk (Kd.R_below (ra_ HO395.out) hb); have n5_ := Aside0.mk (Kd.S_below (sa_ HO398.out) hb); have n6_ := Aside0.mk (Kd.R_below (ra_ HO403.out) hb); have n7_ := Aside0.mk (Kd.R_below (ra_ HO407.out) hb); have n8_ := bb_ BK373 hb; have n9_ := bb_ BK392 hb; have n10_ := Aside0.mk (below_step hb_ hb); clear HO380; clear HO383; clear HO386; clear HO391; clear HO395; clear HO398; clear HO403; clear HO407; clear BK373; clear BK392; clear HB; have HO380 := n0_; have HO383 := n1_; have HO386 := n2_; have HO391 := n3_; have HO395 := n4_; have HO398 := n5_; have HO403 := n6_; have HO407 := n7_; have BK373 := n8_; have BK392 := n9_; have HB := n10_; clear n0_ n1_ n2_ n3_ n4_ n5_ n6_ n7_ n8_ n9_ n10_; (try clear hb); (try clear hb2); (try clear hk); (try clear hi)))
        go_ret
        exact ⟨er_, hb_⟩
      ·replace c53 := Bool.eq_false_iff.mpr c53
       subst c53
       rw [if_neg (show ¬ (false = true) by decide)] at H
       obtain rfl := Option.some.inj H
       go_enter Try.func8, Try.ntmps8
       try go_wp2_with (first | ((with_reducible refine gate_dst (N := 3) rfl ?_); refine box_event ?hg (N := 3) ?hd (cs := #[.int .i64 a0_0, .slice A0_1 l0_1.length c0_1]) (t := 34) ?hr ?_; (case hd => rfl); (case hg => rfl); (case hr => first | (go_simp; done) | (go_simp; rfl)); intro gb373 hg w154 hbox hb; have n0_ := Aside0.mk (below_step hb_ hb); have n1_ := Aside0.mk (hbox); have n2_ : Aside0 (w.heap.size ≤ gb373) := gz_; have n3_ : Aside0 (w.heap.size ≤ gb373) := gz_; clear HB; have HB := n0_; have BK373 := n1_; have GW373 := n2_; have GE373 := n3_; clear n0_ n1_ n2_ n3_; clear hb hbox hg; have hcz155_0 : w154.cell? ⟨gb373, 0, none⟩ = some (.int .i64 a0_0) := (blk_cell BK373.out 0).trans rfl; have hcz155_1 : w154.cell? ⟨gb373, 1, none⟩ = some (.slice A0_1 l0_1.length c0_1) := (blk_cell BK373.out 1).trans rfl; have hfz155_0 := blk_frozen BK373.out 0; have hfz155_1 := blk_frozen BK373.out 1) | ((with_reducible refine gate_callee (f := 23) rfl ?_); refine goesL_ (some 15) rfl rfl Try.func23 (by kernel_rfl) rfl #[.agg #[.int .i64 a0_0, .slice A0_1 l0_1.length c0_1], .int .i64 1048576] rfl ls_ ?_; (with_reducible refine (laws_szCells.calls a0_0 _ _ l0_1 1048576 t374 _ ?side1 ?side2 A4.out).mono ?_); (case side1 => exact cb_ HR0_1.out); (case side2 => exact HC0_1.out); rintro e w156 ⟨rfl, hb⟩; refine ⟨_, rfl, ?_⟩; have n0_ := bb_ BK373 hb; have n1_ := Aside0.mk (below_step hb_ hb); clear BK373; clear HB; have BK373 := n0_; have HB := n1_; clear n0_ n1_; (try clear hb); (try clear hb2); (try clear hk); (try clear hi)) | ((with_reducible refine gate_callee (f := 24) rfl ?_); refine goesL_ (some 20) rfl rfl Try.func24 (by kernel_rfl) rfl #[.slice A1 l1.length c1, .int .i64 t374] rfl ls_ ?_; (with_reducible refine (laws_szTripS.calls _ _ l1 t374 t375 _ ?side1 ?side2 A9.out).mono ?_); (case side1 => exact cb_ HR1.out); (case side2 => exact HC1.out); rintro e w' ⟨rfl, ⟨nd, rfl⟩⟩; refine ⟨_, rfl, ?_⟩; (try (rw [drewN_self w156]; generalize hq_ : World.drewN w156 _ = w156; have n0_ : Aside0 (w156.heap[gb373]? = some (.cells #[.int .i64 a0_0, .slice A0_1 l0_1.length c0_1] 34 (0, 0))) := ⟨by rw [← hq_]; exact (bk_ BK373.out)⟩; have n1_ : Aside0 (Below w.heap.size w w156) := ⟨by rw [← hq_]; exact hb_⟩; clear BK373 HB hq_; have BK373 := n0_; have HB := n1_; clear n0_ n1_))) | ((with_reducible refine gate_callee (f := 18) rfl ?_); refine goesL_ (some 25) rfl rfl Try.func18 (by kernel_rfl) rfl #[.slice A2 l2.length c2, .int .i64 t375] rfl ls_ ?_; (with_reducible refine (laws_szIntSS.calls k _ _ l2 t375 t376 _ ?side1 ?side2 A14.out).mono ?_); (case side1 => exact cb_ HR2.out); (case side2 => exact HC2.out); rintro e w' ⟨rfl, ⟨nd, rfl⟩⟩; refine ⟨_, rfl, ?_⟩; (try (rw [drewN_self w156]; generalize hq_ : World.drewN w156 _ = w156; have n0_ : Aside0 (w156.heap[gb373]? = some (.cells #[.int .i64 a0_0, .slice A0_1 l0_1.length c0_1] 34 (0, 0))) := ⟨by rw [← hq_]; exact (bk_ BK373.out)⟩; have n1_ : Aside0 (Below w.heap.size w w156) := ⟨by rw [← hq_]; exact hb_⟩; clear BK373 HB hq_; have BK373 := n0_; have HB := n1_; clear n0_ n1_)); have hcz157_0 : w156.cell? ⟨gb373, 0, none⟩ = some (.int .i64 a0_0) := (blk_cell BK373.out 0).trans rfl; have hcz157_1 : w156.cell? ⟨gb373, 1, none⟩ = some (.slice A0_1 l0_1.length c0_1) := (blk_cell BK373.out 1).trans rfl; have hfz157_0 := blk_frozen BK373.out 0; have hfz157_1 := blk_frozen BK373.out 1) | ((with_reducible refine gate_callee (f := 26) rfl ?_); refine goesL_ (some 29) rfl rfl Try.func26 (by kernel_rfl) rfl #[.agg #[.int .i64 a0_0, .slice A0_1 l0_1.length c0_1]] rfl ls_ ?_; (with_reducible refine (laws_toCells.calls k a0_0 _ _ l0_1 t377 t378 _ ?side1 ?side2 A19.out).mono ?_); (case side1 => exact cb_ HR0_1.out); (case side2 => exact HC0_1.out); rintro e w158 ⟨v379, rfl, ho0, hb⟩; refine ⟨_, rfl, ?_⟩; have n0_ := Aside0.mk (Kd.R_lower ho0 (below_size hb_)); have n1_ := bb_ BK373 hb; have n2_ := Aside0.mk (below_step hb_ hb); clear BK373; clear HB; have HO380 := n0_; have BK373 := n1_; have HB := n2_; clear n0_ n1_ n2_; (try clear hb); (try clear hb2); (try clear hk); (try clear hi); (try clear ho0)) | ((with_reducible refine gate_callee (f := 27) rfl ?_); refine goesL_ (some 31) rfl rfl Try.func27 (by kernel_rfl) rfl #[.slice A1 l1.length c1] rfl ls_ ?_; (with_reducible refine (laws_toTripS.calls k _ _ l1 t381 _ ?side1 ?side2 A20.out).mono ?_); (case side1 => exact cb_ HR1.out); (case side2 => exact HC1.out); rintro e w159 ⟨v382, rfl, ho0, hb⟩; refine ⟨_, rfl, ?_⟩; have n0_ := Aside0.mk (Kd.R_below (ra_ HO380.out) hb); have n1_ := Aside0.mk (Kd.R_lower ho0 (below_size hb_)); have n2_ := bb_ BK373 hb; have n3_ := Aside0.mk (below_step hb_ hb); clear HO380; clear BK373; clear HB; have HO380 := n0_; have HO383 := n1_; have BK373 := n2_; have HB := n3_; clear n0_ n1_ n2_ n3_; (try clear hb); (try clear hb2); (try clear hk); (try clear hi); (try clear ho0)) | ((with_reducible refine gate_callee (f := 20) rfl ?_); refine goesL_ (some 33) rfl rfl Try.func20 (by kernel_rfl) rfl #[.slice A2 l2.length c2] rfl ls_ ?_; (with_reducible refine (laws_toIntSS.calls k _ _ l2 t384 _ ?side1 ?side2 A21.out).mono ?_); (case side1 => exact cb_ HR2.out); (case side2 => exact HC2.out); rintro e w160 ⟨v385, rfl, ho0, hb⟩; refine ⟨_, rfl, ?_⟩; have n0_ := Aside0.mk (Kd.R_below (ra_ HO380.out) hb); have n1_ := Aside0.mk (Kd.R_below (ra_ HO383.out) hb); have n2_ := Aside0.mk (Kd.S_lower (Kd.S_new' ho0 (Kd.R_lt (ra_ HO380.out))) (below_size hb_)); have n3_ := bb_ BK373 hb; have n4_ := Aside0.mk (below_step hb_ hb); clear HO380; clear HO383; clear BK373; clear HB; have HO380 := n0_; have HO383 := n1_; have HO386 := n2_; have BK373 := n3_; have HB := n4_; clear n0_ n1_ n2_ n3_ n4_; (try clear hb); (try clear hb2); (try clear hk); (try clear hi); (try clear ho0); obtain ⟨Ao161, co161, eo161⟩ := Kd.R_slice HO380.out; subst eo161; obtain ⟨Ao162, co162, eo162⟩ := Kd.R_slice HO383.out; subst eo162; obtain ⟨Ao163, co163, eo163⟩ := Kd.S_slice HO386.out; subst eo163) | ((with_reducible refine gate_callee (f := 36) rfl ?_); refine goesL_ (some 34) rfl rfl Try.func36 (by kernel_rfl) rfl #[.agg #[.int .i64 t377, .slice Ao161 t378.length co161], .slice Ao162 t381.length co162, .slice Ao163 t384.length co163] rfl ls_ ?_; (with_reducible refine (spec_GoodPaths.calls k t377 _ _ t378 _ _ t381 _ _ t384 t387 _ ?side1 ?side2 ?side3 ?side4 ?side5 ?side6 A22.out).mono ?_); (case side1 => exact ca_ (Kd.R_reads' HO380.out).2.2); (case side2 => exact (Kd.R_reads' HO380.out).2.1); (case side3 => exact ca_ (Kd.R_reads' HO383.out).2.2); (case side4 => exact (Kd.R_reads' HO383.out).2.1); (case side5 => exact ca_ (Kd.S_reads' HO386.out).2.2); (case side6 => exact (Kd.S_reads' HO386.out).2.1); rintro e w164 ⟨rfl, hb⟩; refine ⟨_, rfl, ?_⟩; have n0_ := Aside0.mk (Kd.R_below (ra_ HO380.out) hb); have n1_ := Aside0.mk (Kd.R_below (ra_ HO383.out) hb); have n2_ := Aside0.mk (Kd.S_below (sa_ HO386.out) hb); have n3_ := bb_ BK373 hb; have n4_ := Aside0.mk (below_step hb_ hb); clear HO380; clear HO383; clear HO386; clear BK373; clear HB; have HO380 := n0_; have HO383 := n1_; have HO386 := n2_; have BK373 := n3_; have HB := n4_; clear n0_ n1_ n2_ n3_ n4_; (try clear hb); (try clear hb2); (try clear hk); (try clear hi); have hcz165_0 : w164.cell? ⟨gb373, 0, none⟩ = some (.int .i64 a0_0) := (blk_cell BK373.out 0).trans rfl; have hcz165_1 : w164.cell? ⟨gb373, 1, none⟩ = some (.slice A0_1 l0_1.length c0_1) := (blk_cell BK373.out 1).trans rfl; have hfz165_0 := blk_frozen BK373.out 0; have hfz165_1 := blk_frozen BK373.out 1) | ((with_reducible refine gate_callee (f := 26) rfl ?_); refine goesL_ (some 36) rfl rfl Try.func26 (by kernel_rfl) rfl #[.agg #[.int .i64 a0_0, .slice A0_1 l0_1.length c0_1]] rfl ls_ ?_; (with_reducible refine (laws_toCells.calls k a0_0 _ _ l0_1 t388 t389 _ ?side1 ?side2 A23.out).mono ?_); (case side1 => exact cb_ HR0_1.out); (case side2 => exact HC0_1.out); rintro e w166 ⟨v390, rfl, ho0, hb⟩; refine ⟨_, rfl, ?_⟩; have n0_ := Aside0.mk (Kd.R_elder' (ra_ HO380.out) (Kd.R_base ho0) hb); have n1_ := Aside0.mk (Kd.R_below (ra_ HO383.out) hb); have n2_ := Aside0.mk (Kd.S_elder' (sa_ HO386.out) (Kd.R_base ho0) hb); have n3_ := Aside0.mk (Kd.R_lower (Kd.R_new' ho0 (Kd.R_lt (ra_ HO380.out))) (below_size hb_)); have n4_ := bb_ BK373 hb; have n5_ := Aside0.mk (below_step hb_ hb); clear HO380; clear HO383; clear HO386; clear BK373; clear HB; have HO380 := n0_; have HO383 := n1_; have HO386 := n2_; have HO391 := n3_; have BK373 := n4_; have HB := n5_; clear n0_ n1_ n2_ n3_ n4_ n5_; (try clear hb); (try clear hb2); (try clear hk); (try clear hi); (try clear ho0)) | ((with_reducible refine gate_dst (N := 9) rfl ?_); refine box_event ?hg (N := 9) ?hd (cs := #[.int .i64 0, .slice none 0 0]) (t := 39) ?hr ?_; (case hd => rfl); (case hg => rfl); (case hr => first | (go_simp; done) | (go_simp; rfl)); intro gb392 hg w167 hbox hb; have n0_ := Aside0.mk (Kd.R_below (ra_ HO380.out) hb); have n1_ := Aside0.mk (Kd.R_below (ra_ HO383.out) hb); have n2_ := Aside0.mk (Kd.S_below (sa_ HO386.out) hb); have n3_ := Aside0.mk (Kd.R_below (ra_ HO391.out) hb); have n4_ := bb_ BK373 hb; have n5_ := Aside0.mk (below_step hb_ hb); have n6_ := Aside0.mk (hbox); have n7_ : Aside0 (w.heap.size ≤ gb392) := gz_; have n8_ : Aside0 (w.heap.size ≤ gb392) := gz_; have n9_ := Aside0.mk ((by rw [hg]; exact Nat.ne_of_lt (blk_lt (g := gb373) (o := .cells #[.int .i64 a0_0, .slice A0_1 l0_1.length c0_1] 34 (0, 0)) (bk_ BK373.out)) : gb373 ≠ gb392)); have n10_ := Aside0.mk ((by rw [hg]; exact Nat.ne_of_gt (blk_lt (g := gb373) (o := .cells #[.int .i64 a0_0, .slice A0_1 l0_1.length c0_1] 34 (0, 0)) (bk_ BK373.out)) : gb392 ≠ gb373)); clear HO380; clear HO383; clear HO386; clear HO391; clear BK373; clear HB; have HO380 := n0_; have HO383 := n1_; have HO386 := n2_; have HO391 := n3_; have BK373 := n4_; have HB := n5_; have BK392 := n6_; have GW392 := n7_; have GE392 := n8_; have NB373_392 := n9_; have NB392_373 := n10_; clear n0_ n1_ n2_ n3_ n4_ n5_ n6_ n7_ n8_ n9_ n10_; clear hb hbox hg; have hnb168 := NB392_373.out; have hnc168 := NB373_392.out; have hcz169_0 : w167.cell? ⟨gb392, 0, none⟩ = some (.int .i64 0) := (blk_cell BK392.out 0).trans rfl; have hcz169_1 : w167.cell? ⟨gb392, 1, none⟩ = some (.slice none 0 0) := (blk_cell BK392.out 1).trans rfl; have hfz169_0 := blk_frozen BK392.out 0; have hfz169_1 := blk_frozen BK392.out 1; obtain ⟨Ao170, co170, eo170⟩ := Kd.R_slice HO391.out; subst eo170) | ((with_reducible refine gate_callee (f := 27) rfl ?_); refine goesL_ (some 38) rfl rfl Try.func27 (by kernel_rfl) rfl #[.slice A1 l1.length c1] rfl ls_ ?_; (with_reducible refine (laws_toTripS.calls k _ _ l1 t393 _ ?side1 ?side2 A24.out).mono ?_); (case side1 => exact Kd.C_below HR1.out hb_); (case side2 => exact HC1.out); rintro e w171 ⟨v394, rfl, ho0, hb⟩; refine ⟨_, rfl, ?_⟩; have n0_ := Aside0.mk (Kd.R_below (by (with_reducible repeat (first | apply Kd.R_alloc | apply Kd.R_drewN | apply Kd.R_drew)); exact (Kd.R_mono (Kd.R_far (p := ⟨gb392, 1, none⟩) (Kd.R_far (p := ⟨gb392, 0, none⟩) (Kd.R_types HO380.out BK392.out (by decide)) (fun _ hk => hk.2) (.int .i64 t388)) (fun _ hk => hk.2) (.slice Ao170 t389.length co170)) (fun _ h_ => h_.1))) hb); have n1_ := Aside0.mk (Kd.R_elder' (by (with_reducible repeat (first | apply Kd.R_alloc | apply Kd.R_drewN | apply Kd.R_drew)); exact (Kd.R_mono (Kd.R_far (p := ⟨gb392, 1, none⟩) (Kd.R_far (p := ⟨gb392, 0, none⟩) (Kd.R_types HO383.out BK392.out (by decide)) (fun _ hk => hk.2) (.int .i64 t388)) (fun _ hk => hk.2) (.slice Ao170 t389.length co170)) (fun _ h_ => h_.1))) (Kd.R_base ho0) hb); have n2_ := Aside0.mk (Kd.S_below (by (with_reducible repeat (first | apply Kd.S_alloc | apply Kd.S_drewN | apply Kd.S_drew)); exact (Kd.S_mono (Kd.S_far (p := ⟨gb392, 1, none⟩) (Kd.S_far (p := ⟨gb392, 0, none⟩) (Kd.S_types HO386.out BK392.out (by decide)) (fun _ hk => hk.2) (.int .i64 t388)) (fun _ hk => hk.2) (.slice Ao170 t389.length co170)) (fun _ h_ => h_.1))) hb); have n3_ := Aside0.mk (Kd.R_below (by (with_reducible repeat (first | apply Kd.R_alloc | apply Kd.R_drewN | apply Kd.R_drew)); exact (Kd.R_mono (Kd.R_far (p := ⟨gb392, 1, none⟩) (Kd.R_far (p := ⟨gb392, 0, none⟩) (Kd.R_types HO391.out BK392.out (by decide)) (fun _ hk => hk.2) (.int .i64 t388)) (fun _ hk => hk.2) (.slice Ao170 t389.length co170)) (fun _ h_ => h_.1))) hb); have n4_ := Aside0.mk (Kd.R_lower (Kd.R_new' ho0 (Kd.R_lt (by (with_reducible repeat (first | apply Kd.R_alloc | apply Kd.R_drewN | apply Kd.R_drew)); exact (Kd.R_mono (Kd.R_far (p := ⟨gb392, 1, none⟩) (Kd.R_far (p := ⟨gb392, 0, none⟩) (Kd.R_types HO383.out BK392.out (by decide)) (fun _ hk => hk.2) (.int .i64 t388)) (fun _ hk => hk.2) (.slice Ao170 t389.length co170)) (fun _ h_ => h_.1))))) (below_size hb_)); have n5_ := Aside0.mk (blk_below (g := gb373) (o := .cells #[.int .i64 a0_0, .slice A0_1 l0_1.length c0_1] 34 (0, 0)) (by (with_reducible repeat (first | refine blk_drewN ?_ _ | refine blk_drew ?_ | refine blk_alloc ?_ _)); refine blk_far ?_ NB373_392.out _; (with_reducible repeat (first | refine blk_drewN ?_ _ | refine blk_drew ?_ | refine blk_alloc ?_ _)); refine blk_far ?_ NB373_392.out _; (with_reducible repeat (first | refine blk_drewN ?_ _ | refine blk_drew ?_ | refine blk_alloc ?_ _)); exact BK373.out) hb); have n6_ := Aside0.mk (blk_below (g := gb392) (o := .cells #[.int .i64 t388, .slice Ao170 t389.length co170] 39 (0, 0)) (by (with_reducible repeat (first | refine blk_drewN ?_ _ | refine blk_drew ?_ | refine blk_alloc ?_ _)); refine blk_put (cs := #[.int .i64 t388, .slice none 0 0]) ?_ 1 _ rfl; (with_reducible repeat (first | refine blk_drewN ?_ _ | refine blk_drew ?_ | refine blk_alloc ?_ _)); refine blk_put (cs := #[.int .i64 0, .slice none 0 0]) ?_ 0 _ rfl; (with_reducible repeat (first | refine blk_drewN ?_ _ | refine blk_drew ?_ | refine blk_alloc ?_ _)); exact BK392.out) hb); have n7_ := Aside0.mk (below_step hb_ hb); clear HO380; clear HO383; clear HO386; clear HO391; clear BK373; clear BK392; clear HB; have HO380 := n0_; have HO383 := n1_; have HO386 := n2_; have HO391 := n3_; have HO395 := n4_; have BK373 := n5_; have BK392 := n6_; have HB := n7_; clear n0_ n1_ n2_ n3_ n4_ n5_ n6_ n7_; (try clear hb); (try clear hb2); (try clear hk); (try clear hi); (try clear ho0)) | ((with_reducible refine gate_callee (f := 20) rfl ?_); refine goesL_ (some 40) rfl rfl Try.func20 (by kernel_rfl) rfl #[.slice A2 l2.length c2] rfl ls_ ?_; (with_reducible refine (laws_toIntSS.calls k _ _ l2 t396 _ ?side1 ?side2 A25.out).mono ?_); (case side1 => exact cb_ HR2.out); (case side2 => exact HC2.out); rintro e w172 ⟨v397, rfl, ho0, hb⟩; refine ⟨_, rfl, ?_⟩; have n0_ := Aside0.mk (Kd.R_below (ra_ HO380.out) hb); have n1_ := Aside0.mk (Kd.R_below (ra_ HO383.out) hb); have n2_ := Aside0.mk (Kd.S_elder' (sa_ HO386.out) (Kd.S_base ho0) hb); have n3_ := Aside0.mk (Kd.R_below (ra_ HO391.out) hb); have n4_ := Aside0.mk (Kd.R_below (ra_ HO395.out) hb); have n5_ := Aside0.mk (Kd.S_lower (Kd.S_new' (Kd.S_new' (Kd.S_new' ho0 (Kd.R_lt (ra_ HO380.out))) (Kd.S_lt (sa_ HO386.out))) (Kd.R_lt (ra_ HO391.out))) (below_size hb_)); have n6_ := bb_ BK373 hb; have n7_ := bb_ BK392 hb; have n8_ := Aside0.mk (below_step hb_ hb); clear HO380; clear HO383; clear HO386; clear HO391; clear HO395; clear BK373; clear BK392; clear HB; have HO380 := n0_; have HO383 := n1_; have HO386 := n2_; have HO391 := n3_; have HO395 := n4_; have HO398 := n5_; have BK373 := n6_; have BK392 := n7_; have HB := n8_; clear n0_ n1_ n2_ n3_ n4_ n5_ n6_ n7_ n8_; (try clear hb); (try clear hb2); (try clear hk); (try clear hi); (try clear ho0); have hcz173_0 : w172.cell? ⟨gb392, 0, none⟩ = some (.int .i64 t388) := (blk_cell BK392.out 0).trans rfl; have hcz173_1 : w172.cell? ⟨gb392, 1, none⟩ = some (.slice Ao170 t389.length co170) := (blk_cell BK392.out 1).trans rfl; have hfz173_0 := blk_frozen BK392.out 0; have hfz173_1 := blk_frozen BK392.out 1; obtain ⟨Ao174, co174, eo174⟩ := Kd.R_slice HO395.out; subst eo174; obtain ⟨Ao175, co175, eo175⟩ := Kd.S_slice HO398.out; subst eo175) | ((with_reducible refine gate_callee (f := 37) rfl ?_); refine goesL_ (some 44) rfl rfl Try.func37 (by kernel_rfl) rfl #[.agg #[.int .i64 t388, .slice Ao170 t389.length co170], .slice Ao174 t393.length co174, .slice Ao175 t396.length co175] rfl ls_ ?_; (with_reducible refine (impl_GoodPaths.calls k t388 _ _ t389 _ _ t393 _ _ t396 t399 _ ?side1 ?side2 ?side3 ?side4 ?side5 ?side6 A26.out).mono ?_); (case side1 => exact ca_ (Kd.R_reads' HO391.out).2.2); (case side2 => exact (Kd.R_reads' HO391.out).2.1); (case side3 => exact ca_ (Kd.R_reads' HO395.out).2.2); (case side4 => exact (Kd.R_reads' HO395.out).2.1); (case side5 => exact ca_ (Kd.S_reads' HO398.out).2.2); (case side6 => exact (Kd.S_reads' HO398.out).2.1); rintro e w176 ⟨rfl, hb⟩; refine ⟨_, rfl, ?_⟩; have n0_ := Aside0.mk (Kd.R_below (ra_ HO380.out) hb); have n1_ := Aside0.mk (Kd.R_below (ra_ HO383.out) hb); have n2_ := Aside0.mk (Kd.S_below (sa_ HO386.out) hb); have n3_ := Aside0.mk (Kd.R_below (ra_ HO391.out) hb); have n4_ := Aside0.mk (Kd.R_below (ra_ HO395.out) hb); have n5_ := Aside0.mk (Kd.S_below (sa_ HO398.out) hb); have n6_ := bb_ BK373 hb; have n7_ := bb_ BK392 hb; have n8_ := Aside0.mk (below_step hb_ hb); clear HO380; clear HO383; clear HO386; clear HO391; clear HO395; clear HO398; clear BK373; clear BK392; clear HB; have HO380 := n0_; have HO383 := n1_; have HO386 := n2_; have HO391 := n3_; have HO395 := n4_; have HO398 := n5_; have BK373 := n6_; have BK392 := n7_; have HB := n8_; clear n0_ n1_ n2_ n3_ n4_ n5_ n6_ n7_ n8_; (try clear hb); (try clear hb2); (try clear hk); (try clear hi)))
       have n0_ := Aside0.mk (Kd.R_drew HO380.out)
       have n1_ := Aside0.mk (Kd.R_drew HO383.out)
       have n2_ := Aside0.mk (Kd.S_drew HO386.out)
       have n3_ := Aside0.mk (Kd.R_drew HO391.out)
       have n4_ := Aside0.mk (Kd.R_drew HO395.out)
       have n5_ := Aside0.mk (Kd.S_drew HO398.out)
       have n6_ := Aside0.mk (blk_drew BK373.out)
       have n7_ := Aside0.mk (blk_drew BK392.out)
       have n8_ := Aside0.mk (below_drew1 HB.out)
       clear HO380
       clear HO383
       clear HO386
       clear HO391
       clear HO395
       clear HO398
       clear BK373
       clear BK392
       clear HB
       have HO380 := n0_
       have HO383 := n1_
       have HO386 := n2_
       have HO391 := n3_
       have HO395 := n4_
       have HO398 := n5_
       have BK373 := n6_
       have BK392 := n7_
       have HB := n8_
       clear n0_ n1_ n2_ n3_ n4_ n5_ n6_ n7_ n8_
       refine start_ (n := 5) (S := fun w' => w'.cell? ⟨gb392, 0, none⟩ = some (.int .i64 t388) ∧ w'.cell? ⟨gb392, 1, none⟩ = some (.slice Ao170 t389.length co170) ∧ w'.cell? ⟨gb373, 0, none⟩ = some (.int .i64 a0_0) ∧ w'.cell? ⟨gb373, 1, none⟩ = some (.slice A0_1 l0_1.length c0_1)) (ds := []) #[false, false, false, false, false] (by kernel_rfl) rfl rfl ⟨(blk_cell BK392.out 0).trans rfl, (blk_cell BK392.out 1).trans rfl, (blk_cell BK373.out 0).trans rfl, (blk_cell BK373.out 1).trans rfl⟩ (fun hHeld => ?_)
       generalize w176.drew = w177 at HO380 HO383 HO386 HO391 HO395 HO398 BK373 BK392 HB hHeld ⊢
       refine take_ (i := 0) (N := some 48) (v := ?_) (a' := ?_) #[true, false, false, false, false] rfl rfl (by kernel_rfl) (fun _ _ _ h => h) (Or.inl ⟨by rfl, ?_⟩) hHeld ?_ ?_
       rotate_left
       ·rintro w' ⟨s0, s1, s2, s3⟩
        go_simp
        with_reducible rfl
       rotate_left
       ·simp only [Act.put, List.setIfInBounds_toArray, List.set_cons_zero, List.set_cons_succ, i64_w, i32_w]
        rfl
       refine take_ (i := 1) (N := some 49) (v := ?_) (a' := ?_) #[true, true, false, false, false] rfl rfl (by kernel_rfl) (fun _ _ _ h => h) (Or.inl ⟨by rfl, ?_⟩) hHeld ?_ ?_
       rotate_left
       ·rintro w' ⟨s0, s1, s2, s3⟩
        go_simp
        with_reducible rfl
       rotate_left
       ·simp only [Act.put, List.setIfInBounds_toArray, List.set_cons_zero, List.set_cons_succ, i64_w, i32_w]
        rfl
       refine one_ (i := 2) (N := some 50) #[true, true, true, false, false] rfl rfl (by kernel_rfl) (by decide) (fun K hK => ?_)
       refine goes_ Try.func26 (by kernel_rfl) rfl #[.agg #[.int .i64 a0_0, .slice A0_1 l0_1.length c0_1]] (by rfl) rfl rfl ls_ ?_
       with_reducible refine (laws_toCells.calls k a0_0 _ _ l0_1 t400 t401 _ ?side1 ?side2 A51.out).mono ?_
       (case side1 => exact cb_ HR0_1.out)
       (case side2 => exact HC0_1.out)
       rintro e w178 ⟨v402, rfl, ho0, hb⟩
       refine ⟨_, rfl, ?_⟩
       have n0_ := Aside0.mk (Kd.R_elder' (ra_ HO380.out) (Kd.R_base ho0) hb)
       have n1_ := Aside0.mk (Kd.R_below (ra_ HO383.out) hb)
       have n2_ := Aside0.mk (Kd.S_elder' (sa_ HO386.out) (Kd.R_base ho0) hb)
       have n3_ := Aside0.mk (Kd.R_elder' (ra_ HO391.out) (Kd.R_base ho0) hb)
       have n4_ := Aside0.mk (Kd.R_below (ra_ HO395.out) hb)
       have n5_ := Aside0.mk (Kd.S_elder' (sa_ HO398.out) (Kd.R_base ho0) hb)
       have n6_ := Aside0.mk (Kd.R_lower (Kd.R_new' (Kd.R_new' ho0 (Kd.R_lt (ra_ HO380.out))) (Kd.R_lt (ra_ HO391.out))) (below_size hb_))
       have n7_ := bb_ BK373 hb
       have n8_ := bb_ BK392 hb
       have n9_ := Aside0.mk (below_step hb_ hb)
       clear HO380
       clear HO383
       clear HO386
       clear HO391
       clear HO395
       clear HO398
       clear BK373
       clear BK392
       clear HB
       have HO380 := n0_
       have HO383 := n1_
       have HO386 := n2_
       have HO391 := n3_
       have HO395 := n4_
       have HO398 := n5_
       have HO403 := n6_
       have BK373 := n7_
       have BK392 := n8_
       have HB := n9_
       clear n0_ n1_ n2_ n3_ n4_ n5_ n6_ n7_ n8_ n9_
       (try clear hb)
       (try clear hb2)
       (try clear hk)
       (try clear hi)
       (try clear ho0)
       obtain ⟨Ao179, co179, eo179⟩ := Kd.R_slice HO403.out
       (first | subst eo179 | (injection eo179 with f1_ f2_ f3_; have f4_ := f1_.symm; have f5_ := f3_.symm; clear f1_ f2_ f3_; subst f4_; subst f5_))
       refine hK.out _ _ ⟨(blk_cell BK392.out 0).trans rfl, (blk_cell BK392.out 1).trans rfl, (blk_cell BK373.out 0).trans rfl, (blk_cell BK373.out 1).trans rfl⟩ (fun hHeld => ?_)
       clear hK K
       refine norm_ (a' := ?_) ?_ ?_
       rotate_left
       ·show Act.put _ (some 50) _ = _
        simp only [Act.put, List.setIfInBounds_toArray, List.set_cons_zero, List.set_cons_succ, i64_w, i32_w]
        rfl
       refine one_ (i := 3) (N := some 51) #[true, true, true, true, false] rfl rfl (by kernel_rfl) (by decide) (fun K hK => ?_)
       refine goes_ Try.func29 (by kernel_rfl) rfl #[.agg #[.int .i64 t388, .slice Ao170 t389.length co170], .agg #[.int .i64 t400, .slice Ao179 t401.length co179]] (by rfl) rfl rfl ls_ ?_
       with_reducible refine (laws_eqCells.calls k t388 _ _ t389 t400 _ _ t401 false _ ?side1 ?side2 ?side3 ?side4 A52.out).mono ?_
       (case side1 => exact ca_ (Kd.R_reads' HO391.out).2.2)
       (case side2 => exact (Kd.R_reads' HO391.out).2.1)
       (case side3 => exact ca_ (Kd.R_reads' HO403.out).2.2)
       (case side4 => exact (Kd.R_reads' HO403.out).2.1)
       rintro e w180 ⟨rfl, hb⟩
       refine ⟨_, rfl, ?_⟩
       have n0_ := Aside0.mk (Kd.R_below (ra_ HO380.out) hb)
       have n1_ := Aside0.mk (Kd.R_below (ra_ HO383.out) hb)
       have n2_ := Aside0.mk (Kd.S_below (sa_ HO386.out) hb)
       have n3_ := Aside0.mk (Kd.R_below (ra_ HO391.out) hb)
       have n4_ := Aside0.mk (Kd.R_below (ra_ HO395.out) hb)
       have n5_ := Aside0.mk (Kd.S_below (sa_ HO398.out) hb)
       have n6_ := Aside0.mk (Kd.R_below (ra_ HO403.out) hb)
       have n7_ := bb_ BK373 hb
       have n8_ := bb_ BK392 hb
       have n9_ := Aside0.mk (below_step hb_ hb)
       clear HO380
       clear HO383
       clear HO386
       clear HO391
       clear HO395
       clear HO398
       clear HO403
       clear BK373
       clear BK392
       clear HB
       have HO380 := n0_
       have HO383 := n1_
       have HO386 := n2_
       have HO391 := n3_
       have HO395 := n4_
       have HO398 := n5_
       have HO403 := n6_
       have BK373 := n7_
       have BK392 := n8_
       have HB := n9_
       clear n0_ n1_ n2_ n3_ n4_ n5_ n6_ n7_ n8_ n9_
       (try clear hb)
       (try clear hb2)
       (try clear hk)
       (try clear hi)
       refine hK.out _ _ ⟨(blk_cell BK392.out 0).trans rfl, (blk_cell BK392.out 1).trans rfl, (blk_cell BK373.out 0).trans rfl, (blk_cell BK373.out 1).trans rfl⟩ (fun hHeld => ?_)
       clear hK K
       refine norm_ (a' := ?_) ?_ ?_
       rotate_left
       ·show Act.put _ (some 51) _ = _
        simp only [Act.put, List.setIfInBounds_toArray, List.set_cons_zero, List.set_cons_succ, i64_w, i32_w]
        rfl
       refine pure_ (i := 4) (N := some 52) (v := ?_) (a' := ?_) #[true, true, true, true, true] rfl rfl (by kernel_rfl) (fun _ _ _ h => h) (Or.inl ⟨by rfl, ?_⟩) ?_ ?_
       rotate_left
       ·intro w'
        go_simp
        with_reducible rfl
       rotate_left
       ·simp only [Act.put, List.setIfInBounds_toArray, List.set_cons_zero, List.set_cons_succ, i64_w, i32_w]
        rfl
       refine done_ (by kernel_rfl) ?_
       try go_wp2
       go_ret
       exact ⟨er_, hb_⟩

end Go.Proofs.Ytcldlljnaijmhaa.Pr
