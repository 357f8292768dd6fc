-- Joined and pruned by wip/tools/prune.py out of this session's own texts (Pr23, PureFnExactJointTicks)
import Derived.Test.YtcldlljnaijmhaaZjt9
-- Written by this session's own print (wip/tools/mkmp.py) out of the translation. Lean checks it.
namespace Go.Proofs.Ytcldlljnaijmhaa.Pr
open Go.RowKit Go.Proofs.YtcldlljnaijmhaaW.PrintWords Go.Proofs.YtcldlljnaijmhaaW.PrintLast Go.Proofs.YtcldlljnaijmhaaW.PrintMore
attribute [local go_sem] max2_int min2_int max_two min_two max_three min_three max_four min_four   -- for this text's walks alone
set_option linter.unusedVariables false
set_option linter.unusedSimpArgs false

def laws_FnExactJointTicks.T5 : Bool × List (List Nat × List Nat) := (true, [([], []), ([0], [0]), ([], []), ([2, 1], [2]), ([], []), ([4, 3], [4]), ([1, 3, 5, 5], [1, 3, 5]), ([6, 6, 0, 1, 2, 3, 4, 5, 6], [6])])
def laws_FnExactJointTicks.B5 : List Nat := [0, 1, 0, 7, 0, 31, 63, 127]
theorem laws_FnExactJointTicks.tab5 : rtab .any (opsOf Try.f7 5) = laws_FnExactJointTicks.T5 := by kernel_rfl
theorem laws_FnExactJointTicks.bits5 : waitsOk laws_FnExactJointTicks.T5.2 laws_FnExactJointTicks.B5 = true := by kernel_rfl
set_option maxHeartbeats 8000000 in
set_option maxRecDepth 100000 in
theorem laws_FnExactJointTicks.calls (k : Nat) (a0_0 : Int) (A0_1 : Option Addr) (c0_1 : Nat) (l0_1 : List Int) (a1_0 : Int) (a1_1 : Int) (a2_0 : Int) (a2_1 : Int) (r : Bool) (w : World) (hr0_1 : Kd.C (Kd.int .i64) w A0_1 l0_1.length l0_1) (hc0_1 : l0_1.length ≤ c0_1) (h : laws_FnExactJointTicks.f k a0_0 l0_1 a1_0 a1_1 a2_0 a2_1 = some r) :
   Calls Try.prog 7 #[.agg #[.int .i64 a0_0, .slice A0_1 l0_1.length c0_1], .agg #[.int .i64 a1_0, .int .i64 a1_1], .agg #[.int .i64 a2_0, .int .i64 a2_1]] w fun e w' => e = .returned (.bool r) ∧ Below w.heap.size w w' := by
  have hu34 := Try.underlying34
  have hu47 := Try.underlying47
  have hu39 := Try.underlying39
  have HR0_1 := Aside0.mk hr0_1
  have HC0_1 := Aside0.mk hc0_1
  clear hr0_1 hc0_1
  have HB := Aside0.mk (Below.refl w.heap.size w)
  have H : ((laws_szCells.f a0_0 l0_1 1048576).bind fun t407 => (if t407 < 0 then (some true) else ((laws_toCells.f k a0_0 l0_1).bind fun bt408 => ((laws_toTrip.f a1_0 a1_1).bind fun bt412 => ((laws_toTrip.f a2_0 a2_1).bind fun bt414 => ((spec_JointTicks.f k bt408.1 bt408.2 bt412.1 bt412.2 bt414.1 bt414.2).bind fun t416 => ((laws_toCells.f k a0_0 l0_1).bind fun bt417 => ((laws_toTrip.f a1_0 a1_1).bind fun bt422 => ((laws_toTrip.f a2_0 a2_1).bind fun bt424 => ((impl_JointTicks.f bt417.1 bt417.2 bt422.1 bt422.2 bt424.1 bt424.2).bind fun t426 => (if t426 = t416 then ((laws_toCells.f k a0_0 l0_1).bind fun bt427 => ((laws_eqCells.f k bt417.1 bt417.2 bt427.1 bt427.2).bind fun t431 => (if t431 = true then (some true) else (some false)))) else (some false)))))))))))) = some r := h
  clear h
  replace H := Option.bind_eq_some_iff.mp H
  obtain ⟨t407, A40, H⟩ := H
  replace H : (if t407 < 0 then (some true) else ((laws_toCells.f k a0_0 l0_1).bind fun bt408 => ((laws_toTrip.f a1_0 a1_1).bind fun bt412 => ((laws_toTrip.f a2_0 a2_1).bind fun bt414 => ((spec_JointTicks.f k bt408.1 bt408.2 bt412.1 bt412.2 bt414.1 bt414.2).bind fun t416 => ((laws_toCells.f k a0_0 l0_1).bind fun bt417 => ((laws_toTrip.f a1_0 a1_1).bind fun bt422 => ((laws_toTrip.f a2_0 a2_1).bind fun bt424 => ((impl_JointTicks.f bt417.1 bt417.2 bt422.1 bt422.2 bt424.1 bt424.2).bind fun t426 => (if t426 = t416 then ((laws_toCells.f k a0_0 l0_1).bind fun bt427 => ((laws_eqCells.f k bt417.1 bt417.2 bt427.1 bt427.2).bind fun t431 => (if t431 = true then (some true) else (some false)))) else (some false))))))))))) = some r := H
  have A4 := Aside0.mk A40
  clear A40
  by_cases c5 : t407 < 0
  ·rw [if_pos c5] at H
   have c5b0 : decide (t407 < 0) = true := decide_eq_true c5
   clear c5
   obtain rfl := Option.some.inj H
   go_enter Try.func7, Try.ntmps7
   go_wp2_with (first | ((with_reducible refine gate_dst (N := 3) rfl ?_); refine box_event ?hg (N := 3) ?hd (cs := #[.int .i64 a0_0, .slice A0_1 l0_1.length c0_1]) (t := 34) ?hr ?_; (case hd => rfl); (case hg => rfl); (case hr => first | (go_simp; done) | (go_simp; rfl)); intro gb404 hg w6 hbox hb; have n0_ := Aside0.mk (below_step hb_ hb); have n1_ := Aside0.mk (hbox); have n2_ : Aside0 (w.heap.size ≤ gb404) := gz_; have n3_ : Aside0 (w.heap.size ≤ gb404) := gz_; clear HB; have HB := n0_; have BK404 := n1_; have GW404 := n2_; have GE404 := n3_; clear n0_ n1_ n2_ n3_; clear hb hbox hg) | ((with_reducible refine gate_dst (N := 4) rfl ?_); refine box_event ?hg (N := 4) ?hd (cs := #[.int .i64 a1_0, .int .i64 a1_1]) (t := 47) ?hr ?_; (case hd => rfl); (case hg => rfl); (case hr => first | (go_simp; done) | (go_simp; rfl)); intro gb405 hg w7 hbox hb; have n0_ := bb_ BK404 hb; have n1_ := Aside0.mk (below_step hb_ hb); have n2_ := Aside0.mk (hbox); have n3_ : Aside0 (w.heap.size ≤ gb405) := gz_; have n4_ : Aside0 (w.heap.size ≤ gb405) := gz_; have n5_ := Aside0.mk ((by rw [hg]; exact Nat.ne_of_lt (blk_lt (g := gb404) (o := .cells #[.int .i64 a0_0, .slice A0_1 l0_1.length c0_1] 34 (0, 0)) (bk_ BK404.out)) : gb404 ≠ gb405)); have n6_ := Aside0.mk ((by rw [hg]; exact Nat.ne_of_gt (blk_lt (g := gb404) (o := .cells #[.int .i64 a0_0, .slice A0_1 l0_1.length c0_1] 34 (0, 0)) (bk_ BK404.out)) : gb405 ≠ gb404)); clear BK404; clear HB; have BK404 := n0_; have HB := n1_; have BK405 := n2_; have GW405 := n3_; have GE405 := n4_; have NB404_405 := n5_; have NB405_404 := n6_; clear n0_ n1_ n2_ n3_ n4_ n5_ n6_; clear hb hbox hg) | ((with_reducible refine gate_dst (N := 5) rfl ?_); refine box_event ?hg (N := 5) ?hd (cs := #[.int .i64 a2_0, .int .i64 a2_1]) (t := 47) ?hr ?_; (case hd => rfl); (case hg => rfl); (case hr => first | (go_simp; done) | (go_simp; rfl)); intro gb406 hg w8 hbox hb; have n0_ := bb_ BK404 hb; have n1_ := bb_ BK405 hb; have n2_ := Aside0.mk (below_step hb_ hb); have n3_ := Aside0.mk (hbox); have n4_ : Aside0 (w.heap.size ≤ gb406) := gz_; have n5_ : Aside0 (w.heap.size ≤ gb406) := gz_; have n6_ := Aside0.mk ((by rw [hg]; exact Nat.ne_of_lt (blk_lt (g := gb404) (o := .cells #[.int .i64 a0_0, .slice A0_1 l0_1.length c0_1] 34 (0, 0)) (bk_ BK404.out)) : gb404 ≠ gb406)); have n7_ := Aside0.mk ((by rw [hg]; exact Nat.ne_of_gt (blk_lt (g := gb404) (o := .cells #[.int .i64 a0_0, .slice A0_1 l0_1.length c0_1] 34 (0, 0)) (bk_ BK404.out)) : gb406 ≠ gb404)); have n8_ := Aside0.mk ((by rw [hg]; exact Nat.ne_of_lt (blk_lt (g := gb405) (o := .cells #[.int .i64 a1_0, .int .i64 a1_1] 47 (0, 0)) (bk_ BK405.out)) : gb405 ≠ gb406)); have n9_ := Aside0.mk ((by rw [hg]; exact Nat.ne_of_gt (blk_lt (g := gb405) (o := .cells #[.int .i64 a1_0, .int .i64 a1_1] 47 (0, 0)) (bk_ BK405.out)) : gb406 ≠ gb405)); clear BK404; clear BK405; clear HB; have BK404 := n0_; have BK405 := n1_; have HB := n2_; have BK406 := n3_; have GW406 := n4_; have GE406 := n5_; have NB404_406 := n6_; have NB406_404 := n7_; have NB405_406 := n8_; have NB406_405 := n9_; clear n0_ n1_ n2_ n3_ n4_ n5_ n6_ n7_ n8_ n9_; clear hb hbox hg; have hnb9 := NB404_405.out; have hnc9 := NB405_404.out; have hnb10 := NB404_406.out; have hnc10 := NB406_404.out; have hcz11_0 : w8.cell? ⟨gb404, 0, none⟩ = some (.int .i64 a0_0) := (blk_cell BK404.out 0).trans rfl; have hcz11_1 : w8.cell? ⟨gb404, 1, none⟩ = some (.slice A0_1 l0_1.length c0_1) := (blk_cell BK404.out 1).trans rfl; have hfz11_0 := blk_frozen BK404.out 0; have hfz11_1 := blk_frozen BK404.out 1) | ((with_reducible refine gate_callee (f := 23) rfl ?_); refine goesL_ (some 13) rfl rfl Try.func23 (by kernel_rfl) rfl #[.agg #[.int .i64 a0_0, .slice A0_1 l0_1.length c0_1], .int .i64 1048576] rfl ls_ ?_; (with_reducible refine (laws_szCells.calls a0_0 _ _ l0_1 1048576 t407 _ ?side1 ?side2 A4.out).mono ?_); (case side1 => exact cb_ HR0_1.out); (case side2 => exact HC0_1.out); rintro e w12 ⟨rfl, hb⟩; refine ⟨_, rfl, ?_⟩; have n0_ := bb_ BK404 hb; have n1_ := bb_ BK405 hb; have n2_ := bb_ BK406 hb; have n3_ := Aside0.mk (below_step hb_ hb); clear BK404; clear BK405; clear BK406; clear HB; have BK404 := n0_; have BK405 := n1_; have BK406 := n2_; have HB := n3_; clear n0_ n1_ n2_ n3_; (try clear hb); (try clear hb2); (try clear hk); (try clear hi)))
   go_ret
   exact ⟨er_, hb_⟩
  ·rw [if_neg c5] at H
   have c5b0 : decide (t407 < 0) = false := decide_eq_false c5
   clear c5
   replace H := Option.bind_eq_some_iff.mp H
   obtain ⟨⟨t408, t409⟩, A130, H⟩ := H
   replace H : ((laws_toTrip.f a1_0 a1_1).bind fun bt412 => ((laws_toTrip.f a2_0 a2_1).bind fun bt414 => ((spec_JointTicks.f k t408 t409 bt412.1 bt412.2 bt414.1 bt414.2).bind fun t416 => ((laws_toCells.f k a0_0 l0_1).bind fun bt417 => ((laws_toTrip.f a1_0 a1_1).bind fun bt422 => ((laws_toTrip.f a2_0 a2_1).bind fun bt424 => ((impl_JointTicks.f bt417.1 bt417.2 bt422.1 bt422.2 bt424.1 bt424.2).bind fun t426 => (if t426 = t416 then ((laws_toCells.f k a0_0 l0_1).bind fun bt427 => ((laws_eqCells.f k bt417.1 bt417.2 bt427.1 bt427.2).bind fun t431 => (if t431 = true then (some true) else (some false)))) else (some false))))))))) = some r := H
   have A13 := Aside0.mk A130
   clear A130
   replace H := Option.bind_eq_some_iff.mp H
   obtain ⟨⟨t412, t413⟩, A140, H⟩ := H
   replace H : ((laws_toTrip.f a2_0 a2_1).bind fun bt414 => ((spec_JointTicks.f k t408 t409 t412 t413 bt414.1 bt414.2).bind fun t416 => ((laws_toCells.f k a0_0 l0_1).bind fun bt417 => ((laws_toTrip.f a1_0 a1_1).bind fun bt422 => ((laws_toTrip.f a2_0 a2_1).bind fun bt424 => ((impl_JointTicks.f bt417.1 bt417.2 bt422.1 bt422.2 bt424.1 bt424.2).bind fun t426 => (if t426 = t416 then ((laws_toCells.f k a0_0 l0_1).bind fun bt427 => ((laws_eqCells.f k bt417.1 bt417.2 bt427.1 bt427.2).bind fun t431 => (if t431 = true then (some true) else (some false)))) else (some false)))))))) = some r := H
   have A14 := Aside0.mk A140
   clear A140
   replace H := Option.bind_eq_some_iff.mp H
   obtain ⟨⟨t414, t415⟩, A150, H⟩ := H
   replace H : ((spec_JointTicks.f k t408 t409 t412 t413 t414 t415).bind fun t416 => ((laws_toCells.f k a0_0 l0_1).bind fun bt417 => ((laws_toTrip.f a1_0 a1_1).bind fun bt422 => ((laws_toTrip.f a2_0 a2_1).bind fun bt424 => ((impl_JointTicks.f bt417.1 bt417.2 bt422.1 bt422.2 bt424.1 bt424.2).bind fun t426 => (if t426 = t416 then ((laws_toCells.f k a0_0 l0_1).bind fun bt427 => ((laws_eqCells.f k bt417.1 bt417.2 bt427.1 bt427.2).bind fun t431 => (if t431 = true then (some true) else (some false)))) else (some false))))))) = some r := H
   have A15 := Aside0.mk A150
   clear A150
   replace H := Option.bind_eq_some_iff.mp H
   obtain ⟨t416, A160, H⟩ := H
   replace H : ((laws_toCells.f k a0_0 l0_1).bind fun bt417 => ((laws_toTrip.f a1_0 a1_1).bind fun bt422 => ((laws_toTrip.f a2_0 a2_1).bind fun bt424 => ((impl_JointTicks.f bt417.1 bt417.2 bt422.1 bt422.2 bt424.1 bt424.2).bind fun t426 => (if t426 = t416 then ((laws_toCells.f k a0_0 l0_1).bind fun bt427 => ((laws_eqCells.f k bt417.1 bt417.2 bt427.1 bt427.2).bind fun t431 => (if t431 = true then (some true) else (some false)))) else (some false)))))) = some r := H
   have A16 := Aside0.mk A160
   clear A160
   replace H := Option.bind_eq_some_iff.mp H
   obtain ⟨⟨t417, t418⟩, A170, H⟩ := H
   replace H : ((laws_toTrip.f a1_0 a1_1).bind fun bt422 => ((laws_toTrip.f a2_0 a2_1).bind fun bt424 => ((impl_JointTicks.f t417 t418 bt422.1 bt422.2 bt424.1 bt424.2).bind fun t426 => (if t426 = t416 then ((laws_toCells.f k a0_0 l0_1).bind fun bt427 => ((laws_eqCells.f k t417 t418 bt427.1 bt427.2).bind fun t431 => (if t431 = true then (some true) else (some false)))) else (some false))))) = some r := H
   have A17 := Aside0.mk A170
   clear A170
   replace H := Option.bind_eq_some_iff.mp H
   obtain ⟨⟨t422, t423⟩, A180, H⟩ := H
   replace H : ((laws_toTrip.f a2_0 a2_1).bind fun bt424 => ((impl_JointTicks.f t417 t418 t422 t423 bt424.1 bt424.2).bind fun t426 => (if t426 = t416 then ((laws_toCells.f k a0_0 l0_1).bind fun bt427 => ((laws_eqCells.f k t417 t418 bt427.1 bt427.2).bind fun t431 => (if t431 = true then (some true) else (some false)))) else (some false)))) = some r := H
   have A18 := Aside0.mk A180
   clear A180
   replace H := Option.bind_eq_some_iff.mp H
   obtain ⟨⟨t424, t425⟩, A190, H⟩ := H
   replace H : ((impl_JointTicks.f t417 t418 t422 t423 t424 t425).bind fun t426 => (if t426 = t416 then ((laws_toCells.f k a0_0 l0_1).bind fun bt427 => ((laws_eqCells.f k t417 t418 bt427.1 bt427.2).bind fun t431 => (if t431 = true then (some true) else (some false)))) else (some false))) = some r := H
   have A19 := Aside0.mk A190
   clear A190
   replace H := Option.bind_eq_some_iff.mp H
   obtain ⟨t426, A200, H⟩ := H
   replace H : (if t426 = t416 then ((laws_toCells.f k a0_0 l0_1).bind fun bt427 => ((laws_eqCells.f k t417 t418 bt427.1 bt427.2).bind fun t431 => (if t431 = true then (some true) else (some false)))) else (some false)) = some r := H
   have A20 := Aside0.mk A200
   clear A200
   by_cases c21 : t426 = t416
   ·rw [if_pos c21] at H
    have c21b0 : (t426 == t416) = true := beq_iff_eq.mpr c21
    have c21b1 : (t426 != t416) = false := bne_eq_false_iff_eq.mpr c21
    clear c21
    replace H := Option.bind_eq_some_iff.mp H
    obtain ⟨⟨t427, t428⟩, A220, H⟩ := H
    replace H : ((laws_eqCells.f k t417 t418 t427 t428).bind fun t431 => (if t431 = true then (some true) else (some false))) = some r := H
    have A22 := Aside0.mk A220
    clear A220
    replace H := Option.bind_eq_some_iff.mp H
    obtain ⟨t431, A230, H⟩ := H
    replace H : (if t431 = true then (some true) else (some false)) = some r := H
    have A23 := Aside0.mk A230
    clear A230
    by_cases c24 : t431 = true
    ·subst c24
     rw [if_pos rfl] at H
     obtain rfl := Option.some.inj H
     go_enter Try.func7, Try.ntmps7
     try go_wp2_with (first | ((with_reducible refine gate_dst (N := 3) rfl ?_); refine box_event ?hg (N := 3) ?hd (cs := #[.int .i64 a0_0, .slice A0_1 l0_1.length c0_1]) (t := 34) ?hr ?_; (case hd => rfl); (case hg => rfl); (case hr => first | (go_simp; done) | (go_simp; rfl)); intro gb404 hg w25 hbox hb; have n0_ := Aside0.mk (below_step hb_ hb); have n1_ := Aside0.mk (hbox); have n2_ : Aside0 (w.heap.size ≤ gb404) := gz_; have n3_ : Aside0 (w.heap.size ≤ gb404) := gz_; clear HB; have HB := n0_; have BK404 := n1_; have GW404 := n2_; have GE404 := n3_; clear n0_ n1_ n2_ n3_; clear hb hbox hg) | ((with_reducible refine gate_dst (N := 4) rfl ?_); refine box_event ?hg (N := 4) ?hd (cs := #[.int .i64 a1_0, .int .i64 a1_1]) (t := 47) ?hr ?_; (case hd => rfl); (case hg => rfl); (case hr => first | (go_simp; done) | (go_simp; rfl)); intro gb405 hg w26 hbox hb; have n0_ := bb_ BK404 hb; have n1_ := Aside0.mk (below_step hb_ hb); have n2_ := Aside0.mk (hbox); have n3_ : Aside0 (w.heap.size ≤ gb405) := gz_; have n4_ : Aside0 (w.heap.size ≤ gb405) := gz_; have n5_ := Aside0.mk ((by rw [hg]; exact Nat.ne_of_lt (blk_lt (g := gb404) (o := .cells #[.int .i64 a0_0, .slice A0_1 l0_1.length c0_1] 34 (0, 0)) (bk_ BK404.out)) : gb404 ≠ gb405)); have n6_ := Aside0.mk ((by rw [hg]; exact Nat.ne_of_gt (blk_lt (g := gb404) (o := .cells #[.int .i64 a0_0, .slice A0_1 l0_1.length c0_1] 34 (0, 0)) (bk_ BK404.out)) : gb405 ≠ gb404)); clear BK404; clear HB; have BK404 := n0_; have HB := n1_; have BK405 := n2_; have GW405 := n3_; have GE405 := n4_; have NB404_405 := n5_; have NB405_404 := n6_; clear n0_ n1_ n2_ n3_ n4_ n5_ n6_; clear hb hbox hg) | ((with_reducible refine gate_dst (N := 5) rfl ?_); refine box_event ?hg (N := 5) ?hd (cs := #[.int .i64 a2_0, .int .i64 a2_1]) (t := 47) ?hr ?_; (case hd => rfl); (case hg => rfl); (case hr => first | (go_simp; done) | (go_simp; rfl)); intro gb406 hg w27 hbox hb; have n0_ := bb_ BK404 hb; have n1_ := bb_ BK405 hb; have n2_ := Aside0.mk (below_step hb_ hb); have n3_ := Aside0.mk (hbox); have n4_ : Aside0 (w.heap.size ≤ gb406) := gz_; have n5_ : Aside0 (w.heap.size ≤ gb406) := gz_; have n6_ := Aside0.mk ((by rw [hg]; exact Nat.ne_of_lt (blk_lt (g := gb404) (o := .cells #[.int .i64 a0_0, .slice A0_1 l0_1.length c0_1] 34 (0, 0)) (bk_ BK404.out)) : gb404 ≠ gb406)); have n7_ := Aside0.mk ((by rw [hg]; exact Nat.ne_of_gt (blk_lt (g := gb404) (o := .cells #[.int .i64 a0_0, .slice A0_1 l0_1.length c0_1] 34 (0, 0)) (bk_ BK404.out)) : gb406 ≠ gb404)); have n8_ := Aside0.mk ((by rw [hg]; exact Nat.ne_of_lt (blk_lt (g := gb405) (o := .cells #[.int .i64 a1_0, .int .i64 a1_1] 47 (0, 0)) (bk_ BK405.out)) : gb405 ≠ gb406)); have n9_ := Aside0.mk ((by rw [hg]; exact Nat.ne_of_gt (blk_lt (g := gb405) (o := .cells #[.int .i64 a1_0, .int .i64 a1_1] 47 (0, 0)) (bk_ BK405.out)) : gb406 ≠ gb405)); clear BK404; clear BK405; clear HB; have BK404 := n0_; have BK405 := n1_; have HB := n2_; have BK406 := n3_; have GW406 := n4_; have GE406 := n5_; have NB404_406 := n6_; have NB406_404 := n7_; have NB405_406 := n8_; have NB406_405 := n9_; clear n0_ n1_ n2_ n3_ n4_ n5_ n6_ n7_ n8_ n9_; clear hb hbox hg; have hnb28 := NB404_405.out; have hnc28 := NB405_404.out; have hnb29 := NB404_406.out; have hnc29 := NB406_404.out; have hcz30_0 : w27.cell? ⟨gb404, 0, none⟩ = some (.int .i64 a0_0) := (blk_cell BK404.out 0).trans rfl; have hcz30_1 : w27.cell? ⟨gb404, 1, none⟩ = some (.slice A0_1 l0_1.length c0_1) := (blk_cell BK404.out 1).trans rfl; have hfz30_0 := blk_frozen BK404.out 0; have hfz30_1 := blk_frozen BK404.out 1) | ((with_reducible refine gate_callee (f := 23) rfl ?_); refine goesL_ (some 13) rfl rfl Try.func23 (by kernel_rfl) rfl #[.agg #[.int .i64 a0_0, .slice A0_1 l0_1.length c0_1], .int .i64 1048576] rfl ls_ ?_; (with_reducible refine (laws_szCells.calls a0_0 _ _ l0_1 1048576 t407 _ ?side1 ?side2 A4.out).mono ?_); (case side1 => exact cb_ HR0_1.out); (case side2 => exact HC0_1.out); rintro e w31 ⟨rfl, hb⟩; refine ⟨_, rfl, ?_⟩; have n0_ := bb_ BK404 hb; have n1_ := bb_ BK405 hb; have n2_ := bb_ BK406 hb; have n3_ := Aside0.mk (below_step hb_ hb); clear BK404; clear BK405; clear BK406; clear HB; have BK404 := n0_; have BK405 := n1_; have BK406 := n2_; have HB := n3_; clear n0_ n1_ n2_ n3_; (try clear hb); (try clear hb2); (try clear hk); (try clear hi)))
     have n0_ := Aside0.mk (blk_drew BK404.out)
     have n1_ := Aside0.mk (blk_drew BK405.out)
     have n2_ := Aside0.mk (blk_drew BK406.out)
     have n3_ := Aside0.mk (below_drew1 HB.out)
     clear BK404
     clear BK405
     clear BK406
     clear HB
     have BK404 := n0_
     have BK405 := n1_
     have BK406 := n2_
     have HB := n3_
     clear n0_ n1_ n2_ n3_
     refine start_ (n := 8) (S := fun w' => w'.cell? ⟨gb404, 0, none⟩ = some (.int .i64 a0_0) ∧ w'.cell? ⟨gb404, 1, none⟩ = some (.slice A0_1 l0_1.length c0_1) ∧ w'.cell? ⟨gb405, 0, none⟩ = some (.int .i64 a1_0) ∧ w'.cell? ⟨gb405, 1, none⟩ = some (.int .i64 a1_1) ∧ w'.cell? ⟨gb406, 0, none⟩ = some (.int .i64 a2_0) ∧ w'.cell? ⟨gb406, 1, none⟩ = some (.int .i64 a2_1)) (ds := []) #[false, false, false, false, false, false, false, false] (by kernel_rfl) rfl rfl ⟨(blk_cell BK404.out 0).trans rfl, (blk_cell BK404.out 1).trans rfl, (blk_cell BK405.out 0).trans rfl, (blk_cell BK405.out 1).trans rfl, (blk_cell BK406.out 0).trans rfl, (blk_cell BK406.out 1).trans rfl⟩ (fun hHeld => ?_); refine with_tabW laws_FnExactJointTicks.tab5 laws_FnExactJointTicks.bits5 (fun HT_ HW_ => ?_)
     generalize w31.drew = w32 at BK404 BK405 BK406 HB hHeld ⊢
     refine take_ (i := 0) (N := some 16) (v := ?_) (a' := ?_) #[true, false, false, false, false, false, false, false] rfl rfl (take_ofW HT_.out HW_.out (by kernel_rfl)) (fun _ _ _ h => h) (Or.inl ⟨by rfl, ?_⟩) hHeld ?_ ?_
     rotate_left
     ·rintro w' ⟨s0, s1, s2, s3, s4, s5⟩
      go_simp
      with_reducible rfl
     rotate_left
     ·simp only [Act.put, List.setIfInBounds_toArray, List.set_cons_zero, List.set_cons_succ, i64_w, i32_w]
      rfl
     refine take_ (i := 2) (N := some 18) (v := ?_) (a' := ?_) #[true, false, true, false, false, false, false, false] rfl rfl (take_ofW HT_.out HW_.out (by kernel_rfl)) (fun _ _ _ h => h) (Or.inl ⟨by rfl, ?_⟩) hHeld ?_ ?_
     rotate_left
     ·rintro w' ⟨s0, s1, s2, s3, s4, s5⟩
      go_simp
      with_reducible rfl
     rotate_left
     ·simp only [Act.put, List.setIfInBounds_toArray, List.set_cons_zero, List.set_cons_succ, i64_w, i32_w]
      rfl
     refine take_ (i := 4) (N := some 20) (v := ?_) (a' := ?_) #[true, false, true, false, true, false, false, false] rfl rfl (take_ofW HT_.out HW_.out (by kernel_rfl)) (fun _ _ _ h => h) (Or.inl ⟨by rfl, ?_⟩) hHeld ?_ ?_
     rotate_left
     ·rintro w' ⟨s0, s1, s2, s3, s4, s5⟩
      go_simp
      with_reducible rfl
     rotate_left
     ·simp only [Act.put, List.setIfInBounds_toArray, List.set_cons_zero, List.set_cons_succ, i64_w, i32_w]
      rfl
     refine one_ (i := 1) (N := some 17) #[true, true, true, false, true, false, false, false] rfl rfl (one_of HT_.out (by kernel_rfl)) (by decide) (fun K hK => ?_)
     refine goes_ Try.func26 (by kernel_rfl) rfl #[.agg #[.int .i64 a0_0, .slice A0_1 l0_1.length c0_1]] (by rfl) rfl rfl ls_ ?_
     with_reducible refine (laws_toCells.calls k a0_0 _ _ l0_1 t408 t409 _ ?side1 ?side2 A13.out).mono ?_
     (case side1 => exact cb_ HR0_1.out)
     (case side2 => exact HC0_1.out)
     rintro e w33 ⟨v410, rfl, ho0, hb⟩
     refine ⟨_, rfl, ?_⟩
     have n0_ := Aside0.mk (Kd.R_lower ho0 (below_size hb_))
     have n1_ := bb_ BK404 hb
     have n2_ := bb_ BK405 hb
     have n3_ := bb_ BK406 hb
     have n4_ := Aside0.mk (below_step hb_ hb)
     clear BK404
     clear BK405
     clear BK406
     clear HB
     have HO411 := n0_
     have BK404 := n1_
     have BK405 := n2_
     have BK406 := n3_
     have HB := n4_
     clear n0_ n1_ n2_ n3_ n4_
     (try clear hb)
     (try clear hb2)
     (try clear hk)
     (try clear hi)
     (try clear ho0)
     refine hK.out _ _ ⟨(blk_cell BK404.out 0).trans rfl, (blk_cell BK404.out 1).trans rfl, (blk_cell BK405.out 0).trans rfl, (blk_cell BK405.out 1).trans rfl, (blk_cell BK406.out 0).trans rfl, (blk_cell BK406.out 1).trans rfl⟩ (fun hHeld => ?_)
     clear hK K
     refine norm_ (a' := ?_) ?_ ?_
     rotate_left
     ·show Act.put _ (some 17) _ = _
      simp only [Act.put, List.setIfInBounds_toArray, List.set_cons_zero, List.set_cons_succ, i64_w, i32_w]
      rfl
     refine one_ (i := 3) (N := some 19) #[true, true, true, true, true, false, false, false] rfl rfl (one_of HT_.out (by kernel_rfl)) (by decide) (fun K hK => ?_)
     refine goes_ Try.func32 (by kernel_rfl) rfl #[.agg #[.int .i64 a1_0, .int .i64 a1_1]] (by rfl) rfl rfl ls_ ?_
     with_reducible refine (laws_toTrip.calls a1_0 a1_1 t412 t413 _ A14.out).mono ?_
     rintro e w34 ⟨rfl, hb⟩
     refine ⟨_, rfl, ?_⟩
     have n0_ := Aside0.mk (Kd.R_below (ra_ HO411.out) hb)
     have n1_ := bb_ BK404 hb
     have n2_ := bb_ BK405 hb
     have n3_ := bb_ BK406 hb
     have n4_ := Aside0.mk (below_step hb_ hb)
     clear HO411
     clear BK404
     clear BK405
     clear BK406
     clear HB
     have HO411 := n0_
     have BK404 := n1_
     have BK405 := n2_
     have BK406 := n3_
     have HB := n4_
     clear n0_ n1_ n2_ n3_ n4_
     (try clear hb)
     (try clear hb2)
     (try clear hk)
     (try clear hi)
     refine hK.out _ _ ⟨(blk_cell BK404.out 0).trans rfl, (blk_cell BK404.out 1).trans rfl, (blk_cell BK405.out 0).trans rfl, (blk_cell BK405.out 1).trans rfl, (blk_cell BK406.out 0).trans rfl, (blk_cell BK406.out 1).trans rfl⟩ (fun hHeld => ?_)
     clear hK K
     refine norm_ (a' := ?_) ?_ ?_
     rotate_left
     ·show Act.put _ (some 19) _ = _
      simp only [Act.put, List.setIfInBounds_toArray, List.set_cons_zero, List.set_cons_succ, i64_w, i32_w]
      rfl
     refine one_ (i := 5) (N := some 21) #[true, true, true, true, true, true, false, false] rfl rfl (one_of HT_.out (by kernel_rfl)) (by decide) (fun K hK => ?_)
     refine goes_ Try.func32 (by kernel_rfl) rfl #[.agg #[.int .i64 a2_0, .int .i64 a2_1]] (by rfl) rfl rfl ls_ ?_
     with_reducible refine (laws_toTrip.calls a2_0 a2_1 t414 t415 _ A15.out).mono ?_
     rintro e w35 ⟨rfl, hb⟩
     refine ⟨_, rfl, ?_⟩
     have n0_ := Aside0.mk (Kd.R_below (ra_ HO411.out) hb)
     have n1_ := bb_ BK404 hb
     have n2_ := bb_ BK405 hb
     have n3_ := bb_ BK406 hb
     have n4_ := Aside0.mk (below_step hb_ hb)
     clear HO411
     clear BK404
     clear BK405
     clear BK406
     clear HB
     have HO411 := n0_
     have BK404 := n1_
     have BK405 := n2_
     have BK406 := n3_
     have HB := n4_
     clear n0_ n1_ n2_ n3_ n4_
     (try clear hb)
     (try clear hb2)
     (try clear hk)
     (try clear hi)
     obtain ⟨Ao36, co36, eo36⟩ := Kd.R_slice HO411.out
     (first | subst eo36 | (injection eo36 with f1_ f2_ f3_; have f4_ := f1_.symm; have f5_ := f3_.symm; clear f1_ f2_ f3_; subst f4_; subst f5_))
     refine hK.out _ _ ⟨(blk_cell BK404.out 0).trans rfl, (blk_cell BK404.out 1).trans rfl, (blk_cell BK405.out 0).trans rfl, (blk_cell BK405.out 1).trans rfl, (blk_cell BK406.out 0).trans rfl, (blk_cell BK406.out 1).trans rfl⟩ (fun hHeld => ?_)
     clear hK K
     refine norm_ (a' := ?_) ?_ ?_
     rotate_left
     ·show Act.put _ (some 21) _ = _
      simp only [Act.put, List.setIfInBounds_toArray, List.set_cons_zero, List.set_cons_succ, i64_w, i32_w]
      rfl
     refine one_ (i := 6) (N := some 22) #[true, true, true, true, true, true, true, false] rfl rfl (one_of HT_.out (by kernel_rfl)) (by decide) (fun K hK => ?_)
     refine goes_ Try.func34 (by kernel_rfl) rfl #[.agg #[.int .i64 t408, .slice Ao36 t409.length co36], .agg #[.int .i64 t412, .int .i64 t413], .agg #[.int .i64 t414, .int .i64 t415]] (by rfl) rfl rfl ls_ ?_
     with_reducible refine (spec_JointTicks.calls k t408 _ _ t409 t412 t413 t414 t415 t416 _ ?side1 ?side2 A16.out).mono ?_
     (case side1 => exact ca_ (Kd.R_reads' HO411.out).2.2)
     (case side2 => exact (Kd.R_reads' HO411.out).2.1)
     rintro e w37 ⟨rfl, hb⟩
     refine ⟨_, rfl, ?_⟩
     have n0_ := Aside0.mk (Kd.R_below (ra_ HO411.out) hb)
     have n1_ := bb_ BK404 hb
     have n2_ := bb_ BK405 hb
     have n3_ := bb_ BK406 hb
     have n4_ := Aside0.mk (below_step hb_ hb)
     clear HO411
     clear BK404
     clear BK405
     clear BK406
     clear HB
     have HO411 := n0_
     have BK404 := n1_
     have BK405 := n2_
     have BK406 := n3_
     have HB := n4_
     clear n0_ n1_ n2_ n3_ n4_
     (try clear hb)
     (try clear hb2)
     (try clear hk)
     (try clear hi)
     refine hK.out _ _ ⟨(blk_cell BK404.out 0).trans rfl, (blk_cell BK404.out 1).trans rfl, (blk_cell BK405.out 0).trans rfl, (blk_cell BK405.out 1).trans rfl, (blk_cell BK406.out 0).trans rfl, (blk_cell BK406.out 1).trans rfl⟩ (fun hHeld => ?_)
     clear hK K
     refine norm_ (a' := ?_) ?_ ?_
     rotate_left
     ·show Act.put _ (some 22) _ = _
      simp only [Act.put, List.setIfInBounds_toArray, List.set_cons_zero, List.set_cons_succ, i64_w, i32_w]
      rfl
     refine pure_ (i := 7) (N := some 8) (v := ?_) (a' := ?_) #[true, true, true, true, true, true, true, true] rfl rfl (any_of HT_.out (by kernel_rfl)) (fun _ _ _ h => h) (Or.inl ⟨by rfl, ?_⟩) ?_ ?_
     rotate_left
     ·intro w'
      go_simp
      with_reducible rfl
     rotate_left
     ·simp only [Act.put, List.setIfInBounds_toArray, List.set_cons_zero, List.set_cons_succ, i64_w, i32_w]
      rfl
     refine done_ (done_of HT_.out (by kernel_rfl)) ?_
     have hcz38_0 : w37.cell? ⟨gb404, 0, none⟩ = some (.int .i64 a0_0) := (blk_cell BK404.out 0).trans rfl
     have hcz38_1 : w37.cell? ⟨gb404, 1, none⟩ = some (.slice A0_1 l0_1.length c0_1) := (blk_cell BK404.out 1).trans rfl
     have hfz38_0 := blk_frozen BK404.out 0
     have hfz38_1 := blk_frozen BK404.out 1
     try go_wp2_with (first | ((with_reducible refine gate_callee (f := 26) rfl ?_); refine goesL_ (some 24) rfl rfl Try.func26 (by kernel_rfl) rfl #[.agg #[.int .i64 a0_0, .slice A0_1 l0_1.length c0_1]] rfl ls_ ?_; (with_reducible refine (laws_toCells.calls k a0_0 _ _ l0_1 t417 t418 _ ?side1 ?side2 A17.out).mono ?_); (case side1 => exact cb_ HR0_1.out); (case side2 => exact HC0_1.out); rintro e w39 ⟨v419, rfl, ho0, hb⟩; refine ⟨_, rfl, ?_⟩; have n0_ := Aside0.mk (Kd.R_elder' (ra_ HO411.out) (Kd.R_base ho0) hb); have n1_ := Aside0.mk (Kd.R_lower (Kd.R_new' ho0 (Kd.R_lt (ra_ HO411.out))) (below_size hb_)); have n2_ := bb_ BK404 hb; have n3_ := bb_ BK405 hb; have n4_ := bb_ BK406 hb; have n5_ := Aside0.mk (below_step hb_ hb); clear HO411; clear BK404; clear BK405; clear BK406; clear HB; have HO411 := n0_; have HO420 := n1_; have BK404 := n2_; have BK405 := n3_; have BK406 := n4_; have HB := n5_; clear n0_ n1_ n2_ n3_ n4_ n5_; (try clear hb); (try clear hb2); (try clear hk); (try clear hi); (try clear ho0)) | ((with_reducible refine gate_dst (N := 9) rfl ?_); refine box_event ?hg (N := 9) ?hd (cs := #[.int .i64 0, .slice none 0 0]) (t := 39) ?hr ?_; (case hd => rfl); (case hg => rfl); (case hr => first | (go_simp; done) | (go_simp; rfl)); intro gb421 hg w40 hbox hb; have n0_ := Aside0.mk (Kd.R_below (ra_ HO411.out) hb); have n1_ := Aside0.mk (Kd.R_below (ra_ HO420.out) hb); have n2_ := bb_ BK404 hb; have n3_ := bb_ BK405 hb; have n4_ := bb_ BK406 hb; have n5_ := Aside0.mk (below_step hb_ hb); have n6_ := Aside0.mk (hbox); have n7_ : Aside0 (w.heap.size ≤ gb421) := gz_; have n8_ : Aside0 (w.heap.size ≤ gb421) := gz_; have n9_ := Aside0.mk ((by rw [hg]; exact Nat.ne_of_lt (blk_lt (g := gb404) (o := .cells #[.int .i64 a0_0, .slice A0_1 l0_1.length c0_1] 34 (0, 0)) (bk_ BK404.out)) : gb404 ≠ gb421)); have n10_ := Aside0.mk ((by rw [hg]; exact Nat.ne_of_gt (blk_lt (g := gb404) (o := .cells #[.int .i64 a0_0, .slice A0_1 l0_1.length c0_1] 34 (0, 0)) (bk_ BK404.out)) : gb421 ≠ gb404)); have n11_ := Aside0.mk ((by rw [hg]; exact Nat.ne_of_lt (blk_lt (g := gb405) (o := .cells #[.int .i64 a1_0, .int .i64 a1_1] 47 (0, 0)) (bk_ BK405.out)) : gb405 ≠ gb421)); have n12_ := Aside0.mk ((by rw [hg]; exact Nat.ne_of_gt (blk_lt (g := gb405) (o := .cells #[.int .i64 a1_0, .int .i64 a1_1] 47 (0, 0)) (bk_ BK405.out)) : gb421 ≠ gb405)); have n13_ := Aside0.mk ((by rw [hg]; exact Nat.ne_of_lt (blk_lt (g := gb406) (o := .cells #[.int .i64 a2_0, .int .i64 a2_1] 47 (0, 0)) (bk_ BK406.out)) : gb406 ≠ gb421)); have n14_ := Aside0.mk ((by rw [hg]; exact Nat.ne_of_gt (blk_lt (g := gb406) (o := .cells #[.int .i64 a2_0, .int .i64 a2_1] 47 (0, 0)) (bk_ BK406.out)) : gb421 ≠ gb406)); clear HO411; clear HO420; clear BK404; clear BK405; clear BK406; clear HB; have HO411 := n0_; have HO420 := n1_; have BK404 := n2_; have BK405 := n3_; have BK406 := n4_; have HB := n5_; have BK421 := n6_; have GW421 := n7_; have GE421 := n8_; have NB404_421 := n9_; have NB421_404 := n10_; have NB405_421 := n11_; have NB421_405 := n12_; have NB406_421 := n13_; have NB421_406 := n14_; clear n0_ n1_ n2_ n3_ n4_ n5_ n6_ n7_ n8_ n9_ n10_ n11_ n12_ n13_ n14_; clear hb hbox hg; have hnb41 := NB421_404.out; have hnc41 := NB404_421.out; have hnb42 := NB421_405.out; have hnc42 := NB405_421.out; have hnb43 := NB421_406.out; have hnc43 := NB406_421.out; have hcz44_0 : w40.cell? ⟨gb421, 0, none⟩ = some (.int .i64 0) := (blk_cell BK421.out 0).trans rfl; have hcz44_1 : w40.cell? ⟨gb421, 1, none⟩ = some (.slice none 0 0) := (blk_cell BK421.out 1).trans rfl; have hfz44_0 := blk_frozen BK421.out 0; have hfz44_1 := blk_frozen BK421.out 1; obtain ⟨Ao45, co45, eo45⟩ := Kd.R_slice HO420.out; subst eo45))
     have n0_ : Aside0 (Kd.R (Kd.int .i64) 3 ((w40.setCell ⟨gb421, 0, none⟩ (.int .i64 t417)).setCell ⟨gb421, 1, none⟩ (.slice Ao45 t418.length co45)) w.heap.size (fun k_ => some k_ ≠ (.slice Ao45 t418.length co45 : Value).ownBlock) (.slice Ao36 t409.length co36) t409) := ⟨by (with_reducible repeat (first | apply Kd.R_alloc | apply Kd.R_drewN | apply Kd.R_drew)); exact Kd.R_mono (Kd.R_far (p := ⟨gb421, 1, none⟩) (Kd.R_far (p := ⟨gb421, 0, none⟩) (Kd.R_types HO411.out BK421.out (by decide)) (fun _ hk => hk.2) (.int .i64 t417)) (fun _ hk => hk.2) (.slice Ao45 t418.length co45)) (fun _ hk => hk.1.2)⟩
     have n1_ : Aside0 (Kd.R (Kd.int .i64) 3 ((w40.setCell ⟨gb421, 0, none⟩ (.int .i64 t417)).setCell ⟨gb421, 1, none⟩ (.slice Ao45 t418.length co45)) w.heap.size (fun k_ => some k_ ≠ (.slice Ao36 t409.length co36 : Value).ownBlock) (.slice Ao45 t418.length co45) t418) := ⟨by (with_reducible repeat (first | apply Kd.R_alloc | apply Kd.R_drewN | apply Kd.R_drew)); exact Kd.R_mono (Kd.R_far (p := ⟨gb421, 1, none⟩) (Kd.R_far (p := ⟨gb421, 0, none⟩) (Kd.R_types HO420.out BK421.out (by decide)) (fun _ hk => hk.2) (.int .i64 t417)) (fun _ hk => hk.2) (.slice Ao45 t418.length co45)) (fun _ hk => hk.1.2)⟩
     have n2_ : Aside0 (((w40.setCell ⟨gb421, 0, none⟩ (.int .i64 t417)).setCell ⟨gb421, 1, none⟩ (.slice Ao45 t418.length co45)).heap[gb404]? = some (.cells #[.int .i64 a0_0, .slice A0_1 l0_1.length c0_1] 34 (0, 0))) := ⟨by (with_reducible repeat (first | refine blk_drewN ?_ _ | refine blk_drew ?_ | refine blk_alloc ?_ _)); refine blk_far ?_ NB404_421.out _; (with_reducible repeat (first | refine blk_drewN ?_ _ | refine blk_drew ?_ | refine blk_alloc ?_ _)); refine blk_far ?_ NB404_421.out _; (with_reducible repeat (first | refine blk_drewN ?_ _ | refine blk_drew ?_ | refine blk_alloc ?_ _)); exact BK404.out⟩
     have n3_ : Aside0 (((w40.setCell ⟨gb421, 0, none⟩ (.int .i64 t417)).setCell ⟨gb421, 1, none⟩ (.slice Ao45 t418.length co45)).heap[gb405]? = some (.cells #[.int .i64 a1_0, .int .i64 a1_1] 47 (0, 0))) := ⟨by (with_reducible repeat (first | refine blk_drewN ?_ _ | refine blk_drew ?_ | refine blk_alloc ?_ _)); refine blk_far ?_ NB405_421.out _; (with_reducible repeat (first | refine blk_drewN ?_ _ | refine blk_drew ?_ | refine blk_alloc ?_ _)); refine blk_far ?_ NB405_421.out _; (with_reducible repeat (first | refine blk_drewN ?_ _ | refine blk_drew ?_ | refine blk_alloc ?_ _)); exact BK405.out⟩
     have n4_ : Aside0 (((w40.setCell ⟨gb421, 0, none⟩ (.int .i64 t417)).setCell ⟨gb421, 1, none⟩ (.slice Ao45 t418.length co45)).heap[gb406]? = some (.cells #[.int .i64 a2_0, .int .i64 a2_1] 47 (0, 0))) := ⟨by (with_reducible repeat (first | refine blk_drewN ?_ _ | refine blk_drew ?_ | refine blk_alloc ?_ _)); refine blk_far ?_ NB406_421.out _; (with_reducible repeat (first | refine blk_drewN ?_ _ | refine blk_drew ?_ | refine blk_alloc ?_ _)); refine blk_far ?_ NB406_421.out _; (with_reducible repeat (first | refine blk_drewN ?_ _ | refine blk_drew ?_ | refine blk_alloc ?_ _)); exact BK406.out⟩
     have n5_ : Aside0 (((w40.setCell ⟨gb421, 0, none⟩ (.int .i64 t417)).setCell ⟨gb421, 1, none⟩ (.slice Ao45 t418.length co45)).heap[gb421]? = some (.cells #[.int .i64 t417, .slice Ao45 t418.length co45] 39 (0, 0))) := ⟨by (with_reducible repeat (first | refine blk_drewN ?_ _ | refine blk_drew ?_ | refine blk_alloc ?_ _)); refine blk_put (cs := #[.int .i64 t417, .slice none 0 0]) ?_ 1 _ rfl; (with_reducible repeat (first | refine blk_drewN ?_ _ | refine blk_drew ?_ | refine blk_alloc ?_ _)); refine blk_put (cs := #[.int .i64 0, .slice none 0 0]) ?_ 0 _ rfl; (with_reducible repeat (first | refine blk_drewN ?_ _ | refine blk_drew ?_ | refine blk_alloc ?_ _)); exact BK421.out⟩
     have n6_ : Aside0 (Below w.heap.size w ((w40.setCell ⟨gb421, 0, none⟩ (.int .i64 t417)).setCell ⟨gb421, 1, none⟩ (.slice Ao45 t418.length co45))) := ⟨hb_⟩
     (try clear HO411)
     (try clear HO420)
     (try clear BK404)
     (try clear BK405)
     (try clear BK406)
     (try clear BK421)
     (try clear HB)
     generalize ((w40.setCell ⟨gb421, 0, none⟩ (.int .i64 t417)).setCell ⟨gb421, 1, none⟩ (.slice Ao45 t418.length co45)) = w46 at n0_ n1_ n2_ n3_ n4_ n5_ n6_ ⊢
     have HO411 := n0_
     have HO420 := n1_
     have BK404 := n2_
     have BK405 := n3_
     have BK406 := n4_
     have BK421 := n5_
     have HB := n6_
     clear n0_ n1_ n2_ n3_ n4_ n5_ n6_
     have n0_ := Aside0.mk (Kd.R_drew HO411.out)
     have n1_ := Aside0.mk (Kd.R_drew HO420.out)
     have n2_ := Aside0.mk (blk_drew BK404.out)
     have n3_ := Aside0.mk (blk_drew BK405.out)
     have n4_ := Aside0.mk (blk_drew BK406.out)
     have n5_ := Aside0.mk (blk_drew BK421.out)
     have n6_ := Aside0.mk (below_drew1 HB.out)
     clear HO411
     clear HO420
     clear BK404
     clear BK405
     clear BK406
     clear BK421
     clear HB
     have HO411 := n0_
     have HO420 := n1_
     have BK404 := n2_
     have BK405 := n3_
     have BK406 := n4_
     have BK421 := n5_
     have HB := n6_
     clear n0_ n1_ n2_ n3_ n4_ n5_ n6_
     refine start_ (n := 7) (S := fun w' => w'.cell? ⟨gb421, 0, none⟩ = some (.int .i64 t417) ∧ w'.cell? ⟨gb421, 1, none⟩ = some (.slice Ao45 t418.length co45) ∧ w'.cell? ⟨gb405, 0, none⟩ = some (.int .i64 a1_0) ∧ w'.cell? ⟨gb405, 1, none⟩ = some (.int .i64 a1_1) ∧ w'.cell? ⟨gb406, 0, none⟩ = some (.int .i64 a2_0) ∧ w'.cell? ⟨gb406, 1, none⟩ = some (.int .i64 a2_1)) (ds := []) #[false, false, false, false, false, false, false] (by kernel_rfl) rfl rfl ⟨(blk_cell BK421.out 0).trans rfl, (blk_cell BK421.out 1).trans rfl, (blk_cell BK405.out 0).trans rfl, (blk_cell BK405.out 1).trans rfl, (blk_cell BK406.out 0).trans rfl, (blk_cell BK406.out 1).trans rfl⟩ (fun hHeld => ?_)
     generalize w46.drew = w47 at HO411 HO420 BK404 BK405 BK406 BK421 HB hHeld ⊢
     refine take_ (i := 0) (N := some 25) (v := ?_) (a' := ?_) #[true, false, false, false, false, false, false] rfl rfl (by kernel_rfl) (fun _ _ _ h => h) (Or.inl ⟨by rfl, ?_⟩) hHeld ?_ ?_
     rotate_left
     ·rintro w' ⟨s0, s1, s2, s3, s4, s5⟩
      go_simp
      with_reducible rfl
     rotate_left
     ·simp only [Act.put, List.setIfInBounds_toArray, List.set_cons_zero, List.set_cons_succ, i64_w, i32_w]
      rfl
     refine take_ (i := 1) (N := some 26) (v := ?_) (a' := ?_) #[true, true, false, false, false, false, false] rfl rfl (by kernel_rfl) (fun _ _ _ h => h) (Or.inl ⟨by rfl, ?_⟩) hHeld ?_ ?_
     rotate_left
     ·rintro w' ⟨s0, s1, s2, s3, s4, s5⟩
      go_simp
      with_reducible rfl
     rotate_left
     ·simp only [Act.put, List.setIfInBounds_toArray, List.set_cons_zero, List.set_cons_succ, i64_w, i32_w]
      rfl
     refine take_ (i := 3) (N := some 28) (v := ?_) (a' := ?_) #[true, true, false, true, false, false, false] rfl rfl (by kernel_rfl) (fun _ _ _ h => h) (Or.inl ⟨by rfl, ?_⟩) hHeld ?_ ?_
     rotate_left
     ·rintro w' ⟨s0, s1, s2, s3, s4, s5⟩
      go_simp
      with_reducible rfl
     rotate_left
     ·simp only [Act.put, List.setIfInBounds_toArray, List.set_cons_zero, List.set_cons_succ, i64_w, i32_w]
      rfl
     refine one_ (i := 2) (N := some 27) #[true, true, true, true, false, false, false] rfl rfl (by kernel_rfl) (by decide) (fun K hK => ?_)
     refine goes_ Try.func32 (by kernel_rfl) rfl #[.agg #[.int .i64 a1_0, .int .i64 a1_1]] (by rfl) rfl rfl ls_ ?_
     with_reducible refine (laws_toTrip.calls a1_0 a1_1 t422 t423 _ A18.out).mono ?_
     rintro e w48 ⟨rfl, hb⟩
     refine ⟨_, rfl, ?_⟩
     have n0_ := Aside0.mk (Kd.R_below (ra_ HO411.out) hb)
     have n1_ := Aside0.mk (Kd.R_below (ra_ HO420.out) hb)
     have n2_ := bb_ BK404 hb
     have n3_ := bb_ BK405 hb
     have n4_ := bb_ BK406 hb
     have n5_ := bb_ BK421 hb
     have n6_ := Aside0.mk (below_step hb_ hb)
     clear HO411
     clear HO420
     clear BK404
     clear BK405
     clear BK406
     clear BK421
     clear HB
     have HO411 := n0_
     have HO420 := n1_
     have BK404 := n2_
     have BK405 := n3_
     have BK406 := n4_
     have BK421 := n5_
     have HB := n6_
     clear n0_ n1_ n2_ n3_ n4_ n5_ n6_
     (try clear hb)
     (try clear hb2)
     (try clear hk)
     (try clear hi)
     refine hK.out _ _ ⟨(blk_cell BK421.out 0).trans rfl, (blk_cell BK421.out 1).trans rfl, (blk_cell BK405.out 0).trans rfl, (blk_cell BK405.out 1).trans rfl, (blk_cell BK406.out 0).trans rfl, (blk_cell BK406.out 1).trans rfl⟩ (fun hHeld => ?_)
     clear hK K
     refine norm_ (a' := ?_) ?_ ?_
     rotate_left
     ·show Act.put _ (some 27) _ = _
      simp only [Act.put, List.setIfInBounds_toArray, List.set_cons_zero, List.set_cons_succ, i64_w, i32_w]
      rfl
     refine one_ (i := 4) (N := some 29) #[true, true, true, true, true, false, false] rfl rfl (by kernel_rfl) (by decide) (fun K hK => ?_)
     refine goes_ Try.func32 (by kernel_rfl) rfl #[.agg #[.int .i64 a2_0, .int .i64 a2_1]] (by rfl) rfl rfl ls_ ?_
     with_reducible refine (laws_toTrip.calls a2_0 a2_1 t424 t425 _ A19.out).mono ?_
     rintro e w49 ⟨rfl, hb⟩
     refine ⟨_, rfl, ?_⟩
     have n0_ := Aside0.mk (Kd.R_below (ra_ HO411.out) hb)
     have n1_ := Aside0.mk (Kd.R_below (ra_ HO420.out) hb)
     have n2_ := bb_ BK404 hb
     have n3_ := bb_ BK405 hb
     have n4_ := bb_ BK406 hb
     have n5_ := bb_ BK421 hb
     have n6_ := Aside0.mk (below_step hb_ hb)
     clear HO411
     clear HO420
     clear BK404
     clear BK405
     clear BK406
     clear BK421
     clear HB
     have HO411 := n0_
     have HO420 := n1_
     have BK404 := n2_
     have BK405 := n3_
     have BK406 := n4_
     have BK421 := n5_
     have HB := n6_
     clear n0_ n1_ n2_ n3_ n4_ n5_ n6_
     (try clear hb)
     (try clear hb2)
     (try clear hk)
     (try clear hi)
     refine hK.out _ _ ⟨(blk_cell BK421.out 0).trans rfl, (blk_cell BK421.out 1).trans rfl, (blk_cell BK405.out 0).trans rfl, (blk_cell BK405.out 1).trans rfl, (blk_cell BK406.out 0).trans rfl, (blk_cell BK406.out 1).trans rfl⟩ (fun hHeld => ?_)
     clear hK K
     refine norm_ (a' := ?_) ?_ ?_
     rotate_left
     ·show Act.put _ (some 29) _ = _
      simp only [Act.put, List.setIfInBounds_toArray, List.set_cons_zero, List.set_cons_succ, i64_w, i32_w]
      rfl
     refine one_ (i := 5) (N := some 30) #[true, true, true, true, true, true, false] rfl rfl (by kernel_rfl) (by decide) (fun K hK => ?_)
     refine goes_ Try.func35 (by kernel_rfl) rfl #[.agg #[.int .i64 t417, .slice Ao45 t418.length co45], .agg #[.int .i64 t422, .int .i64 t423], .agg #[.int .i64 t424, .int .i64 t425]] (by rfl) rfl rfl ls_ ?_
     with_reducible refine (impl_JointTicks.calls t417 _ _ t418 t422 t423 t424 t425 t426 _ ?side1 ?side2 A20.out).mono ?_
     (case side1 => exact ca_ (Kd.R_reads' HO420.out).2.2)
     (case side2 => exact (Kd.R_reads' HO420.out).2.1)
     rintro e w50 ⟨rfl, hb⟩
     refine ⟨_, rfl, ?_⟩
     have n0_ := Aside0.mk (Kd.R_below (ra_ HO411.out) hb)
     have n1_ := Aside0.mk (Kd.R_below (ra_ HO420.out) hb)
     have n2_ := bb_ BK404 hb
     have n3_ := bb_ BK405 hb
     have n4_ := bb_ BK406 hb
     have n5_ := bb_ BK421 hb
     have n6_ := Aside0.mk (below_step hb_ hb)
     clear HO411
     clear HO420
     clear BK404
     clear BK405
     clear BK406
     clear BK421
     clear HB
     have HO411 := n0_
     have HO420 := n1_
     have BK404 := n2_
     have BK405 := n3_
     have BK406 := n4_
     have BK421 := n5_
     have HB := n6_
     clear n0_ n1_ n2_ n3_ n4_ n5_ n6_
     (try clear hb)
     (try clear hb2)
     (try clear hk)
     (try clear hi)
     refine hK.out _ _ ⟨(blk_cell BK421.out 0).trans rfl, (blk_cell BK421.out 1).trans rfl, (blk_cell BK405.out 0).trans rfl, (blk_cell BK405.out 1).trans rfl, (blk_cell BK406.out 0).trans rfl, (blk_cell BK406.out 1).trans rfl⟩ (fun hHeld => ?_)
     clear hK K
     refine norm_ (a' := ?_) ?_ ?_
     rotate_left
     ·show Act.put _ (some 30) _ = _
      simp only [Act.put, List.setIfInBounds_toArray, List.set_cons_zero, List.set_cons_succ, i64_w, i32_w]
      rfl
     refine pure_ (i := 6) (N := some 10) (v := ?_) (a' := ?_) #[true, true, true, true, true, true, true] rfl rfl (by kernel_rfl) (fun _ _ _ h => h) (Or.inl ⟨by rfl, ?_⟩) ?_ ?_
     rotate_left
     ·intro w'
      go_simp
      with_reducible rfl
     rotate_left
     ·simp only [Act.put, List.setIfInBounds_toArray, List.set_cons_zero, List.set_cons_succ, i64_w, i32_w]
      rfl
     refine done_ (by kernel_rfl) ?_
     try go_wp2
     have n0_ := Aside0.mk (Kd.R_drew HO411.out)
     have n1_ := Aside0.mk (Kd.R_drew HO420.out)
     have n2_ := Aside0.mk (blk_drew BK404.out)
     have n3_ := Aside0.mk (blk_drew BK405.out)
     have n4_ := Aside0.mk (blk_drew BK406.out)
     have n5_ := Aside0.mk (blk_drew BK421.out)
     have n6_ := Aside0.mk (below_drew1 HB.out)
     clear HO411
     clear HO420
     clear BK404
     clear BK405
     clear BK406
     clear BK421
     clear HB
     have HO411 := n0_
     have HO420 := n1_
     have BK404 := n2_
     have BK405 := n3_
     have BK406 := n4_
     have BK421 := n5_
     have HB := n6_
     clear n0_ n1_ n2_ n3_ n4_ n5_ n6_
     refine start_ (n := 5) (S := fun w' => w'.cell? ⟨gb421, 0, none⟩ = some (.int .i64 t417) ∧ w'.cell? ⟨gb421, 1, none⟩ = some (.slice Ao45 t418.length co45) ∧ w'.cell? ⟨gb404, 0, none⟩ = some (.int .i64 a0_0) ∧ w'.cell? ⟨gb404, 1, none⟩ = some (.slice A0_1 l0_1.length c0_1)) (ds := []) #[false, false, false, false, false] (by kernel_rfl) rfl rfl ⟨(blk_cell BK421.out 0).trans rfl, (blk_cell BK421.out 1).trans rfl, (blk_cell BK404.out 0).trans rfl, (blk_cell BK404.out 1).trans rfl⟩ (fun hHeld => ?_)
     generalize w50.drew = w51 at HO411 HO420 BK404 BK405 BK406 BK421 HB hHeld ⊢
     refine take_ (i := 0) (N := some 34) (v := ?_) (a' := ?_) #[true, false, false, false, false] rfl rfl (by kernel_rfl) (fun _ _ _ h => h) (Or.inl ⟨by rfl, ?_⟩) hHeld ?_ ?_
     rotate_left
     ·rintro w' ⟨s0, s1, s2, s3⟩
      go_simp
      with_reducible rfl
     rotate_left
     ·simp only [Act.put, List.setIfInBounds_toArray, List.set_cons_zero, List.set_cons_succ, i64_w, i32_w]
      rfl
     refine take_ (i := 1) (N := some 35) (v := ?_) (a' := ?_) #[true, true, false, false, false] rfl rfl (by kernel_rfl) (fun _ _ _ h => h) (Or.inl ⟨by rfl, ?_⟩) hHeld ?_ ?_
     rotate_left
     ·rintro w' ⟨s0, s1, s2, s3⟩
      go_simp
      with_reducible rfl
     rotate_left
     ·simp only [Act.put, List.setIfInBounds_toArray, List.set_cons_zero, List.set_cons_succ, i64_w, i32_w]
      rfl
     refine one_ (i := 2) (N := some 36) #[true, true, true, false, false] rfl rfl (by kernel_rfl) (by decide) (fun K hK => ?_)
     refine goes_ Try.func26 (by kernel_rfl) rfl #[.agg #[.int .i64 a0_0, .slice A0_1 l0_1.length c0_1]] (by rfl) rfl rfl ls_ ?_
     with_reducible refine (laws_toCells.calls k a0_0 _ _ l0_1 t427 t428 _ ?side1 ?side2 A22.out).mono ?_
     (case side1 => exact cb_ HR0_1.out)
     (case side2 => exact HC0_1.out)
     rintro e w52 ⟨v429, rfl, ho0, hb⟩
     refine ⟨_, rfl, ?_⟩
     have n0_ := Aside0.mk (Kd.R_elder' (ra_ HO411.out) (Kd.R_base ho0) hb)
     have n1_ := Aside0.mk (Kd.R_elder' (ra_ HO420.out) (Kd.R_base ho0) hb)
     have n2_ := Aside0.mk (Kd.R_lower (Kd.R_new' (Kd.R_new' ho0 (Kd.R_lt (ra_ HO411.out))) (Kd.R_lt (ra_ HO420.out))) (below_size hb_))
     have n3_ := bb_ BK404 hb
     have n4_ := bb_ BK405 hb
     have n5_ := bb_ BK406 hb
     have n6_ := bb_ BK421 hb
     have n7_ := Aside0.mk (below_step hb_ hb)
     clear HO411
     clear HO420
     clear BK404
     clear BK405
     clear BK406
     clear BK421
     clear HB
     have HO411 := n0_
     have HO420 := n1_
     have HO430 := n2_
     have BK404 := n3_
     have BK405 := n4_
     have BK406 := n5_
     have BK421 := n6_
     have HB := n7_
     clear n0_ n1_ n2_ n3_ n4_ n5_ n6_ n7_
     (try clear hb)
     (try clear hb2)
     (try clear hk)
     (try clear hi)
     (try clear ho0)
     obtain ⟨Ao53, co53, eo53⟩ := Kd.R_slice HO430.out
     (first | subst eo53 | (injection eo53 with f1_ f2_ f3_; have f4_ := f1_.symm; have f5_ := f3_.symm; clear f1_ f2_ f3_; subst f4_; subst f5_))
     refine hK.out _ _ ⟨(blk_cell BK421.out 0).trans rfl, (blk_cell BK421.out 1).trans rfl, (blk_cell BK404.out 0).trans rfl, (blk_cell BK404.out 1).trans rfl⟩ (fun hHeld => ?_)
     clear hK K
     refine norm_ (a' := ?_) ?_ ?_
     rotate_left
     ·show Act.put _ (some 36) _ = _
      simp only [Act.put, List.setIfInBounds_toArray, List.set_cons_zero, List.set_cons_succ, i64_w, i32_w]
      rfl
     refine one_ (i := 3) (N := some 37) #[true, true, true, true, false] rfl rfl (by kernel_rfl) (by decide) (fun K hK => ?_)
     refine goes_ Try.func29 (by kernel_rfl) rfl #[.agg #[.int .i64 t417, .slice Ao45 t418.length co45], .agg #[.int .i64 t427, .slice Ao53 t428.length co53]] (by rfl) rfl rfl ls_ ?_
     with_reducible refine (laws_eqCells.calls k t417 _ _ t418 t427 _ _ t428 true _ ?side1 ?side2 ?side3 ?side4 A23.out).mono ?_
     (case side1 => exact ca_ (Kd.R_reads' HO420.out).2.2)
     (case side2 => exact (Kd.R_reads' HO420.out).2.1)
     (case side3 => exact ca_ (Kd.R_reads' HO430.out).2.2)
     (case side4 => exact (Kd.R_reads' HO430.out).2.1)
     rintro e w54 ⟨rfl, hb⟩
     refine ⟨_, rfl, ?_⟩
     have n0_ := Aside0.mk (Kd.R_below (ra_ HO411.out) hb)
     have n1_ := Aside0.mk (Kd.R_below (ra_ HO420.out) hb)
     have n2_ := Aside0.mk (Kd.R_below (ra_ HO430.out) hb)
     have n3_ := bb_ BK404 hb
     have n4_ := bb_ BK405 hb
     have n5_ := bb_ BK406 hb
     have n6_ := bb_ BK421 hb
     have n7_ := Aside0.mk (below_step hb_ hb)
     clear HO411
     clear HO420
     clear HO430
     clear BK404
     clear BK405
     clear BK406
     clear BK421
     clear HB
     have HO411 := n0_
     have HO420 := n1_
     have HO430 := n2_
     have BK404 := n3_
     have BK405 := n4_
     have BK406 := n5_
     have BK421 := n6_
     have HB := n7_
     clear n0_ n1_ n2_ n3_ n4_ n5_ n6_ n7_
     (try clear hb)
     (try clear hb2)
     (try clear hk)
     (try clear hi)
     refine hK.out _ _ ⟨(blk_cell BK421.out 0).trans rfl, (blk_cell BK421.out 1).trans rfl, (blk_cell BK404.out 0).trans rfl, (blk_cell BK404.out 1).trans rfl⟩ (fun hHeld => ?_)
     clear hK K
     refine norm_ (a' := ?_) ?_ ?_
     rotate_left
     ·show Act.put _ (some 37) _ = _
      simp only [Act.put, List.setIfInBounds_toArray, List.set_cons_zero, List.set_cons_succ, i64_w, i32_w]
      rfl
     refine pure_ (i := 4) (N := some 38) (v := ?_) (a' := ?_) #[true, true, true, true, true] rfl rfl (by kernel_rfl) (fun _ _ _ h => h) (Or.inl ⟨by rfl, ?_⟩) ?_ ?_
     rotate_left
     ·intro w'
      go_simp
      with_reducible rfl
     rotate_left
     ·simp only [Act.put, List.setIfInBounds_toArray, List.set_cons_zero, List.set_cons_succ, i64_w, i32_w]
      rfl
     refine done_ (by kernel_rfl) ?_
     try go_wp2
     go_ret
     exact ⟨er_, hb_⟩
    ·replace c24 := Bool.eq_false_iff.mpr c24
     subst c24
     rw [if_neg (show ¬ (false = true) by decide)] at H
     obtain rfl := Option.some.inj H
     go_enter Try.func7, Try.ntmps7
     try go_wp2_with (first | ((with_reducible refine gate_dst (N := 3) rfl ?_); refine box_event ?hg (N := 3) ?hd (cs := #[.int .i64 a0_0, .slice A0_1 l0_1.length c0_1]) (t := 34) ?hr ?_; (case hd => rfl); (case hg => rfl); (case hr => first | (go_simp; done) | (go_simp; rfl)); intro gb404 hg w55 hbox hb; have n0_ := Aside0.mk (below_step hb_ hb); have n1_ := Aside0.mk (hbox); have n2_ : Aside0 (w.heap.size ≤ gb404) := gz_; have n3_ : Aside0 (w.heap.size ≤ gb404) := gz_; clear HB; have HB := n0_; have BK404 := n1_; have GW404 := n2_; have GE404 := n3_; clear n0_ n1_ n2_ n3_; clear hb hbox hg) | ((with_reducible refine gate_dst (N := 4) rfl ?_); refine box_event ?hg (N := 4) ?hd (cs := #[.int .i64 a1_0, .int .i64 a1_1]) (t := 47) ?hr ?_; (case hd => rfl); (case hg => rfl); (case hr => first | (go_simp; done) | (go_simp; rfl)); intro gb405 hg w56 hbox hb; have n0_ := bb_ BK404 hb; have n1_ := Aside0.mk (below_step hb_ hb); have n2_ := Aside0.mk (hbox); have n3_ : Aside0 (w.heap.size ≤ gb405) := gz_; have n4_ : Aside0 (w.heap.size ≤ gb405) := gz_; have n5_ := Aside0.mk ((by rw [hg]; exact Nat.ne_of_lt (blk_lt (g := gb404) (o := .cells #[.int .i64 a0_0, .slice A0_1 l0_1.length c0_1] 34 (0, 0)) (bk_ BK404.out)) : gb404 ≠ gb405)); have n6_ := Aside0.mk ((by rw [hg]; exact Nat.ne_of_gt (blk_lt (g := gb404) (o := .cells #[.int .i64 a0_0, .slice A0_1 l0_1.length c0_1] 34 (0, 0)) (bk_ BK404.out)) : gb405 ≠ gb404)); clear BK404; clear HB; have BK404 := n0_; have HB := n1_; have BK405 := n2_; have GW405 := n3_; have GE405 := n4_; have NB404_405 := n5_; have NB405_404 := n6_; clear n0_ n1_ n2_ n3_ n4_ n5_ n6_; clear hb hbox hg) | ((with_reducible refine gate_dst (N := 5) rfl ?_); refine box_event ?hg (N := 5) ?hd (cs := #[.int .i64 a2_0, .int .i64 a2_1]) (t := 47) ?hr ?_; (case hd => rfl); (case hg => rfl); (case hr => first | (go_simp; done) | (go_simp; rfl)); intro gb406 hg w57 hbox hb; have n0_ := bb_ BK404 hb; have n1_ := bb_ BK405 hb; have n2_ := Aside0.mk (below_step hb_ hb); have n3_ := Aside0.mk (hbox); have n4_ : Aside0 (w.heap.size ≤ gb406) := gz_; have n5_ : Aside0 (w.heap.size ≤ gb406) := gz_; have n6_ := Aside0.mk ((by rw [hg]; exact Nat.ne_of_lt (blk_lt (g := gb404) (o := .cells #[.int .i64 a0_0, .slice A0_1 l0_1.length c0_1] 34 (0, 0)) (bk_ BK404.out)) : gb404 ≠ gb406)); have n7_ := Aside0.mk ((by rw [hg]; exact Nat.ne_of_gt (blk_lt (g := gb404) (o := .cells #[.int .i64 a0_0, .slice A0_1 l0_1.length c0_1] 34 (0, 0)) (bk_ BK404.out)) : gb406 ≠ gb404)); have n8_ := Aside0.mk ((by rw [hg]; exact Nat.ne_of_lt (blk_lt (g := gb405) (o := .cells #[.int .i64 a1_0, .int .i64 a1_1] 47 (0, 0)) (bk_ BK405.out)) : gb405 ≠ gb406)); have n9_ := Aside0.mk ((by rw [hg]; exact Nat.ne_of_gt (blk_lt (g := gb405) (o := .cells #[.int .i64 a1_0, .int .i64 a1_1] 47 (0, 0)) (bk_ BK405.out)) : gb406 ≠ gb405)); clear BK404; clear BK405; clear HB; have BK404 := n0_; have BK405 := n1_; have HB := n2_; have BK406 := n3_; have GW406 := n4_; have GE406 := n5_; have NB404_406 := n6_; have NB406_404 := n7_; have NB405_406 := n8_; have NB406_405 := n9_; clear n0_ n1_ n2_ n3_ n4_ n5_ n6_ n7_ n8_ n9_; clear hb hbox hg; have hnb58 := NB404_405.out; have hnc58 := NB405_404.out; have hnb59 := NB404_406.out; have hnc59 := NB406_404.out; have hcz60_0 : w57.cell? ⟨gb404, 0, none⟩ = some (.int .i64 a0_0) := (blk_cell BK404.out 0).trans rfl; have hcz60_1 : w57.cell? ⟨gb404, 1, none⟩ = some (.slice A0_1 l0_1.length c0_1) := (blk_cell BK404.out 1).trans rfl; have hfz60_0 := blk_frozen BK404.out 0; have hfz60_1 := blk_frozen BK404.out 1) | ((with_reducible refine gate_callee (f := 23) rfl ?_); refine goesL_ (some 13) rfl rfl Try.func23 (by kernel_rfl) rfl #[.agg #[.int .i64 a0_0, .slice A0_1 l0_1.length c0_1], .int .i64 1048576] rfl ls_ ?_; (with_reducible refine (laws_szCells.calls a0_0 _ _ l0_1 1048576 t407 _ ?side1 ?side2 A4.out).mono ?_); (case side1 => exact cb_ HR0_1.out); (case side2 => exact HC0_1.out); rintro e w61 ⟨rfl, hb⟩; refine ⟨_, rfl, ?_⟩; have n0_ := bb_ BK404 hb; have n1_ := bb_ BK405 hb; have n2_ := bb_ BK406 hb; have n3_ := Aside0.mk (below_step hb_ hb); clear BK404; clear BK405; clear BK406; clear HB; have BK404 := n0_; have BK405 := n1_; have BK406 := n2_; have HB := n3_; clear n0_ n1_ n2_ n3_; (try clear hb); (try clear hb2); (try clear hk); (try clear hi)))
     have n0_ := Aside0.mk (blk_drew BK404.out)
     have n1_ := Aside0.mk (blk_drew BK405.out)
     have n2_ := Aside0.mk (blk_drew BK406.out)
     have n3_ := Aside0.mk (below_drew1 HB.out)
     clear BK404
     clear BK405
     clear BK406
     clear HB
     have BK404 := n0_
     have BK405 := n1_
     have BK406 := n2_
     have HB := n3_
     clear n0_ n1_ n2_ n3_
     refine start_ (n := 8) (S := fun w' => w'.cell? ⟨gb404, 0, none⟩ = some (.int .i64 a0_0) ∧ w'.cell? ⟨gb404, 1, none⟩ = some (.slice A0_1 l0_1.length c0_1) ∧ w'.cell? ⟨gb405, 0, none⟩ = some (.int .i64 a1_0) ∧ w'.cell? ⟨gb405, 1, none⟩ = some (.int .i64 a1_1) ∧ w'.cell? ⟨gb406, 0, none⟩ = some (.int .i64 a2_0) ∧ w'.cell? ⟨gb406, 1, none⟩ = some (.int .i64 a2_1)) (ds := []) #[false, false, false, false, false, false, false, false] (by kernel_rfl) rfl rfl ⟨(blk_cell BK404.out 0).trans rfl, (blk_cell BK404.out 1).trans rfl, (blk_cell BK405.out 0).trans rfl, (blk_cell BK405.out 1).trans rfl, (blk_cell BK406.out 0).trans rfl, (blk_cell BK406.out 1).trans rfl⟩ (fun hHeld => ?_); refine with_tabW laws_FnExactJointTicks.tab5 laws_FnExactJointTicks.bits5 (fun HT_ HW_ => ?_)
     generalize w61.drew = w62 at BK404 BK405 BK406 HB hHeld ⊢
     refine take_ (i := 0) (N := some 16) (v := ?_) (a' := ?_) #[true, false, false, false, false, false, false, false] rfl rfl (take_ofW HT_.out HW_.out (by kernel_rfl)) (fun _ _ _ h => h) (Or.inl ⟨by rfl, ?_⟩) hHeld ?_ ?_
     rotate_left
     ·rintro w' ⟨s0, s1, s2, s3, s4, s5⟩
      go_simp
      with_reducible rfl
     rotate_left
     ·simp only [Act.put, List.setIfInBounds_toArray, List.set_cons_zero, List.set_cons_succ, i64_w, i32_w]
      rfl
     refine take_ (i := 2) (N := some 18) (v := ?_) (a' := ?_) #[true, false, true, false, false, false, false, false] rfl rfl (take_ofW HT_.out HW_.out (by kernel_rfl)) (fun _ _ _ h => h) (Or.inl ⟨by rfl, ?_⟩) hHeld ?_ ?_
     rotate_left
     ·rintro w' ⟨s0, s1, s2, s3, s4, s5⟩
      go_simp
      with_reducible rfl
     rotate_left
     ·simp only [Act.put, List.setIfInBounds_toArray, List.set_cons_zero, List.set_cons_succ, i64_w, i32_w]
      rfl
     refine take_ (i := 4) (N := some 20) (v := ?_) (a' := ?_) #[true, false, true, false, true, false, false, false] rfl rfl (take_ofW HT_.out HW_.out (by kernel_rfl)) (fun _ _ _ h => h) (Or.inl ⟨by rfl, ?_⟩) hHeld ?_ ?_
     rotate_left
     ·rintro w' ⟨s0, s1, s2, s3, s4, s5⟩
      go_simp
      with_reducible rfl
     rotate_left
     ·simp only [Act.put, List.setIfInBounds_toArray, List.set_cons_zero, List.set_cons_succ, i64_w, i32_w]
      rfl
     refine one_ (i := 1) (N := some 17) #[true, true, true, false, true, false, false, false] rfl rfl (one_of HT_.out (by kernel_rfl)) (by decide) (fun K hK => ?_)
     refine goes_ Try.func26 (by kernel_rfl) rfl #[.agg #[.int .i64 a0_0, .slice A0_1 l0_1.length c0_1]] (by rfl) rfl rfl ls_ ?_
     with_reducible refine (laws_toCells.calls k a0_0 _ _ l0_1 t408 t409 _ ?side1 ?side2 A13.out).mono ?_
     (case side1 => exact cb_ HR0_1.out)
     (case side2 => exact HC0_1.out)
     rintro e w63 ⟨v410, rfl, ho0, hb⟩
     refine ⟨_, rfl, ?_⟩
     have n0_ := Aside0.mk (Kd.R_lower ho0 (below_size hb_))
     have n1_ := bb_ BK404 hb
     have n2_ := bb_ BK405 hb
     have n3_ := bb_ BK406 hb
     have n4_ := Aside0.mk (below_step hb_ hb)
     clear BK404
     clear BK405
     clear BK406
     clear HB
     have HO411 := n0_
     have BK404 := n1_
     have BK405 := n2_
     have BK406 := n3_
     have HB := n4_
     clear n0_ n1_ n2_ n3_ n4_
     (try clear hb)
     (try clear hb2)
     (try clear hk)
     (try clear hi)
     (try clear ho0)
     refine hK.out _ _ ⟨(blk_cell BK404.out 0).trans rfl, (blk_cell BK404.out 1).trans rfl, (blk_cell BK405.out 0).trans rfl, (blk_cell BK405.out 1).trans rfl, (blk_cell BK406.out 0).trans rfl, (blk_cell BK406.out 1).trans rfl⟩ (fun hHeld => ?_)
     clear hK K
     refine norm_ (a' := ?_) ?_ ?_
     rotate_left
     ·show Act.put _ (some 17) _ = _
      simp only [Act.put, List.setIfInBounds_toArray, List.set_cons_zero, List.set_cons_succ, i64_w, i32_w]
      rfl
     refine one_ (i := 3) (N := some 19) #[true, true, true, true, true, false, false, false] rfl rfl (one_of HT_.out (by kernel_rfl)) (by decide) (fun K hK => ?_)
     refine goes_ Try.func32 (by kernel_rfl) rfl #[.agg #[.int .i64 a1_0, .int .i64 a1_1]] (by rfl) rfl rfl ls_ ?_
     with_reducible refine (laws_toTrip.calls a1_0 a1_1 t412 t413 _ A14.out).mono ?_
     rintro e w64 ⟨rfl, hb⟩
     refine ⟨_, rfl, ?_⟩
     have n0_ := Aside0.mk (Kd.R_below (ra_ HO411.out) hb)
     have n1_ := bb_ BK404 hb
     have n2_ := bb_ BK405 hb
     have n3_ := bb_ BK406 hb
     have n4_ := Aside0.mk (below_step hb_ hb)
     clear HO411
     clear BK404
     clear BK405
     clear BK406
     clear HB
     have HO411 := n0_
     have BK404 := n1_
     have BK405 := n2_
     have BK406 := n3_
     have HB := n4_
     clear n0_ n1_ n2_ n3_ n4_
     (try clear hb)
     (try clear hb2)
     (try clear hk)
     (try clear hi)
     refine hK.out _ _ ⟨(blk_cell BK404.out 0).trans rfl, (blk_cell BK404.out 1).trans rfl, (blk_cell BK405.out 0).trans rfl, (blk_cell BK405.out 1).trans rfl, (blk_cell BK406.out 0).trans rfl, (blk_cell BK406.out 1).trans rfl⟩ (fun hHeld => ?_)
     clear hK K
     refine norm_ (a' := ?_) ?_ ?_
     rotate_left
     ·show Act.put _ (some 19) _ = _
      simp only [Act.put, List.setIfInBounds_toArray, List.set_cons_zero, List.set_cons_succ, i64_w, i32_w]
      rfl
     refine one_ (i := 5) (N := some 21) #[true, true, true, true, true, true, false, false] rfl rfl (one_of HT_.out (by kernel_rfl)) (by decide) (fun K hK => ?_)
     refine goes_ Try.func32 (by kernel_rfl) rfl #[.agg #[.int .i64 a2_0, .int .i64 a2_1]] (by rfl) rfl rfl ls_ ?_
     with_reducible refine (laws_toTrip.calls a2_0 a2_1 t414 t415 _ A15.out).mono ?_
     rintro e w65 ⟨rfl, hb⟩
     refine ⟨_, rfl, ?_⟩
     have n0_ := Aside0.mk (Kd.R_below (ra_ HO411.out) hb)
     have n1_ := bb_ BK404 hb
     have n2_ := bb_ BK405 hb
     have n3_ := bb_ BK406 hb
     have n4_ := Aside0.mk (below_step hb_ hb)
     clear HO411
     clear BK404
     clear BK405
     clear BK406
     clear HB
     have HO411 := n0_
     have BK404 := n1_
     have BK405 := n2_
     have BK406 := n3_
     have HB := n4_
     clear n0_ n1_ n2_ n3_ n4_
     (try clear hb)
     (try clear hb2)
     (try clear hk)
     (try clear hi)
     obtain ⟨Ao66, co66, eo66⟩ := Kd.R_slice HO411.out
     (first | subst eo66 | (injection eo66 with f1_ f2_ f3_; have f4_ := f1_.symm; have f5_ := f3_.symm; clear f1_ f2_ f3_; subst f4_; subst f5_))
     refine hK.out _ _ ⟨(blk_cell BK404.out 0).trans rfl, (blk_cell BK404.out 1).trans rfl, (blk_cell BK405.out 0).trans rfl, (blk_cell BK405.out 1).trans rfl, (blk_cell BK406.out 0).trans rfl, (blk_cell BK406.out 1).trans rfl⟩ (fun hHeld => ?_)
     clear hK K
     refine norm_ (a' := ?_) ?_ ?_
     rotate_left
     ·show Act.put _ (some 21) _ = _
      simp only [Act.put, List.setIfInBounds_toArray, List.set_cons_zero, List.set_cons_succ, i64_w, i32_w]
      rfl
     refine one_ (i := 6) (N := some 22) #[true, true, true, true, true, true, true, false] rfl rfl (one_of HT_.out (by kernel_rfl)) (by decide) (fun K hK => ?_)
     refine goes_ Try.func34 (by kernel_rfl) rfl #[.agg #[.int .i64 t408, .slice Ao66 t409.length co66], .agg #[.int .i64 t412, .int .i64 t413], .agg #[.int .i64 t414, .int .i64 t415]] (by rfl) rfl rfl ls_ ?_
     with_reducible refine (spec_JointTicks.calls k t408 _ _ t409 t412 t413 t414 t415 t416 _ ?side1 ?side2 A16.out).mono ?_
     (case side1 => exact ca_ (Kd.R_reads' HO411.out).2.2)
     (case side2 => exact (Kd.R_reads' HO411.out).2.1)
     rintro e w67 ⟨rfl, hb⟩
     refine ⟨_, rfl, ?_⟩
     have n0_ := Aside0.mk (Kd.R_below (ra_ HO411.out) hb)
     have n1_ := bb_ BK404 hb
     have n2_ := bb_ BK405 hb
     have n3_ := bb_ BK406 hb
     have n4_ := Aside0.mk (below_step hb_ hb)
     clear HO411
     clear BK404
     clear BK405
     clear BK406
     clear HB
     have HO411 := n0_
     have BK404 := n1_
     have BK405 := n2_
     have BK406 := n3_
     have HB := n4_
     clear n0_ n1_ n2_ n3_ n4_
     (try clear hb)
     (try clear hb2)
     (try clear hk)
     (try clear hi)
     refine hK.out _ _ ⟨(blk_cell BK404.out 0).trans rfl, (blk_cell BK404.out 1).trans rfl, (blk_cell BK405.out 0).trans rfl, (blk_cell BK405.out 1).trans rfl, (blk_cell BK406.out 0).trans rfl, (blk_cell BK406.out 1).trans rfl⟩ (fun hHeld => ?_)
     clear hK K
     refine norm_ (a' := ?_) ?_ ?_
     rotate_left
     ·show Act.put _ (some 22) _ = _
      simp only [Act.put, List.setIfInBounds_toArray, List.set_cons_zero, List.set_cons_succ, i64_w, i32_w]
      rfl
     refine pure_ (i := 7) (N := some 8) (v := ?_) (a' := ?_) #[true, true, true, true, true, true, true, true] rfl rfl (any_of HT_.out (by kernel_rfl)) (fun _ _ _ h => h) (Or.inl ⟨by rfl, ?_⟩) ?_ ?_
     rotate_left
     ·intro w'
      go_simp
      with_reducible rfl
     rotate_left
     ·simp only [Act.put, List.setIfInBounds_toArray, List.set_cons_zero, List.set_cons_succ, i64_w, i32_w]
      rfl
     refine done_ (done_of HT_.out (by kernel_rfl)) ?_
     have hcz68_0 : w67.cell? ⟨gb404, 0, none⟩ = some (.int .i64 a0_0) := (blk_cell BK404.out 0).trans rfl
     have hcz68_1 : w67.cell? ⟨gb404, 1, none⟩ = some (.slice A0_1 l0_1.length c0_1) := (blk_cell BK404.out 1).trans rfl
     have hfz68_0 := blk_frozen BK404.out 0
     have hfz68_1 := blk_frozen BK404.out 1
     try go_wp2_with (first | ((with_reducible refine gate_callee (f := 26) rfl ?_); refine goesL_ (some 24) rfl rfl Try.func26 (by kernel_rfl) rfl #[.agg #[.int .i64 a0_0, .slice A0_1 l0_1.length c0_1]] rfl ls_ ?_; (with_reducible refine (laws_toCells.calls k a0_0 _ _ l0_1 t417 t418 _ ?side1 ?side2 A17.out).mono ?_); (case side1 => exact cb_ HR0_1.out); (case side2 => exact HC0_1.out); rintro e w69 ⟨v419, rfl, ho0, hb⟩; refine ⟨_, rfl, ?_⟩; have n0_ := Aside0.mk (Kd.R_elder' (ra_ HO411.out) (Kd.R_base ho0) hb); have n1_ := Aside0.mk (Kd.R_lower (Kd.R_new' ho0 (Kd.R_lt (ra_ HO411.out))) (below_size hb_)); have n2_ := bb_ BK404 hb; have n3_ := bb_ BK405 hb; have n4_ := bb_ BK406 hb; have n5_ := Aside0.mk (below_step hb_ hb); clear HO411; clear BK404; clear BK405; clear BK406; clear HB; have HO411 := n0_; have HO420 := n1_; have BK404 := n2_; have BK405 := n3_; have BK406 := n4_; have HB := n5_; clear n0_ n1_ n2_ n3_ n4_ n5_; (try clear hb); (try clear hb2); (try clear hk); (try clear hi); (try clear ho0)) | ((with_reducible refine gate_dst (N := 9) rfl ?_); refine box_event ?hg (N := 9) ?hd (cs := #[.int .i64 0, .slice none 0 0]) (t := 39) ?hr ?_; (case hd => rfl); (case hg => rfl); (case hr => first | (go_simp; done) | (go_simp; rfl)); intro gb421 hg w70 hbox hb; have n0_ := Aside0.mk (Kd.R_below (ra_ HO411.out) hb); have n1_ := Aside0.mk (Kd.R_below (ra_ HO420.out) hb); have n2_ := bb_ BK404 hb; have n3_ := bb_ BK405 hb; have n4_ := bb_ BK406 hb; have n5_ := Aside0.mk (below_step hb_ hb); have n6_ := Aside0.mk (hbox); have n7_ : Aside0 (w.heap.size ≤ gb421) := gz_; have n8_ : Aside0 (w.heap.size ≤ gb421) := gz_; have n9_ := Aside0.mk ((by rw [hg]; exact Nat.ne_of_lt (blk_lt (g := gb404) (o := .cells #[.int .i64 a0_0, .slice A0_1 l0_1.length c0_1] 34 (0, 0)) (bk_ BK404.out)) : gb404 ≠ gb421)); have n10_ := Aside0.mk ((by rw [hg]; exact Nat.ne_of_gt (blk_lt (g := gb404) (o := .cells #[.int .i64 a0_0, .slice A0_1 l0_1.length c0_1] 34 (0, 0)) (bk_ BK404.out)) : gb421 ≠ gb404)); have n11_ := Aside0.mk ((by rw [hg]; exact Nat.ne_of_lt (blk_lt (g := gb405) (o := .cells #[.int .i64 a1_0, .int .i64 a1_1] 47 (0, 0)) (bk_ BK405.out)) : gb405 ≠ gb421)); have n12_ := Aside0.mk ((by rw [hg]; exact Nat.ne_of_gt (blk_lt (g := gb405) (o := .cells #[.int .i64 a1_0, .int .i64 a1_1] 47 (0, 0)) (bk_ BK405.out)) : gb421 ≠ gb405)); have n13_ := Aside0.mk ((by rw [hg]; exact Nat.ne_of_lt (blk_lt (g := gb406) (o := .cells #[.int .i64 a2_0, .int .i64 a2_1] 47 (0, 0)) (bk_ BK406.out)) : gb406 ≠ gb421)); have n14_ := Aside0.mk ((by rw [hg]; exact Nat.ne_of_gt (blk_lt (g := gb406) (o := .cells #[.int .i64 a2_0, .int .i64 a2_1] 47 (0, 0)) (bk_ BK406.out)) : gb421 ≠ gb406)); clear HO411; clear HO420; clear BK404; clear BK405; clear BK406; clear HB; have HO411 := n0_; have HO420 := n1_; have BK404 := n2_; have BK405 := n3_; have BK406 := n4_; have HB := n5_; have BK421 := n6_; have GW421 := n7_; have GE421 := n8_; have NB404_421 := n9_; have NB421_404 := n10_; have NB405_421 := n11_; have NB421_405 := n12_; have NB406_421 := n13_; have NB421_406 := n14_; clear n0_ n1_ n2_ n3_ n4_ n5_ n6_ n7_ n8_ n9_ n10_ n11_ n12_ n13_ n14_; clear hb hbox hg; have hnb71 := NB421_404.out; have hnc71 := NB404_421.out; have hnb72 := NB421_405.out; have hnc72 := NB405_421.out; have hnb73 := NB421_406.out; have hnc73 := NB406_421.out; have hcz74_0 : w70.cell? ⟨gb421, 0, none⟩ = some (.int .i64 0) := (blk_cell BK421.out 0).trans rfl; have hcz74_1 : w70.cell? ⟨gb421, 1, none⟩ = some (.slice none 0 0) := (blk_cell BK421.out 1).trans rfl; have hfz74_0 := blk_frozen BK421.out 0; have hfz74_1 := blk_frozen BK421.out 1; obtain ⟨Ao75, co75, eo75⟩ := Kd.R_slice HO420.out; subst eo75))
     have n0_ : Aside0 (Kd.R (Kd.int .i64) 3 ((w70.setCell ⟨gb421, 0, none⟩ (.int .i64 t417)).setCell ⟨gb421, 1, none⟩ (.slice Ao75 t418.length co75)) w.heap.size (fun k_ => some k_ ≠ (.slice Ao75 t418.length co75 : Value).ownBlock) (.slice Ao66 t409.length co66) t409) := ⟨by (with_reducible repeat (first | apply Kd.R_alloc | apply Kd.R_drewN | apply Kd.R_drew)); exact Kd.R_mono (Kd.R_far (p := ⟨gb421, 1, none⟩) (Kd.R_far (p := ⟨gb421, 0, none⟩) (Kd.R_types HO411.out BK421.out (by decide)) (fun _ hk => hk.2) (.int .i64 t417)) (fun _ hk => hk.2) (.slice Ao75 t418.length co75)) (fun _ hk => hk.1.2)⟩
     have n1_ : Aside0 (Kd.R (Kd.int .i64) 3 ((w70.setCell ⟨gb421, 0, none⟩ (.int .i64 t417)).setCell ⟨gb421, 1, none⟩ (.slice Ao75 t418.length co75)) w.heap.size (fun k_ => some k_ ≠ (.slice Ao66 t409.length co66 : Value).ownBlock) (.slice Ao75 t418.length co75) t418) := ⟨by (with_reducible repeat (first | apply Kd.R_alloc | apply Kd.R_drewN | apply Kd.R_drew)); exact Kd.R_mono (Kd.R_far (p := ⟨gb421, 1, none⟩) (Kd.R_far (p := ⟨gb421, 0, none⟩) (Kd.R_types HO420.out BK421.out (by decide)) (fun _ hk => hk.2) (.int .i64 t417)) (fun _ hk => hk.2) (.slice Ao75 t418.length co75)) (fun _ hk => hk.1.2)⟩
     have n2_ : Aside0 (((w70.setCell ⟨gb421, 0, none⟩ (.int .i64 t417)).setCell ⟨gb421, 1, none⟩ (.slice Ao75 t418.length co75)).heap[gb404]? = some (.cells #[.int .i64 a0_0, .slice A0_1 l0_1.length c0_1] 34 (0, 0))) := ⟨by (with_reducible repeat (first | refine blk_drewN ?_ _ | refine blk_drew ?_ | refine blk_alloc ?_ _)); refine blk_far ?_ NB404_421.out _; (with_reducible repeat (first | refine blk_drewN ?_ _ | refine blk_drew ?_ | refine blk_alloc ?_ _)); refine blk_far ?_ NB404_421.out _; (with_reducible repeat (first | refine blk_drewN ?_ _ | refine blk_drew ?_ | refine blk_alloc ?_ _)); exact BK404.out⟩
     have n3_ : Aside0 (((w70.setCell ⟨gb421, 0, none⟩ (.int .i64 t417)).setCell ⟨gb421, 1, none⟩ (.slice Ao75 t418.length co75)).heap[gb405]? = some (.cells #[.int .i64 a1_0, .int .i64 a1_1] 47 (0, 0))) := ⟨by (with_reducible repeat (first | refine blk_drewN ?_ _ | refine blk_drew ?_ | refine blk_alloc ?_ _)); refine blk_far ?_ NB405_421.out _; (with_reducible repeat (first | refine blk_drewN ?_ _ | refine blk_drew ?_ | refine blk_alloc ?_ _)); refine blk_far ?_ NB405_421.out _; (with_reducible repeat (first | refine blk_drewN ?_ _ | refine blk_drew ?_ | refine blk_alloc ?_ _)); exact BK405.out⟩
     have n4_ : Aside0 (((w70.setCell ⟨gb421, 0, none⟩ (.int .i64 t417)).setCell ⟨gb421, 1, none⟩ (.slice Ao75 t418.length co75)).heap[gb406]? = some (.cells #[.int .i64 a2_0, .int .i64 a2_1] 47 (0, 0))) := ⟨by (with_reducible repeat (first | refine blk_drewN ?_ _ | refine blk_drew ?_ | refine blk_alloc ?_ _)); refine blk_far ?_ NB406_421.out _; (with_reducible repeat (first | refine blk_drewN ?_ _ | refine blk_drew ?_ | refine blk_alloc ?_ _)); refine blk_far ?_ NB406_421.out _; (with_reducible repeat (first | refine blk_drewN ?_ _ | refine blk_drew ?_ | refine blk_alloc ?_ _)); exact BK406.out⟩
     have n5_ : Aside0 (((w70.setCell ⟨gb421, 0, none⟩ (.int .i64 t417)).setCell ⟨gb421, 1, none⟩ (.slice Ao75 t418.length co75)).heap[gb421]? = some (.cells #[.int .i64 t417, .slice Ao75 t418.length co75] 39 (0, 0))) := ⟨by (with_reducible repeat (first | refine blk_drewN ?_ _ | refine blk_drew ?_ | refine blk_alloc ?_ _)); refine blk_put (cs := #[.int .i64 t417, .slice none 0 0]) ?_ 1 _ rfl; (with_reducible repeat (first | refine blk_drewN ?_ _ | refine blk_drew ?_ | refine blk_alloc ?_ _)); refine blk_put (cs := #[.int .i64 0, .slice none 0 0]) ?_ 0 _ rfl; (with_reducible repeat (first | refine blk_drewN ?_ _ | refine blk_drew ?_ | refine blk_alloc ?_ _)); exact BK421.out⟩
     have n6_ : Aside0 (Below w.heap.size w ((w70.setCell ⟨gb421, 0, none⟩ (.int .i64 t417)).setCell ⟨gb421, 1, none⟩ (.slice Ao75 t418.length co75))) := ⟨hb_⟩
     (try clear HO411)
     (try clear HO420)
     (try clear BK404)
     (try clear BK405)
     (try clear BK406)
     (try clear BK421)
     (try clear HB)
     generalize ((w70.setCell ⟨gb421, 0, none⟩ (.int .i64 t417)).setCell ⟨gb421, 1, none⟩ (.slice Ao75 t418.length co75)) = w76 at n0_ n1_ n2_ n3_ n4_ n5_ n6_ ⊢
     have HO411 := n0_
     have HO420 := n1_
     have BK404 := n2_
     have BK405 := n3_
     have BK406 := n4_
     have BK421 := n5_
     have HB := n6_
     clear n0_ n1_ n2_ n3_ n4_ n5_ n6_
     have n0_ := Aside0.mk (Kd.R_drew HO411.out)
     have n1_ := Aside0.mk (Kd.R_drew HO420.out)
     have n2_ := Aside0.mk (blk_drew BK404.out)
     have n3_ := Aside0.mk (blk_drew BK405.out)
     have n4_ := Aside0.mk (blk_drew BK406.out)
     have n5_ := Aside0.mk (blk_drew BK421.out)
     have n6_ := Aside0.mk (below_drew1 HB.out)
     clear HO411
     clear HO420
     clear BK404
     clear BK405
     clear BK406
     clear BK421
     clear HB
     have HO411 := n0_
     have HO420 := n1_
     have BK404 := n2_
     have BK405 := n3_
     have BK406 := n4_
     have BK421 := n5_
     have HB := n6_
     clear n0_ n1_ n2_ n3_ n4_ n5_ n6_
     refine start_ (n := 7) (S := fun w' => w'.cell? ⟨gb421, 0, none⟩ = some (.int .i64 t417) ∧ w'.cell? ⟨gb421, 1, none⟩ = some (.slice Ao75 t418.length co75) ∧ w'.cell? ⟨gb405, 0, none⟩ = some (.int .i64 a1_0) ∧ w'.cell? ⟨gb405, 1, none⟩ = some (.int .i64 a1_1) ∧ w'.cell? ⟨gb406, 0, none⟩ = some (.int .i64 a2_0) ∧ w'.cell? ⟨gb406, 1, none⟩ = some (.int .i64 a2_1)) (ds := []) #[false, false, false, false, false, false, false] (by kernel_rfl) rfl rfl ⟨(blk_cell BK421.out 0).trans rfl, (blk_cell BK421.out 1).trans rfl, (blk_cell BK405.out 0).trans rfl, (blk_cell BK405.out 1).trans rfl, (blk_cell BK406.out 0).trans rfl, (blk_cell BK406.out 1).trans rfl⟩ (fun hHeld => ?_)
     generalize w76.drew = w77 at HO411 HO420 BK404 BK405 BK406 BK421 HB hHeld ⊢
     refine take_ (i := 0) (N := some 25) (v := ?_) (a' := ?_) #[true, false, false, false, false, false, false] rfl rfl (by kernel_rfl) (fun _ _ _ h => h) (Or.inl ⟨by rfl, ?_⟩) hHeld ?_ ?_
     rotate_left
     ·rintro w' ⟨s0, s1, s2, s3, s4, s5⟩
      go_simp
      with_reducible rfl
     rotate_left
     ·simp only [Act.put, List.setIfInBounds_toArray, List.set_cons_zero, List.set_cons_succ, i64_w, i32_w]
      rfl
     refine take_ (i := 1) (N := some 26) (v := ?_) (a' := ?_) #[true, true, false, false, false, false, false] rfl rfl (by kernel_rfl) (fun _ _ _ h => h) (Or.inl ⟨by rfl, ?_⟩) hHeld ?_ ?_
     rotate_left
     ·rintro w' ⟨s0, s1, s2, s3, s4, s5⟩
      go_simp
      with_reducible rfl
     rotate_left
     ·simp only [Act.put, List.setIfInBounds_toArray, List.set_cons_zero, List.set_cons_succ, i64_w, i32_w]
      rfl
     refine take_ (i := 3) (N := some 28) (v := ?_) (a' := ?_) #[true, true, false, true, false, false, false] rfl rfl (by kernel_rfl) (fun _ _ _ h => h) (Or.inl ⟨by rfl, ?_⟩) hHeld ?_ ?_
     rotate_left
     ·rintro w' ⟨s0, s1, s2, s3, s4, s5⟩
      go_simp
      with_reducible rfl
     rotate_left
     ·simp only [Act.put, List.setIfInBounds_toArray, List.set_cons_zero, List.set_cons_succ, i64_w, i32_w]
      rfl
     refine one_ (i := 2) (N := some 27) #[true, true, true, true, false, false, false] rfl rfl (by kernel_rfl) (by decide) (fun K hK => ?_)
     refine goes_ Try.func32 (by kernel_rfl) rfl #[.agg #[.int .i64 a1_0, .int .i64 a1_1]] (by rfl) rfl rfl ls_ ?_
     with_reducible refine (laws_toTrip.calls a1_0 a1_1 t422 t423 _ A18.out).mono ?_
     rintro e w78 ⟨rfl, hb⟩
     refine ⟨_, rfl, ?_⟩
     have n0_ := Aside0.mk (Kd.R_below (ra_ HO411.out) hb)
     have n1_ := Aside0.mk (Kd.R_below (ra_ HO420.out) hb)
     have n2_ := bb_ BK404 hb
     have n3_ := bb_ BK405 hb
     have n4_ := bb_ BK406 hb
     have n5_ := bb_ BK421 hb
     have n6_ := Aside0.mk (below_step hb_ hb)
     clear HO411
     clear HO420
     clear BK404
     clear BK405
     clear BK406
     clear BK421
     clear HB
     have HO411 := n0_
     have HO420 := n1_
     have BK404 := n2_
     have BK405 := n3_
     have BK406 := n4_
     have BK421 := n5_
     have HB := n6_
     clear n0_ n1_ n2_ n3_ n4_ n5_ n6_
     (try clear hb)
     (try clear hb2)
     (try clear hk)
     (try clear hi)
     refine hK.out _ _ ⟨(blk_cell BK421.out 0).trans rfl, (blk_cell BK421.out 1).trans rfl, (blk_cell BK405.out 0).trans rfl, (blk_cell BK405.out 1).trans rfl, (blk_cell BK406.out 0).trans rfl, (blk_cell BK406.out 1).trans rfl⟩ (fun hHeld => ?_)
     clear hK K
     refine norm_ (a' := ?_) ?_ ?_
     rotate_left
     ·show Act.put _ (some 27) _ = _
      simp only [Act.put, List.setIfInBounds_toArray, List.set_cons_zero, List.set_cons_succ, i64_w, i32_w]
      rfl
     refine one_ (i := 4) (N := some 29) #[true, true, true, true, true, false, false] rfl rfl (by kernel_rfl) (by decide) (fun K hK => ?_)
     refine goes_ Try.func32 (by kernel_rfl) rfl #[.agg #[.int .i64 a2_0, .int .i64 a2_1]] (by rfl) rfl rfl ls_ ?_
     with_reducible refine (laws_toTrip.calls a2_0 a2_1 t424 t425 _ A19.out).mono ?_
     rintro e w79 ⟨rfl, hb⟩
     refine ⟨_, rfl, ?_⟩
     have n0_ := Aside0.mk (Kd.R_below (ra_ HO411.out) hb)
     have n1_ := Aside0.mk (Kd.R_below (ra_ HO420.out) hb)
     have n2_ := bb_ BK404 hb
     have n3_ := bb_ BK405 hb
     have n4_ := bb_ BK406 hb
     have n5_ := bb_ BK421 hb
     have n6_ := Aside0.mk (below_step hb_ hb)
     clear HO411
     clear HO420
     clear BK404
     clear BK405
     clear BK406
     clear BK421
     clear HB
     have HO411 := n0_
     have HO420 := n1_
     have BK404 := n2_
     have BK405 := n3_
     have BK406 := n4_
     have BK421 := n5_
     have HB := n6_
     clear n0_ n1_ n2_ n3_ n4_ n5_ n6_
     (try clear hb)
     (try clear hb2)
     (try clear hk)
     (try clear hi)
     refine hK.out _ _ ⟨(blk_cell BK421.out 0).trans rfl, (blk_cell BK421.out 1).trans rfl, (blk_cell BK405.out 0).trans rfl, (blk_cell BK405.out 1).trans rfl, (blk_cell BK406.out 0).trans rfl, (blk_cell BK406.out 1).trans rfl⟩ (fun hHeld => ?_)
     clear hK K
     refine norm_ (a' := ?_) ?_ ?_
     rotate_left
     ·show Act.put _ (some 29) _ = _
      simp only [Act.put, List.setIfInBounds_toArray, List.set_cons_zero, List.set_cons_succ, i64_w, i32_w]
      rfl
     refine one_ (i := 5) (N := some 30) #[true, true, true, true, true, true, false] rfl rfl (by kernel_rfl) (by decide) (fun K hK => ?_)
     refine goes_ Try.func35 (by kernel_rfl) rfl #[.agg #[.int .i64 t417, .slice Ao75 t418.length co75], .agg #[.int .i64 t422, .int .i64 t423], .agg #[.int .i64 t424, .int .i64 t425]] (by rfl) rfl rfl ls_ ?_
     with_reducible refine (impl_JointTicks.calls t417 _ _ t418 t422 t423 t424 t425 t426 _ ?side1 ?side2 A20.out).mono ?_
     (case side1 => exact ca_ (Kd.R_reads' HO420.out).2.2)
     (case side2 => exact (Kd.R_reads' HO420.out).2.1)
     rintro e w80 ⟨rfl, hb⟩
     refine ⟨_, rfl, ?_⟩
     have n0_ := Aside0.mk (Kd.R_below (ra_ HO411.out) hb)
     have n1_ := Aside0.mk (Kd.R_below (ra_ HO420.out) hb)
     have n2_ := bb_ BK404 hb
     have n3_ := bb_ BK405 hb
     have n4_ := bb_ BK406 hb
     have n5_ := bb_ BK421 hb
     have n6_ := Aside0.mk (below_step hb_ hb)
     clear HO411
     clear HO420
     clear BK404
     clear BK405
     clear BK406
     clear BK421
     clear HB
     have HO411 := n0_
     have HO420 := n1_
     have BK404 := n2_
     have BK405 := n3_
     have BK406 := n4_
     have BK421 := n5_
     have HB := n6_
     clear n0_ n1_ n2_ n3_ n4_ n5_ n6_
     (try clear hb)
     (try clear hb2)
     (try clear hk)
     (try clear hi)
     refine hK.out _ _ ⟨(blk_cell BK421.out 0).trans rfl, (blk_cell BK421.out 1).trans rfl, (blk_cell BK405.out 0).trans rfl, (blk_cell BK405.out 1).trans rfl, (blk_cell BK406.out 0).trans rfl, (blk_cell BK406.out 1).trans rfl⟩ (fun hHeld => ?_)
     clear hK K
     refine norm_ (a' := ?_) ?_ ?_
     rotate_left
     ·show Act.put _ (some 30) _ = _
      simp only [Act.put, List.setIfInBounds_toArray, List.set_cons_zero, List.set_cons_succ, i64_w, i32_w]
      rfl
     refine pure_ (i := 6) (N := some 10) (v := ?_) (a' := ?_) #[true, true, true, true, true, true, true] rfl rfl (by kernel_rfl) (fun _ _ _ h => h) (Or.inl ⟨by rfl, ?_⟩) ?_ ?_
     rotate_left
     ·intro w'
      go_simp
      with_reducible rfl
     rotate_left
     ·simp only [Act.put, List.setIfInBounds_toArray, List.set_cons_zero, List.set_cons_succ, i64_w, i32_w]
      rfl
     refine done_ (by kernel_rfl) ?_
     try go_wp2
     have n0_ := Aside0.mk (Kd.R_drew HO411.out)
     have n1_ := Aside0.mk (Kd.R_drew HO420.out)
     have n2_ := Aside0.mk (blk_drew BK404.out)
     have n3_ := Aside0.mk (blk_drew BK405.out)
     have n4_ := Aside0.mk (blk_drew BK406.out)
     have n5_ := Aside0.mk (blk_drew BK421.out)
     have n6_ := Aside0.mk (below_drew1 HB.out)
     clear HO411
     clear HO420
     clear BK404
     clear BK405
     clear BK406
     clear BK421
     clear HB
     have HO411 := n0_
     have HO420 := n1_
     have BK404 := n2_
     have BK405 := n3_
     have BK406 := n4_
     have BK421 := n5_
     have HB := n6_
     clear n0_ n1_ n2_ n3_ n4_ n5_ n6_
     refine start_ (n := 5) (S := fun w' => w'.cell? ⟨gb421, 0, none⟩ = some (.int .i64 t417) ∧ w'.cell? ⟨gb421, 1, none⟩ = some (.slice Ao75 t418.length co75) ∧ w'.cell? ⟨gb404, 0, none⟩ = some (.int .i64 a0_0) ∧ w'.cell? ⟨gb404, 1, none⟩ = some (.slice A0_1 l0_1.length c0_1)) (ds := []) #[false, false, false, false, false] (by kernel_rfl) rfl rfl ⟨(blk_cell BK421.out 0).trans rfl, (blk_cell BK421.out 1).trans rfl, (blk_cell BK404.out 0).trans rfl, (blk_cell BK404.out 1).trans rfl⟩ (fun hHeld => ?_)
     generalize w80.drew = w81 at HO411 HO420 BK404 BK405 BK406 BK421 HB hHeld ⊢
     refine take_ (i := 0) (N := some 34) (v := ?_) (a' := ?_) #[true, false, false, false, false] rfl rfl (by kernel_rfl) (fun _ _ _ h => h) (Or.inl ⟨by rfl, ?_⟩) hHeld ?_ ?_
     rotate_left
     ·rintro w' ⟨s0, s1, s2, s3⟩
      go_simp
      with_reducible rfl
     rotate_left
     ·simp only [Act.put, List.setIfInBounds_toArray, List.set_cons_zero, List.set_cons_succ, i64_w, i32_w]
      rfl
     refine take_ (i := 1) (N := some 35) (v := ?_) (a' := ?_) #[true, true, false, false, false] rfl rfl (by kernel_rfl) (fun _ _ _ h => h) (Or.inl ⟨by rfl, ?_⟩) hHeld ?_ ?_
     rotate_left
     ·rintro w' ⟨s0, s1, s2, s3⟩
      go_simp
      with_reducible rfl
     rotate_left
     ·simp only [Act.put, List.setIfInBounds_toArray, List.set_cons_zero, List.set_cons_succ, i64_w, i32_w]
      rfl
     refine one_ (i := 2) (N := some 36) #[true, true, true, false, false] rfl rfl (by kernel_rfl) (by decide) (fun K hK => ?_)
     refine goes_ Try.func26 (by kernel_rfl) rfl #[.agg #[.int .i64 a0_0, .slice A0_1 l0_1.length c0_1]] (by rfl) rfl rfl ls_ ?_
     with_reducible refine (laws_toCells.calls k a0_0 _ _ l0_1 t427 t428 _ ?side1 ?side2 A22.out).mono ?_
     (case side1 => exact cb_ HR0_1.out)
     (case side2 => exact HC0_1.out)
     rintro e w82 ⟨v429, rfl, ho0, hb⟩
     refine ⟨_, rfl, ?_⟩
     have n0_ := Aside0.mk (Kd.R_elder' (ra_ HO411.out) (Kd.R_base ho0) hb)
     have n1_ := Aside0.mk (Kd.R_elder' (ra_ HO420.out) (Kd.R_base ho0) hb)
     have n2_ := Aside0.mk (Kd.R_lower (Kd.R_new' (Kd.R_new' ho0 (Kd.R_lt (ra_ HO411.out))) (Kd.R_lt (ra_ HO420.out))) (below_size hb_))
     have n3_ := bb_ BK404 hb
     have n4_ := bb_ BK405 hb
     have n5_ := bb_ BK406 hb
     have n6_ := bb_ BK421 hb
     have n7_ := Aside0.mk (below_step hb_ hb)
     clear HO411
     clear HO420
     clear BK404
     clear BK405
     clear BK406
     clear BK421
     clear HB
     have HO411 := n0_
     have HO420 := n1_
     have HO430 := n2_
     have BK404 := n3_
     have BK405 := n4_
     have BK406 := n5_
     have BK421 := n6_
     have HB := n7_
     clear n0_ n1_ n2_ n3_ n4_ n5_ n6_ n7_
     (try clear hb)
     (try clear hb2)
     (try clear hk)
     (try clear hi)
     (try clear ho0)
     obtain ⟨Ao83, co83, eo83⟩ := Kd.R_slice HO430.out
     (first | subst eo83 | (injection eo83 with f1_ f2_ f3_; have f4_ := f1_.symm; have f5_ := f3_.symm; clear f1_ f2_ f3_; subst f4_; subst f5_))
     refine hK.out _ _ ⟨(blk_cell BK421.out 0).trans rfl, (blk_cell BK421.out 1).trans rfl, (blk_cell BK404.out 0).trans rfl, (blk_cell BK404.out 1).trans rfl⟩ (fun hHeld => ?_)
     clear hK K
     refine norm_ (a' := ?_) ?_ ?_
     rotate_left
     ·show Act.put _ (some 36) _ = _
      simp only [Act.put, List.setIfInBounds_toArray, List.set_cons_zero, List.set_cons_succ, i64_w, i32_w]
      rfl
     refine one_ (i := 3) (N := some 37) #[true, true, true, true, false] rfl rfl (by kernel_rfl) (by decide) (fun K hK => ?_)
     refine goes_ Try.func29 (by kernel_rfl) rfl #[.agg #[.int .i64 t417, .slice Ao75 t418.length co75], .agg #[.int .i64 t427, .slice Ao83 t428.length co83]] (by rfl) rfl rfl ls_ ?_
     with_reducible refine (laws_eqCells.calls k t417 _ _ t418 t427 _ _ t428 false _ ?side1 ?side2 ?side3 ?side4 A23.out).mono ?_
     (case side1 => exact ca_ (Kd.R_reads' HO420.out).2.2)
     (case side2 => exact (Kd.R_reads' HO420.out).2.1)
     (case side3 => exact ca_ (Kd.R_reads' HO430.out).2.2)
     (case side4 => exact (Kd.R_reads' HO430.out).2.1)
     rintro e w84 ⟨rfl, hb⟩
     refine ⟨_, rfl, ?_⟩
     have n0_ := Aside0.mk (Kd.R_below (ra_ HO411.out) hb)
     have n1_ := Aside0.mk (Kd.R_below (ra_ HO420.out) hb)
     have n2_ := Aside0.mk (Kd.R_below (ra_ HO430.out) hb)
     have n3_ := bb_ BK404 hb
     have n4_ := bb_ BK405 hb
     have n5_ := bb_ BK406 hb
     have n6_ := bb_ BK421 hb
     have n7_ := Aside0.mk (below_step hb_ hb)
     clear HO411
     clear HO420
     clear HO430
     clear BK404
     clear BK405
     clear BK406
     clear BK421
     clear HB
     have HO411 := n0_
     have HO420 := n1_
     have HO430 := n2_
     have BK404 := n3_
     have BK405 := n4_
     have BK406 := n5_
     have BK421 := n6_
     have HB := n7_
     clear n0_ n1_ n2_ n3_ n4_ n5_ n6_ n7_
     (try clear hb)
     (try clear hb2)
     (try clear hk)
     (try clear hi)
     refine hK.out _ _ ⟨(blk_cell BK421.out 0).trans rfl, (blk_cell BK421.out 1).trans rfl, (blk_cell BK404.out 0).trans rfl, (blk_cell BK404.out 1).trans rfl⟩ (fun hHeld => ?_)
     clear hK K
     refine norm_ (a' := ?_) ?_ ?_
     rotate_left
     ·show Act.put _ (some 37) _ = _
      simp only [Act.put, List.setIfInBounds_toArray, List.set_cons_zero, List.set_cons_succ, i64_w, i32_w]
      rfl
     refine pure_ (i := 4) (N := some 38) (v := ?_) (a' := ?_) #[true, true, true, true, true] rfl rfl (by kernel_rfl) (fun _ _ _ h => h) (Or.inl ⟨by rfl, ?_⟩) ?_ ?_
     rotate_left
     ·intro w'
      go_simp
      with_reducible rfl
     rotate_left
     ·simp only [Act.put, List.setIfInBounds_toArray, List.set_cons_zero, List.set_cons_succ, i64_w, i32_w]
      rfl
     refine done_ (by kernel_rfl) ?_
     try go_wp2
     go_ret
     exact ⟨er_, hb_⟩
   ·rw [if_neg c21] at H
    have c21b0 : (t426 == t416) = false := beq_eq_false_iff_ne.mpr c21
    have c21b1 : (t426 != t416) = true := bne_iff_ne.mpr c21
    obtain rfl := Option.some.inj H
    go_enter Try.func7, Try.ntmps7
    try go_wp2_with (first | ((with_reducible refine gate_dst (N := 3) rfl ?_); refine box_event ?hg (N := 3) ?hd (cs := #[.int .i64 a0_0, .slice A0_1 l0_1.length c0_1]) (t := 34) ?hr ?_; (case hd => rfl); (case hg => rfl); (case hr => first | (go_simp; done) | (go_simp; rfl)); intro gb404 hg w85 hbox hb; have n0_ := Aside0.mk (below_step hb_ hb); have n1_ := Aside0.mk (hbox); have n2_ : Aside0 (w.heap.size ≤ gb404) := gz_; have n3_ : Aside0 (w.heap.size ≤ gb404) := gz_; clear HB; have HB := n0_; have BK404 := n1_; have GW404 := n2_; have GE404 := n3_; clear n0_ n1_ n2_ n3_; clear hb hbox hg) | ((with_reducible refine gate_dst (N := 4) rfl ?_); refine box_event ?hg (N := 4) ?hd (cs := #[.int .i64 a1_0, .int .i64 a1_1]) (t := 47) ?hr ?_; (case hd => rfl); (case hg => rfl); (case hr => first | (go_simp; done) | (go_simp; rfl)); intro gb405 hg w86 hbox hb; have n0_ := bb_ BK404 hb; have n1_ := Aside0.mk (below_step hb_ hb); have n2_ := Aside0.mk (hbox); have n3_ : Aside0 (w.heap.size ≤ gb405) := gz_; have n4_ : Aside0 (w.heap.size ≤ gb405) := gz_; have n5_ := Aside0.mk ((by rw [hg]; exact Nat.ne_of_lt (blk_lt (g := gb404) (o := .cells #[.int .i64 a0_0, .slice A0_1 l0_1.length c0_1] 34 (0, 0)) (bk_ BK404.out)) : gb404 ≠ gb405)); have n6_ := Aside0.mk ((by rw [hg]; exact Nat.ne_of_gt (blk_lt (g := gb404) (o := .cells #[.int .i64 a0_0, .slice A0_1 l0_1.length c0_1] 34 (0, 0)) (bk_ BK404.out)) : gb405 ≠ gb404)); clear BK404; clear HB; have BK404 := n0_; have HB := n1_; have BK405 := n2_; have GW405 := n3_; have GE405 := n4_; have NB404_405 := n5_; have NB405_404 := n6_; clear n0_ n1_ n2_ n3_ n4_ n5_ n6_; clear hb hbox hg) | ((with_reducible refine gate_dst (N := 5) rfl ?_); refine box_event ?hg (N := 5) ?hd (cs := #[.int .i64 a2_0, .int .i64 a2_1]) (t := 47) ?hr ?_; (case hd => rfl); (case hg => rfl); (case hr => first | (go_simp; done) | (go_simp; rfl)); intro gb406 hg w87 hbox hb; have n0_ := bb_ BK404 hb; have n1_ := bb_ BK405 hb; have n2_ := Aside0.mk (below_step hb_ hb); have n3_ := Aside0.mk (hbox); have n4_ : Aside0 (w.heap.size ≤ gb406) := gz_; have n5_ : Aside0 (w.heap.size ≤ gb406) := gz_; have n6_ := Aside0.mk ((by rw [hg]; exact Nat.ne_of_lt (blk_lt (g := gb404) (o := .cells #[.int .i64 a0_0, .slice A0_1 l0_1.length c0_1] 34 (0, 0)) (bk_ BK404.out)) : gb404 ≠ gb406)); have n7_ := Aside0.mk ((by rw [hg]; exact Nat.ne_of_gt (blk_lt (g := gb404) (o := .cells #[.int .i64 a0_0, .slice A0_1 l0_1.length c0_1] 34 (0, 0)) (bk_ BK404.out)) : gb406 ≠ gb404)); have n8_ := Aside0.mk ((by rw [hg]; exact Nat.ne_of_lt (blk_lt (g := gb405) (o := .cells #[.int .i64 a1_0, .int .i64 a1_1] 47 (0, 0)) (bk_ BK405.out)) : gb405 ≠ gb406)); have n9_ := Aside0.mk ((by rw [hg]; exact Nat.ne_of_gt (blk_lt (g := gb405) (o := .cells #[.int .i64 a1_0, .int .i64 a1_1] 47 (0, 0)) (bk_ BK405.out)) : gb406 ≠ gb405)); clear BK404; clear BK405; clear HB; have BK404 := n0_; have BK405 := n1_; have HB := n2_; have BK406 := n3_; have GW406 := n4_; have GE406 := n5_; have NB404_406 := n6_; have NB406_404 := n7_; have NB405_406 := n8_; have NB406_405 := n9_; clear n0_ n1_ n2_ n3_ n4_ n5_ n6_ n7_ n8_ n9_; clear hb hbox hg; have hnb88 := NB404_405.out; have hnc88 := NB405_404.out; have hnb89 := NB404_406.out; have hnc89 := NB406_404.out; have hcz90_0 : w87.cell? ⟨gb404, 0, none⟩ = some (.int .i64 a0_0) := (blk_cell BK404.out 0).trans rfl; have hcz90_1 : w87.cell? ⟨gb404, 1, none⟩ = some (.slice A0_1 l0_1.length c0_1) := (blk_cell BK404.out 1).trans rfl; have hfz90_0 := blk_frozen BK404.out 0; have hfz90_1 := blk_frozen BK404.out 1) | ((with_reducible refine gate_callee (f := 23) rfl ?_); refine goesL_ (some 13) rfl rfl Try.func23 (by kernel_rfl) rfl #[.agg #[.int .i64 a0_0, .slice A0_1 l0_1.length c0_1], .int .i64 1048576] rfl ls_ ?_; (with_reducible refine (laws_szCells.calls a0_0 _ _ l0_1 1048576 t407 _ ?side1 ?side2 A4.out).mono ?_); (case side1 => exact cb_ HR0_1.out); (case side2 => exact HC0_1.out); rintro e w91 ⟨rfl, hb⟩; refine ⟨_, rfl, ?_⟩; have n0_ := bb_ BK404 hb; have n1_ := bb_ BK405 hb; have n2_ := bb_ BK406 hb; have n3_ := Aside0.mk (below_step hb_ hb); clear BK404; clear BK405; clear BK406; clear HB; have BK404 := n0_; have BK405 := n1_; have BK406 := n2_; have HB := n3_; clear n0_ n1_ n2_ n3_; (try clear hb); (try clear hb2); (try clear hk); (try clear hi)))
    have n0_ := Aside0.mk (blk_drew BK404.out)
    have n1_ := Aside0.mk (blk_drew BK405.out)
    have n2_ := Aside0.mk (blk_drew BK406.out)
    have n3_ := Aside0.mk (below_drew1 HB.out)
    clear BK404
    clear BK405
    clear BK406
    clear HB
    have BK404 := n0_
    have BK405 := n1_
    have BK406 := n2_
    have HB := n3_
    clear n0_ n1_ n2_ n3_
    refine start_ (n := 8) (S := fun w' => w'.cell? ⟨gb404, 0, none⟩ = some (.int .i64 a0_0) ∧ w'.cell? ⟨gb404, 1, none⟩ = some (.slice A0_1 l0_1.length c0_1) ∧ w'.cell? ⟨gb405, 0, none⟩ = some (.int .i64 a1_0) ∧ w'.cell? ⟨gb405, 1, none⟩ = some (.int .i64 a1_1) ∧ w'.cell? ⟨gb406, 0, none⟩ = some (.int .i64 a2_0) ∧ w'.cell? ⟨gb406, 1, none⟩ = some (.int .i64 a2_1)) (ds := []) #[false, false, false, false, false, false, false, false] (by kernel_rfl) rfl rfl ⟨(blk_cell BK404.out 0).trans rfl, (blk_cell BK404.out 1).trans rfl, (blk_cell BK405.out 0).trans rfl, (blk_cell BK405.out 1).trans rfl, (blk_cell BK406.out 0).trans rfl, (blk_cell BK406.out 1).trans rfl⟩ (fun hHeld => ?_); refine with_tabW laws_FnExactJointTicks.tab5 laws_FnExactJointTicks.bits5 (fun HT_ HW_ => ?_)
    generalize w91.drew = w92 at BK404 BK405 BK406 HB hHeld ⊢
    refine take_ (i := 0) (N := some 16) (v := ?_) (a' := ?_) #[true, false, false, false, false, false, false, false] rfl rfl (take_ofW HT_.out HW_.out (by kernel_rfl)) (fun _ _ _ h => h) (Or.inl ⟨by rfl, ?_⟩) hHeld ?_ ?_
    rotate_left
    ·rintro w' ⟨s0, s1, s2, s3, s4, s5⟩
     go_simp
     with_reducible rfl
    rotate_left
    ·simp only [Act.put, List.setIfInBounds_toArray, List.set_cons_zero, List.set_cons_succ, i64_w, i32_w]
     rfl
    refine take_ (i := 2) (N := some 18) (v := ?_) (a' := ?_) #[true, false, true, false, false, false, false, false] rfl rfl (take_ofW HT_.out HW_.out (by kernel_rfl)) (fun _ _ _ h => h) (Or.inl ⟨by rfl, ?_⟩) hHeld ?_ ?_
    rotate_left
    ·rintro w' ⟨s0, s1, s2, s3, s4, s5⟩
     go_simp
     with_reducible rfl
    rotate_left
    ·simp only [Act.put, List.setIfInBounds_toArray, List.set_cons_zero, List.set_cons_succ, i64_w, i32_w]
     rfl
    refine take_ (i := 4) (N := some 20) (v := ?_) (a' := ?_) #[true, false, true, false, true, false, false, false] rfl rfl (take_ofW HT_.out HW_.out (by kernel_rfl)) (fun _ _ _ h => h) (Or.inl ⟨by rfl, ?_⟩) hHeld ?_ ?_
    rotate_left
    ·rintro w' ⟨s0, s1, s2, s3, s4, s5⟩
     go_simp
     with_reducible rfl
    rotate_left
    ·simp only [Act.put, List.setIfInBounds_toArray, List.set_cons_zero, List.set_cons_succ, i64_w, i32_w]
     rfl
    refine one_ (i := 1) (N := some 17) #[true, true, true, false, true, false, false, false] rfl rfl (one_of HT_.out (by kernel_rfl)) (by decide) (fun K hK => ?_)
    refine goes_ Try.func26 (by kernel_rfl) rfl #[.agg #[.int .i64 a0_0, .slice A0_1 l0_1.length c0_1]] (by rfl) rfl rfl ls_ ?_
    with_reducible refine (laws_toCells.calls k a0_0 _ _ l0_1 t408 t409 _ ?side1 ?side2 A13.out).mono ?_
    (case side1 => exact cb_ HR0_1.out)
    (case side2 => exact HC0_1.out)
    rintro e w93 ⟨v410, rfl, ho0, hb⟩
    refine ⟨_, rfl, ?_⟩
    have n0_ := Aside0.mk (Kd.R_lower ho0 (below_size hb_))
    have n1_ := bb_ BK404 hb
    have n2_ := bb_ BK405 hb
    have n3_ := bb_ BK406 hb
    have n4_ := Aside0.mk (below_step hb_ hb)
    clear BK404
    clear BK405
    clear BK406
    clear HB
    have HO411 := n0_
    have BK404 := n1_
    have BK405 := n2_
    have BK406 := n3_
    have HB := n4_
    clear n0_ n1_ n2_ n3_ n4_
    (try clear hb)
    (try clear hb2)
    (try clear hk)
    (try clear hi)
    (try clear ho0)
    refine hK.out _ _ ⟨(blk_cell BK404.out 0).trans rfl, (blk_cell BK404.out 1).trans rfl, (blk_cell BK405.out 0).trans rfl, (blk_cell BK405.out 1).trans rfl, (blk_cell BK406.out 0).trans rfl, (blk_cell BK406.out 1).trans rfl⟩ (fun hHeld => ?_)
    clear hK K
    refine norm_ (a' := ?_) ?_ ?_
    rotate_left
    ·show Act.put _ (some 17) _ = _
     simp only [Act.put, List.setIfInBounds_toArray, List.set_cons_zero, List.set_cons_succ, i64_w, i32_w]
     rfl
    refine one_ (i := 3) (N := some 19) #[true, true, true, true, true, false, false, false] rfl rfl (one_of HT_.out (by kernel_rfl)) (by decide) (fun K hK => ?_)
    refine goes_ Try.func32 (by kernel_rfl) rfl #[.agg #[.int .i64 a1_0, .int .i64 a1_1]] (by rfl) rfl rfl ls_ ?_
    with_reducible refine (laws_toTrip.calls a1_0 a1_1 t412 t413 _ A14.out).mono ?_
    rintro e w94 ⟨rfl, hb⟩
    refine ⟨_, rfl, ?_⟩
    have n0_ := Aside0.mk (Kd.R_below (ra_ HO411.out) hb)
    have n1_ := bb_ BK404 hb
    have n2_ := bb_ BK405 hb
    have n3_ := bb_ BK406 hb
    have n4_ := Aside0.mk (below_step hb_ hb)
    clear HO411
    clear BK404
    clear BK405
    clear BK406
    clear HB
    have HO411 := n0_
    have BK404 := n1_
    have BK405 := n2_
    have BK406 := n3_
    have HB := n4_
    clear n0_ n1_ n2_ n3_ n4_
    (try clear hb)
    (try clear hb2)
    (try clear hk)
    (try clear hi)
    refine hK.out _ _ ⟨(blk_cell BK404.out 0).trans rfl, (blk_cell BK404.out 1).trans rfl, (blk_cell BK405.out 0).trans rfl, (blk_cell BK405.out 1).trans rfl, (blk_cell BK406.out 0).trans rfl, (blk_cell BK406.out 1).trans rfl⟩ (fun hHeld => ?_)
    clear hK K
    refine norm_ (a' := ?_) ?_ ?_
    rotate_left
    ·show Act.put _ (some 19) _ = _
     simp only [Act.put, List.setIfInBounds_toArray, List.set_cons_zero, List.set_cons_succ, i64_w, i32_w]
     rfl
    refine one_ (i := 5) (N := some 21) #[true, true, true, true, true, true, false, false] rfl rfl (one_of HT_.out (by kernel_rfl)) (by decide) (fun K hK => ?_)
    refine goes_ Try.func32 (by kernel_rfl) rfl #[.agg #[.int .i64 a2_0, .int .i64 a2_1]] (by rfl) rfl rfl ls_ ?_
    with_reducible refine (laws_toTrip.calls a2_0 a2_1 t414 t415 _ A15.out).mono ?_
    rintro e w95 ⟨rfl, hb⟩
    refine ⟨_, rfl, ?_⟩
    have n0_ := Aside0.mk (Kd.R_below (ra_ HO411.out) hb)
    have n1_ := bb_ BK404 hb
    have n2_ := bb_ BK405 hb
    have n3_ := bb_ BK406 hb
    have n4_ := Aside0.mk (below_step hb_ hb)
    clear HO411
    clear BK404
    clear BK405
    clear BK406
    clear HB
    have HO411 := n0_
    have BK404 := n1_
    have BK405 := n2_
    have BK406 := n3_
    have HB := n4_
    clear n0_ n1_ n2_ n3_ n4_
    (try clear hb)
    (try clear hb2)
    (try clear hk)
    (try clear hi)
    obtain ⟨Ao96, co96, eo96⟩ := Kd.R_slice HO411.out
    (first | subst eo96 | (injection eo96 with f1_ f2_ f3_; have f4_ := f1_.symm; have f5_ := f3_.symm; clear f1_ f2_ f3_; subst f4_; subst f5_))
    refine hK.out _ _ ⟨(blk_cell BK404.out 0).trans rfl, (blk_cell BK404.out 1).trans rfl, (blk_cell BK405.out 0).trans rfl, (blk_cell BK405.out 1).trans rfl, (blk_cell BK406.out 0).trans rfl, (blk_cell BK406.out 1).trans rfl⟩ (fun hHeld => ?_)
    clear hK K
    refine norm_ (a' := ?_) ?_ ?_
    rotate_left
    ·show Act.put _ (some 21) _ = _
     simp only [Act.put, List.setIfInBounds_toArray, List.set_cons_zero, List.set_cons_succ, i64_w, i32_w]
     rfl
    refine one_ (i := 6) (N := some 22) #[true, true, true, true, true, true, true, false] rfl rfl (one_of HT_.out (by kernel_rfl)) (by decide) (fun K hK => ?_)
    refine goes_ Try.func34 (by kernel_rfl) rfl #[.agg #[.int .i64 t408, .slice Ao96 t409.length co96], .agg #[.int .i64 t412, .int .i64 t413], .agg #[.int .i64 t414, .int .i64 t415]] (by rfl) rfl rfl ls_ ?_
    with_reducible refine (spec_JointTicks.calls k t408 _ _ t409 t412 t413 t414 t415 t416 _ ?side1 ?side2 A16.out).mono ?_
    (case side1 => exact ca_ (Kd.R_reads' HO411.out).2.2)
    (case side2 => exact (Kd.R_reads' HO411.out).2.1)
    rintro e w97 ⟨rfl, hb⟩
    refine ⟨_, rfl, ?_⟩
    have n0_ := Aside0.mk (Kd.R_below (ra_ HO411.out) hb)
    have n1_ := bb_ BK404 hb
    have n2_ := bb_ BK405 hb
    have n3_ := bb_ BK406 hb
    have n4_ := Aside0.mk (below_step hb_ hb)
    clear HO411
    clear BK404
    clear BK405
    clear BK406
    clear HB
    have HO411 := n0_
    have BK404 := n1_
    have BK405 := n2_
    have BK406 := n3_
    have HB := n4_
    clear n0_ n1_ n2_ n3_ n4_
    (try clear hb)
    (try clear hb2)
    (try clear hk)
    (try clear hi)
    refine hK.out _ _ ⟨(blk_cell BK404.out 0).trans rfl, (blk_cell BK404.out 1).trans rfl, (blk_cell BK405.out 0).trans rfl, (blk_cell BK405.out 1).trans rfl, (blk_cell BK406.out 0).trans rfl, (blk_cell BK406.out 1).trans rfl⟩ (fun hHeld => ?_)
    clear hK K
    refine norm_ (a' := ?_) ?_ ?_
    rotate_left
    ·show Act.put _ (some 22) _ = _
     simp only [Act.put, List.setIfInBounds_toArray, List.set_cons_zero, List.set_cons_succ, i64_w, i32_w]
     rfl
    refine pure_ (i := 7) (N := some 8) (v := ?_) (a' := ?_) #[true, true, true, true, true, true, true, true] rfl rfl (any_of HT_.out (by kernel_rfl)) (fun _ _ _ h => h) (Or.inl ⟨by rfl, ?_⟩) ?_ ?_
    rotate_left
    ·intro w'
     go_simp
     with_reducible rfl
    rotate_left
    ·simp only [Act.put, List.setIfInBounds_toArray, List.set_cons_zero, List.set_cons_succ, i64_w, i32_w]
     rfl
    refine done_ (done_of HT_.out (by kernel_rfl)) ?_
    have hcz98_0 : w97.cell? ⟨gb404, 0, none⟩ = some (.int .i64 a0_0) := (blk_cell BK404.out 0).trans rfl
    have hcz98_1 : w97.cell? ⟨gb404, 1, none⟩ = some (.slice A0_1 l0_1.length c0_1) := (blk_cell BK404.out 1).trans rfl
    have hfz98_0 := blk_frozen BK404.out 0
    have hfz98_1 := blk_frozen BK404.out 1
    try go_wp2_with (first | ((with_reducible refine gate_callee (f := 26) rfl ?_); refine goesL_ (some 24) rfl rfl Try.func26 (by kernel_rfl) rfl #[.agg #[.int .i64 a0_0, .slice A0_1 l0_1.length c0_1]] rfl ls_ ?_; (with_reducible refine (laws_toCells.calls k a0_0 _ _ l0_1 t417 t418 _ ?side1 ?side2 A17.out).mono ?_); (case side1 => exact cb_ HR0_1.out); (case side2 => exact HC0_1.out); rintro e w99 ⟨v419, rfl, ho0, hb⟩; refine ⟨_, rfl, ?_⟩; have n0_ := Aside0.mk (Kd.R_elder' (ra_ HO411.out) (Kd.R_base ho0) hb); have n1_ := Aside0.mk (Kd.R_lower (Kd.R_new' ho0 (Kd.R_lt (ra_ HO411.out))) (below_size hb_)); have n2_ := bb_ BK404 hb; have n3_ := bb_ BK405 hb; have n4_ := bb_ BK406 hb; have n5_ := Aside0.mk (below_step hb_ hb); clear HO411; clear BK404; clear BK405; clear BK406; clear HB; have HO411 := n0_; have HO420 := n1_; have BK404 := n2_; have BK405 := n3_; have BK406 := n4_; have HB := n5_; clear n0_ n1_ n2_ n3_ n4_ n5_; (try clear hb); (try clear hb2); (try clear hk); (try clear hi); (try clear ho0)) | ((with_reducible refine gate_dst (N := 9) rfl ?_); refine box_event ?hg (N := 9) ?hd (cs := #[.int .i64 0, .slice none 0 0]) (t := 39) ?hr ?_; (case hd => rfl); (case hg => rfl); (case hr => first | (go_simp; done) | (go_simp; rfl)); intro gb421 hg w100 hbox hb; have n0_ := Aside0.mk (Kd.R_below (ra_ HO411.out) hb); have n1_ := Aside0.mk (Kd.R_below (ra_ HO420.out) hb); have n2_ := bb_ BK404 hb; have n3_ := bb_ BK405 hb; have n4_ := bb_ BK406 hb; have n5_ := Aside0.mk (below_step hb_ hb); have n6_ := Aside0.mk (hbox); have n7_ : Aside0 (w.heap.size ≤ gb421) := gz_; have n8_ : Aside0 (w.heap.size ≤ gb421) := gz_; have n9_ := Aside0.mk ((by rw [hg]; exact Nat.ne_of_lt (blk_lt (g := gb404) (o := .cells #[.int .i64 a0_0, .slice A0_1 l0_1.length c0_1] 34 (0, 0)) (bk_ BK404.out)) : gb404 ≠ gb421)); have n10_ := Aside0.mk ((by rw [hg]; exact Nat.ne_of_gt (blk_lt (g := gb404) (o := .cells #[.int .i64 a0_0, .slice A0_1 l0_1.length c0_1] 34 (0, 0)) (bk_ BK404.out)) : gb421 ≠ gb404)); have n11_ := Aside0.mk ((by rw [hg]; exact Nat.ne_of_lt (blk_lt (g := gb405) (o := .cells #[.int .i64 a1_0, .int .i64 a1_1] 47 (0, 0)) (bk_ BK405.out)) : gb405 ≠ gb421)); have n12_ := Aside0.mk ((by rw [hg]; exact Nat.ne_of_gt (blk_lt (g := gb405) (o := .cells #[.int .i64 a1_0, .int .i64 a1_1] 47 (0, 0)) (bk_ BK405.out)) : gb421 ≠ gb405)); have n13_ := Aside0.mk ((by rw [hg]; exact Nat.ne_of_lt (blk_lt (g := gb406) (o := .cells #[.int .i64 a2_0, .int .i64 a2_1] 47 (0, 0)) (bk_ BK406.out)) : gb406 ≠ gb421)); have n14_ := Aside0.mk ((by rw [hg]; exact Nat.ne_of_gt (blk_lt (g := gb406) (o := .cells #[.int .i64 a2_0, .int .i64 a2_1] 47 (0, 0)) (bk_ BK406.out)) : gb421 ≠ gb406)); clear HO411; clear HO420; clear BK404; clear BK405; clear BK406; clear HB; have HO411 := n0_; have HO420 := n1_; have BK404 := n2_; have BK405 := n3_; have BK406 := n4_; have HB := n5_; have BK421 := n6_; have GW421 := n7_; have GE421 := n8_; have NB404_421 := n9_; have NB421_404 := n10_; have NB405_421 := n11_; have NB421_405 := n12_; have NB406_421 := n13_; have NB421_406 := n14_; clear n0_ n1_ n2_ n3_ n4_ n5_ n6_ n7_ n8_ n9_ n10_ n11_ n12_ n13_ n14_; clear hb hbox hg; have hnb101 := NB421_404.out; have hnc101 := NB404_421.out; have hnb102 := NB421_405.out; have hnc102 := NB405_421.out; have hnb103 := NB421_406.out; have hnc103 := NB406_421.out; have hcz104_0 : w100.cell? ⟨gb421, 0, none⟩ = some (.int .i64 0) := (blk_cell BK421.out 0).trans rfl; have hcz104_1 : w100.cell? ⟨gb421, 1, none⟩ = some (.slice none 0 0) := (blk_cell BK421.out 1).trans rfl; have hfz104_0 := blk_frozen BK421.out 0; have hfz104_1 := blk_frozen BK421.out 1; obtain ⟨Ao105, co105, eo105⟩ := Kd.R_slice HO420.out; subst eo105))
    have n0_ : Aside0 (Kd.R (Kd.int .i64) 3 ((w100.setCell ⟨gb421, 0, none⟩ (.int .i64 t417)).setCell ⟨gb421, 1, none⟩ (.slice Ao105 t418.length co105)) w.heap.size (fun k_ => some k_ ≠ (.slice Ao105 t418.length co105 : Value).ownBlock) (.slice Ao96 t409.length co96) t409) := ⟨by (with_reducible repeat (first | apply Kd.R_alloc | apply Kd.R_drewN | apply Kd.R_drew)); exact Kd.R_mono (Kd.R_far (p := ⟨gb421, 1, none⟩) (Kd.R_far (p := ⟨gb421, 0, none⟩) (Kd.R_types HO411.out BK421.out (by decide)) (fun _ hk => hk.2) (.int .i64 t417)) (fun _ hk => hk.2) (.slice Ao105 t418.length co105)) (fun _ hk => hk.1.2)⟩
    have n1_ : Aside0 (Kd.R (Kd.int .i64) 3 ((w100.setCell ⟨gb421, 0, none⟩ (.int .i64 t417)).setCell ⟨gb421, 1, none⟩ (.slice Ao105 t418.length co105)) w.heap.size (fun k_ => some k_ ≠ (.slice Ao96 t409.length co96 : Value).ownBlock) (.slice Ao105 t418.length co105) t418) := ⟨by (with_reducible repeat (first | apply Kd.R_alloc | apply Kd.R_drewN | apply Kd.R_drew)); exact Kd.R_mono (Kd.R_far (p := ⟨gb421, 1, none⟩) (Kd.R_far (p := ⟨gb421, 0, none⟩) (Kd.R_types HO420.out BK421.out (by decide)) (fun _ hk => hk.2) (.int .i64 t417)) (fun _ hk => hk.2) (.slice Ao105 t418.length co105)) (fun _ hk => hk.1.2)⟩
    have n2_ : Aside0 (((w100.setCell ⟨gb421, 0, none⟩ (.int .i64 t417)).setCell ⟨gb421, 1, none⟩ (.slice Ao105 t418.length co105)).heap[gb404]? = some (.cells #[.int .i64 a0_0, .slice A0_1 l0_1.length c0_1] 34 (0, 0))) := ⟨by (with_reducible repeat (first | refine blk_drewN ?_ _ | refine blk_drew ?_ | refine blk_alloc ?_ _)); refine blk_far ?_ NB404_421.out _; (with_reducible repeat (first | refine blk_drewN ?_ _ | refine blk_drew ?_ | refine blk_alloc ?_ _)); refine blk_far ?_ NB404_421.out _; (with_reducible repeat (first | refine blk_drewN ?_ _ | refine blk_drew ?_ | refine blk_alloc ?_ _)); exact BK404.out⟩
    have n3_ : Aside0 (((w100.setCell ⟨gb421, 0, none⟩ (.int .i64 t417)).setCell ⟨gb421, 1, none⟩ (.slice Ao105 t418.length co105)).heap[gb405]? = some (.cells #[.int .i64 a1_0, .int .i64 a1_1] 47 (0, 0))) := ⟨by (with_reducible repeat (first | refine blk_drewN ?_ _ | refine blk_drew ?_ | refine blk_alloc ?_ _)); refine blk_far ?_ NB405_421.out _; (with_reducible repeat (first | refine blk_drewN ?_ _ | refine blk_drew ?_ | refine blk_alloc ?_ _)); refine blk_far ?_ NB405_421.out _; (with_reducible repeat (first | refine blk_drewN ?_ _ | refine blk_drew ?_ | refine blk_alloc ?_ _)); exact BK405.out⟩
    have n4_ : Aside0 (((w100.setCell ⟨gb421, 0, none⟩ (.int .i64 t417)).setCell ⟨gb421, 1, none⟩ (.slice Ao105 t418.length co105)).heap[gb406]? = some (.cells #[.int .i64 a2_0, .int .i64 a2_1] 47 (0, 0))) := ⟨by (with_reducible repeat (first | refine blk_drewN ?_ _ | refine blk_drew ?_ | refine blk_alloc ?_ _)); refine blk_far ?_ NB406_421.out _; (with_reducible repeat (first | refine blk_drewN ?_ _ | refine blk_drew ?_ | refine blk_alloc ?_ _)); refine blk_far ?_ NB406_421.out _; (with_reducible repeat (first | refine blk_drewN ?_ _ | refine blk_drew ?_ | refine blk_alloc ?_ _)); exact BK406.out⟩
    have n5_ : Aside0 (((w100.setCell ⟨gb421, 0, none⟩ (.int .i64 t417)).setCell ⟨gb421, 1, none⟩ (.slice Ao105 t418.length co105)).heap[gb421]? = some (.cells #[.int .i64 t417, .slice Ao105 t418.length co105] 39 (0, 0))) := ⟨by (with_reducible repeat (first | refine blk_drewN ?_ _ | refine blk_drew ?_ | refine blk_alloc ?_ _)); refine blk_put (cs := #[.int .i64 t417, .slice none 0 0]) ?_ 1 _ rfl; (with_reducible repeat (first | refine blk_drewN ?_ _ | refine blk_drew ?_ | refine blk_alloc ?_ _)); refine blk_put (cs := #[.int .i64 0, .slice none 0 0]) ?_ 0 _ rfl; (with_reducible repeat (first | refine blk_drewN ?_ _ | refine blk_drew ?_ | refine blk_alloc ?_ _)); exact BK421.out⟩
    have n6_ : Aside0 (Below w.heap.size w ((w100.setCell ⟨gb421, 0, none⟩ (.int .i64 t417)).setCell ⟨gb421, 1, none⟩ (.slice Ao105 t418.length co105))) := ⟨hb_⟩
    (try clear HO411)
    (try clear HO420)
    (try clear BK404)
    (try clear BK405)
    (try clear BK406)
    (try clear BK421)
    (try clear HB)
    generalize ((w100.setCell ⟨gb421, 0, none⟩ (.int .i64 t417)).setCell ⟨gb421, 1, none⟩ (.slice Ao105 t418.length co105)) = w106 at n0_ n1_ n2_ n3_ n4_ n5_ n6_ ⊢
    have HO411 := n0_
    have HO420 := n1_
    have BK404 := n2_
    have BK405 := n3_
    have BK406 := n4_
    have BK421 := n5_
    have HB := n6_
    clear n0_ n1_ n2_ n3_ n4_ n5_ n6_
    have n0_ := Aside0.mk (Kd.R_drew HO411.out)
    have n1_ := Aside0.mk (Kd.R_drew HO420.out)
    have n2_ := Aside0.mk (blk_drew BK404.out)
    have n3_ := Aside0.mk (blk_drew BK405.out)
    have n4_ := Aside0.mk (blk_drew BK406.out)
    have n5_ := Aside0.mk (blk_drew BK421.out)
    have n6_ := Aside0.mk (below_drew1 HB.out)
    clear HO411
    clear HO420
    clear BK404
    clear BK405
    clear BK406
    clear BK421
    clear HB
    have HO411 := n0_
    have HO420 := n1_
    have BK404 := n2_
    have BK405 := n3_
    have BK406 := n4_
    have BK421 := n5_
    have HB := n6_
    clear n0_ n1_ n2_ n3_ n4_ n5_ n6_
    refine start_ (n := 7) (S := fun w' => w'.cell? ⟨gb421, 0, none⟩ = some (.int .i64 t417) ∧ w'.cell? ⟨gb421, 1, none⟩ = some (.slice Ao105 t418.length co105) ∧ w'.cell? ⟨gb405, 0, none⟩ = some (.int .i64 a1_0) ∧ w'.cell? ⟨gb405, 1, none⟩ = some (.int .i64 a1_1) ∧ w'.cell? ⟨gb406, 0, none⟩ = some (.int .i64 a2_0) ∧ w'.cell? ⟨gb406, 1, none⟩ = some (.int .i64 a2_1)) (ds := []) #[false, false, false, false, false, false, false] (by kernel_rfl) rfl rfl ⟨(blk_cell BK421.out 0).trans rfl, (blk_cell BK421.out 1).trans rfl, (blk_cell BK405.out 0).trans rfl, (blk_cell BK405.out 1).trans rfl, (blk_cell BK406.out 0).trans rfl, (blk_cell BK406.out 1).trans rfl⟩ (fun hHeld => ?_)
    generalize w106.drew = w107 at HO411 HO420 BK404 BK405 BK406 BK421 HB hHeld ⊢
    refine take_ (i := 0) (N := some 25) (v := ?_) (a' := ?_) #[true, false, false, false, false, false, false] rfl rfl (by kernel_rfl) (fun _ _ _ h => h) (Or.inl ⟨by rfl, ?_⟩) hHeld ?_ ?_
    rotate_left
    ·rintro w' ⟨s0, s1, s2, s3, s4, s5⟩
     go_simp
     with_reducible rfl
    rotate_left
    ·simp only [Act.put, List.setIfInBounds_toArray, List.set_cons_zero, List.set_cons_succ, i64_w, i32_w]
     rfl
    refine take_ (i := 1) (N := some 26) (v := ?_) (a' := ?_) #[true, true, false, false, false, false, false] rfl rfl (by kernel_rfl) (fun _ _ _ h => h) (Or.inl ⟨by rfl, ?_⟩) hHeld ?_ ?_
    rotate_left
    ·rintro w' ⟨s0, s1, s2, s3, s4, s5⟩
     go_simp
     with_reducible rfl
    rotate_left
    ·simp only [Act.put, List.setIfInBounds_toArray, List.set_cons_zero, List.set_cons_succ, i64_w, i32_w]
     rfl
    refine take_ (i := 3) (N := some 28) (v := ?_) (a' := ?_) #[true, true, false, true, false, false, false] rfl rfl (by kernel_rfl) (fun _ _ _ h => h) (Or.inl ⟨by rfl, ?_⟩) hHeld ?_ ?_
    rotate_left
    ·rintro w' ⟨s0, s1, s2, s3, s4, s5⟩
     go_simp
     with_reducible rfl
    rotate_left
    ·simp only [Act.put, List.setIfInBounds_toArray, List.set_cons_zero, List.set_cons_succ, i64_w, i32_w]
     rfl
    refine one_ (i := 2) (N := some 27) #[true, true, true, true, false, false, false] rfl rfl (by kernel_rfl) (by decide) (fun K hK => ?_)
    refine goes_ Try.func32 (by kernel_rfl) rfl #[.agg #[.int .i64 a1_0, .int .i64 a1_1]] (by rfl) rfl rfl ls_ ?_
    with_reducible refine (laws_toTrip.calls a1_0 a1_1 t422 t423 _ A18.out).mono ?_
    rintro e w108 ⟨rfl, hb⟩
    refine ⟨_, rfl, ?_⟩
    have n0_ := Aside0.mk (Kd.R_below (ra_ HO411.out) hb)
    have n1_ := Aside0.mk (Kd.R_below (ra_ HO420.out) hb)
    have n2_ := bb_ BK404 hb
    have n3_ := bb_ BK405 hb
    have n4_ := bb_ BK406 hb
    have n5_ := bb_ BK421 hb
    have n6_ := Aside0.mk (below_step hb_ hb)
    clear HO411
    clear HO420
    clear BK404
    clear BK405
    clear BK406
    clear BK421
    clear HB
    have HO411 := n0_
    have HO420 := n1_
    have BK404 := n2_
    have BK405 := n3_
    have BK406 := n4_
    have BK421 := n5_
    have HB := n6_
    clear n0_ n1_ n2_ n3_ n4_ n5_ n6_
    (try clear hb)
    (try clear hb2)
    (try clear hk)
    (try clear hi)
    refine hK.out _ _ ⟨(blk_cell BK421.out 0).trans rfl, (blk_cell BK421.out 1).trans rfl, (blk_cell BK405.out 0).trans rfl, (blk_cell BK405.out 1).trans rfl, (blk_cell BK406.out 0).trans rfl, (blk_cell BK406.out 1).trans rfl⟩ (fun hHeld => ?_)
    clear hK K
    refine norm_ (a' := ?_) ?_ ?_
    rotate_left
    ·show Act.put _ (some 27) _ = _
     simp only [Act.put, List.setIfInBounds_toArray, List.set_cons_zero, List.set_cons_succ, i64_w, i32_w]
     rfl
    refine one_ (i := 4) (N := some 29) #[true, true, true, true, true, false, false] rfl rfl (by kernel_rfl) (by decide) (fun K hK => ?_)
    refine goes_ Try.func32 (by kernel_rfl) rfl #[.agg #[.int .i64 a2_0, .int .i64 a2_1]] (by rfl) rfl rfl ls_ ?_
    with_reducible refine (laws_toTrip.calls a2_0 a2_1 t424 t425 _ A19.out).mono ?_
    rintro e w109 ⟨rfl, hb⟩
    refine ⟨_, rfl, ?_⟩
    have n0_ := Aside0.mk (Kd.R_below (ra_ HO411.out) hb)
    have n1_ := Aside0.mk (Kd.R_below (ra_ HO420.out) hb)
    have n2_ := bb_ BK404 hb
    have n3_ := bb_ BK405 hb
    have n4_ := bb_ BK406 hb
    have n5_ := bb_ BK421 hb
    have n6_ := Aside0.mk (below_step hb_ hb)
    clear HO411
    clear HO420
    clear BK404
    clear BK405
    clear BK406
    clear BK421
    clear HB
    have HO411 := n0_
    have HO420 := n1_
    have BK404 := n2_
    have BK405 := n3_
    have BK406 := n4_
    have BK421 := n5_
    have HB := n6_
    clear n0_ n1_ n2_ n3_ n4_ n5_ n6_
    (try clear hb)
    (try clear hb2)
    (try clear hk)
    (try clear hi)
    refine hK.out _ _ ⟨(blk_cell BK421.out 0).trans rfl, (blk_cell BK421.out 1).trans rfl, (blk_cell BK405.out 0).trans rfl, (blk_cell BK405.out 1).trans rfl, (blk_cell BK406.out 0).trans rfl, (blk_cell BK406.out 1).trans rfl⟩ (fun hHeld => ?_)
    clear hK K
    refine norm_ (a' := ?_) ?_ ?_
    rotate_left
    ·show Act.put _ (some 29) _ = _
     simp only [Act.put, List.setIfInBounds_toArray, List.set_cons_zero, List.set_cons_succ, i64_w, i32_w]
     rfl
    refine one_ (i := 5) (N := some 30) #[true, true, true, true, true, true, false] rfl rfl (by kernel_rfl) (by decide) (fun K hK => ?_)
    refine goes_ Try.func35 (by kernel_rfl) rfl #[.agg #[.int .i64 t417, .slice Ao105 t418.length co105], .agg #[.int .i64 t422, .int .i64 t423], .agg #[.int .i64 t424, .int .i64 t425]] (by rfl) rfl rfl ls_ ?_
    with_reducible refine (impl_JointTicks.calls t417 _ _ t418 t422 t423 t424 t425 t426 _ ?side1 ?side2 A20.out).mono ?_
    (case side1 => exact ca_ (Kd.R_reads' HO420.out).2.2)
    (case side2 => exact (Kd.R_reads' HO420.out).2.1)
    rintro e w110 ⟨rfl, hb⟩
    refine ⟨_, rfl, ?_⟩
    have n0_ := Aside0.mk (Kd.R_below (ra_ HO411.out) hb)
    have n1_ := Aside0.mk (Kd.R_below (ra_ HO420.out) hb)
    have n2_ := bb_ BK404 hb
    have n3_ := bb_ BK405 hb
    have n4_ := bb_ BK406 hb
    have n5_ := bb_ BK421 hb
    have n6_ := Aside0.mk (below_step hb_ hb)
    clear HO411
    clear HO420
    clear BK404
    clear BK405
    clear BK406
    clear BK421
    clear HB
    have HO411 := n0_
    have HO420 := n1_
    have BK404 := n2_
    have BK405 := n3_
    have BK406 := n4_
    have BK421 := n5_
    have HB := n6_
    clear n0_ n1_ n2_ n3_ n4_ n5_ n6_
    (try clear hb)
    (try clear hb2)
    (try clear hk)
    (try clear hi)
    refine hK.out _ _ ⟨(blk_cell BK421.out 0).trans rfl, (blk_cell BK421.out 1).trans rfl, (blk_cell BK405.out 0).trans rfl, (blk_cell BK405.out 1).trans rfl, (blk_cell BK406.out 0).trans rfl, (blk_cell BK406.out 1).trans rfl⟩ (fun hHeld => ?_)
    clear hK K
    refine norm_ (a' := ?_) ?_ ?_
    rotate_left
    ·show Act.put _ (some 30) _ = _
     simp only [Act.put, List.setIfInBounds_toArray, List.set_cons_zero, List.set_cons_succ, i64_w, i32_w]
     rfl
    refine pure_ (i := 6) (N := some 10) (v := ?_) (a' := ?_) #[true, true, true, true, true, true, true] rfl rfl (by kernel_rfl) (fun _ _ _ h => h) (Or.inl ⟨by rfl, ?_⟩) ?_ ?_
    rotate_left
    ·intro w'
     go_simp
     with_reducible rfl
    rotate_left
    ·simp only [Act.put, List.setIfInBounds_toArray, List.set_cons_zero, List.set_cons_succ, i64_w, i32_w]
     rfl
    refine done_ (by kernel_rfl) ?_
    try go_wp2
    go_ret
    exact ⟨er_, hb_⟩

end Go.Proofs.Ytcldlljnaijmhaa.Pr
/- THE LAW FnExactJointTicks, as a statement over numbers and lists: for all cells and trips the program and the reference answer the same. No condition. -/
namespace Go.Proofs.Ytcldlljnaijmhaa.Pure
open Go.RowKit Go.Proofs.YtcldlljnaijmhaaW.PrintWords Go.Proofs.YtcldlljnaijmhaaW.PrintLast Go.Proofs.Ytcldlljnaijmhaa.Pr Go.Proofs.Ytcldlljnaijmhaa.EvKit

theorem FnExactJointTicks : ∀ (a0_0 : Int) (l0_1 : List Int) (a1_0 : Int) (a1_1 : Int) (a2_0 : Int) (a2_1 : Int), ((Lit.int .i64 a0_0).wf = true ∧ (l0_1.length ≤ maxLen ∧ l0_1.length * 8 ≤ 140737488351232 ∧ ∀ y0 ∈ l0_1, (Lit.int .i64 y0).wf = true)) → ((Lit.int .i64 a1_0).wf = true ∧ (Lit.int .i64 a1_1).wf = true) → ((Lit.int .i64 a2_0).wf = true ∧ (Lit.int .i64 a2_1).wf = true) → ∃ k, laws_FnExactJointTicks.f k a0_0 l0_1 a1_0 a1_1 a2_0 a2_1 = some true := by
  intro w c a0 a1 b0 b1 hc _ _
  have h1 : c.length ≤ 9223372036854775807 := by have := hc.2.1; unfold maxLen at this; omega
  apply Ev.rounds
  simp only [laws_FnExactJointTicks.f]
  obtain ⟨z, e1, e2⟩ := szCells_eq w c 1048576 h1 (by omega) (by omega)
  refine Ev.bnd0 e1 (Ev.ite (fun _ => Ev.some rfl) (fun h0 => ?_))
  obtain ⟨h3, h4⟩ := e2 h0
  have tc := toCells_ev w c (by omega)
  have hi : impl_JointTicks.f w c a0 a1 b0 b1 = some (jointV w c a0 a1 b0 b1) := by
    unfold impl_JointTicks.f
    rw [if_pos (by omega)]
  exact Ev.bnd tc (Ev.bnd0 rfl (Ev.bnd0 rfl (Ev.bnd (joint_spec w c a0 a1 b0 b1 (by omega)) (Ev.bnd tc (Ev.bnd0 rfl (Ev.bnd0 rfl (Ev.bnd0 hi (Ev.pos rfl (Ev.bnd tc (Ev.bnd (eqCells_ev w c (by omega)) (Ev.pos rfl (Ev.some rfl))))))))))))

end Go.Proofs.Ytcldlljnaijmhaa.Pure
