-- Joined and pruned by wip/tools/prune.py out of this session's own texts (Pr20, PureFnExactAloneTicks)
import Derived.Test.YtcldlljnaijmhaaZat7
-- Written by this session's own print (wip/tools/mkmp.py) out of the translation. Lean checks it.
namespace Go.Proofs.Ytcldlljnaijmhaa.Pr
open Go.RowKit Go.Proofs.YtcldlljnaijmhaaW.PrintWords Go.Proofs.YtcldlljnaijmhaaW.PrintLast Go.Proofs.YtcldlljnaijmhaaW.PrintMore
attribute [local go_sem] max2_int min2_int max_two min_two max_three min_three max_four min_four   -- for this text's walks alone
set_option linter.unusedVariables false
set_option linter.unusedSimpArgs false

set_option maxHeartbeats 8000000 in
set_option maxRecDepth 100000 in
theorem laws_FnExactAloneTicks.calls (k : Nat) (a0_0 : Int) (A0_1 : Option Addr) (c0_1 : Nat) (l0_1 : List Int) (a1_0 : Int) (a1_1 : Int) (r : Bool) (w : World) (hr0_1 : Kd.C (Kd.int .i64) w A0_1 l0_1.length l0_1) (hc0_1 : l0_1.length ≤ c0_1) (h : laws_FnExactAloneTicks.f k a0_0 l0_1 a1_0 a1_1 = some r) :
   Calls Try.prog 6 #[.agg #[.int .i64 a0_0, .slice A0_1 l0_1.length c0_1], .agg #[.int .i64 a1_0, .int .i64 a1_1]] w fun e w' => e = .returned (.bool r) ∧ Below w.heap.size w w' := by
  have hu34 := Try.underlying34
  have hu47 := Try.underlying47
  have hu39 := Try.underlying39
  have HR0_1 := Aside0.mk hr0_1
  have HC0_1 := Aside0.mk hc0_1
  clear hr0_1 hc0_1
  have HB := Aside0.mk (Below.refl w.heap.size w)
  have H : ((laws_szCells.f a0_0 l0_1 1048576).bind fun t343 => (if t343 < 0 then (some true) else ((laws_toCells.f k a0_0 l0_1).bind fun bt344 => ((laws_toTrip.f a1_0 a1_1).bind fun bt348 => ((spec_AloneTicks.f k bt344.1 bt344.2 bt348.1 bt348.2).bind fun t350 => ((laws_toCells.f k a0_0 l0_1).bind fun bt351 => ((laws_toTrip.f a1_0 a1_1).bind fun bt356 => ((impl_AloneTicks.f bt351.1 bt351.2 bt356.1 bt356.2).bind fun t358 => (if t358 = t350 then ((laws_toCells.f k a0_0 l0_1).bind fun bt359 => ((laws_eqCells.f k bt351.1 bt351.2 bt359.1 bt359.2).bind fun t363 => (if t363 = true then (some true) else (some false)))) else (some false)))))))))) = some r := h
  clear h
  replace H := Option.bind_eq_some_iff.mp H
  obtain ⟨t343, A30, H⟩ := H
  replace H : (if t343 < 0 then (some true) else ((laws_toCells.f k a0_0 l0_1).bind fun bt344 => ((laws_toTrip.f a1_0 a1_1).bind fun bt348 => ((spec_AloneTicks.f k bt344.1 bt344.2 bt348.1 bt348.2).bind fun t350 => ((laws_toCells.f k a0_0 l0_1).bind fun bt351 => ((laws_toTrip.f a1_0 a1_1).bind fun bt356 => ((impl_AloneTicks.f bt351.1 bt351.2 bt356.1 bt356.2).bind fun t358 => (if t358 = t350 then ((laws_toCells.f k a0_0 l0_1).bind fun bt359 => ((laws_eqCells.f k bt351.1 bt351.2 bt359.1 bt359.2).bind fun t363 => (if t363 = true then (some true) else (some false)))) else (some false))))))))) = some r := H
  have A3 := Aside0.mk A30
  clear A30
  by_cases c4 : t343 < 0
  ·rw [if_pos c4] at H
   have c4b0 : decide (t343 < 0) = true := decide_eq_true c4
   clear c4
   obtain rfl := Option.some.inj H
   go_enter Try.func6, Try.ntmps6
   go_wp2_with (first | ((with_reducible refine gate_dst (N := 2) rfl ?_); refine box_event ?hg (N := 2) ?hd (cs := #[.int .i64 a0_0, .slice A0_1 l0_1.length c0_1]) (t := 34) ?hr ?_; (case hd => rfl); (case hg => rfl); (case hr => first | (go_simp; done) | (go_simp; rfl)); intro gb341 hg w5 hbox hb; have n0_ := Aside0.mk (below_step hb_ hb); have n1_ := Aside0.mk (hbox); have n2_ : Aside0 (w.heap.size ≤ gb341) := gz_; have n3_ : Aside0 (w.heap.size ≤ gb341) := gz_; clear HB; have HB := n0_; have BK341 := n1_; have GW341 := n2_; have GE341 := n3_; clear n0_ n1_ n2_ n3_; clear hb hbox hg) | ((with_reducible refine gate_dst (N := 3) rfl ?_); refine box_event ?hg (N := 3) ?hd (cs := #[.int .i64 a1_0, .int .i64 a1_1]) (t := 47) ?hr ?_; (case hd => rfl); (case hg => rfl); (case hr => first | (go_simp; done) | (go_simp; rfl)); intro gb342 hg w6 hbox hb; have n0_ := bb_ BK341 hb; have n1_ := Aside0.mk (below_step hb_ hb); have n2_ := Aside0.mk (hbox); have n3_ : Aside0 (w.heap.size ≤ gb342) := gz_; have n4_ : Aside0 (w.heap.size ≤ gb342) := gz_; have n5_ := Aside0.mk ((by rw [hg]; exact Nat.ne_of_lt (blk_lt (g := gb341) (o := .cells #[.int .i64 a0_0, .slice A0_1 l0_1.length c0_1] 34 (0, 0)) (bk_ BK341.out)) : gb341 ≠ gb342)); have n6_ := Aside0.mk ((by rw [hg]; exact Nat.ne_of_gt (blk_lt (g := gb341) (o := .cells #[.int .i64 a0_0, .slice A0_1 l0_1.length c0_1] 34 (0, 0)) (bk_ BK341.out)) : gb342 ≠ gb341)); clear BK341; clear HB; have BK341 := n0_; have HB := n1_; have BK342 := n2_; have GW342 := n3_; have GE342 := n4_; have NB341_342 := n5_; have NB342_341 := n6_; clear n0_ n1_ n2_ n3_ n4_ n5_ n6_; clear hb hbox hg; have hnb7 := NB341_342.out; have hnc7 := NB342_341.out; have hcz8_0 : w6.cell? ⟨gb341, 0, none⟩ = some (.int .i64 a0_0) := (blk_cell BK341.out 0).trans rfl; have hcz8_1 : w6.cell? ⟨gb341, 1, none⟩ = some (.slice A0_1 l0_1.length c0_1) := (blk_cell BK341.out 1).trans rfl; have hfz8_0 := blk_frozen BK341.out 0; have hfz8_1 := blk_frozen BK341.out 1) | ((with_reducible refine gate_callee (f := 23) rfl ?_); refine goesL_ (some 11) rfl rfl Try.func23 (by kernel_rfl) rfl #[.agg #[.int .i64 a0_0, .slice A0_1 l0_1.length c0_1], .int .i64 1048576] rfl ls_ ?_; (with_reducible refine (laws_szCells.calls a0_0 _ _ l0_1 1048576 t343 _ ?side1 ?side2 A3.out).mono ?_); (case side1 => exact cb_ HR0_1.out); (case side2 => exact HC0_1.out); rintro e w9 ⟨rfl, hb⟩; refine ⟨_, rfl, ?_⟩; have n0_ := bb_ BK341 hb; have n1_ := bb_ BK342 hb; have n2_ := Aside0.mk (below_step hb_ hb); clear BK341; clear BK342; clear HB; have BK341 := n0_; have BK342 := n1_; have HB := n2_; clear n0_ n1_ n2_; (try clear hb); (try clear hb2); (try clear hk); (try clear hi)))
   go_ret
   exact ⟨er_, hb_⟩
  ·rw [if_neg c4] at H
   have c4b0 : decide (t343 < 0) = false := decide_eq_false c4
   clear c4
   replace H := Option.bind_eq_some_iff.mp H
   obtain ⟨⟨t344, t345⟩, A100, H⟩ := H
   replace H : ((laws_toTrip.f a1_0 a1_1).bind fun bt348 => ((spec_AloneTicks.f k t344 t345 bt348.1 bt348.2).bind fun t350 => ((laws_toCells.f k a0_0 l0_1).bind fun bt351 => ((laws_toTrip.f a1_0 a1_1).bind fun bt356 => ((impl_AloneTicks.f bt351.1 bt351.2 bt356.1 bt356.2).bind fun t358 => (if t358 = t350 then ((laws_toCells.f k a0_0 l0_1).bind fun bt359 => ((laws_eqCells.f k bt351.1 bt351.2 bt359.1 bt359.2).bind fun t363 => (if t363 = true then (some true) else (some false)))) else (some false))))))) = some r := H
   have A10 := Aside0.mk A100
   clear A100
   replace H := Option.bind_eq_some_iff.mp H
   obtain ⟨⟨t348, t349⟩, A110, H⟩ := H
   replace H : ((spec_AloneTicks.f k t344 t345 t348 t349).bind fun t350 => ((laws_toCells.f k a0_0 l0_1).bind fun bt351 => ((laws_toTrip.f a1_0 a1_1).bind fun bt356 => ((impl_AloneTicks.f bt351.1 bt351.2 bt356.1 bt356.2).bind fun t358 => (if t358 = t350 then ((laws_toCells.f k a0_0 l0_1).bind fun bt359 => ((laws_eqCells.f k bt351.1 bt351.2 bt359.1 bt359.2).bind fun t363 => (if t363 = true then (some true) else (some false)))) else (some false)))))) = some r := H
   have A11 := Aside0.mk A110
   clear A110
   replace H := Option.bind_eq_some_iff.mp H
   obtain ⟨t350, A120, H⟩ := H
   replace H : ((laws_toCells.f k a0_0 l0_1).bind fun bt351 => ((laws_toTrip.f a1_0 a1_1).bind fun bt356 => ((impl_AloneTicks.f bt351.1 bt351.2 bt356.1 bt356.2).bind fun t358 => (if t358 = t350 then ((laws_toCells.f k a0_0 l0_1).bind fun bt359 => ((laws_eqCells.f k bt351.1 bt351.2 bt359.1 bt359.2).bind fun t363 => (if t363 = true then (some true) else (some false)))) else (some false))))) = some r := H
   have A12 := Aside0.mk A120
   clear A120
   replace H := Option.bind_eq_some_iff.mp H
   obtain ⟨⟨t351, t352⟩, A130, H⟩ := H
   replace H : ((laws_toTrip.f a1_0 a1_1).bind fun bt356 => ((impl_AloneTicks.f t351 t352 bt356.1 bt356.2).bind fun t358 => (if t358 = t350 then ((laws_toCells.f k a0_0 l0_1).bind fun bt359 => ((laws_eqCells.f k t351 t352 bt359.1 bt359.2).bind fun t363 => (if t363 = true then (some true) else (some false)))) else (some false)))) = some r := H
   have A13 := Aside0.mk A130
   clear A130
   replace H := Option.bind_eq_some_iff.mp H
   obtain ⟨⟨t356, t357⟩, A140, H⟩ := H
   replace H : ((impl_AloneTicks.f t351 t352 t356 t357).bind fun t358 => (if t358 = t350 then ((laws_toCells.f k a0_0 l0_1).bind fun bt359 => ((laws_eqCells.f k t351 t352 bt359.1 bt359.2).bind fun t363 => (if t363 = true then (some true) else (some false)))) else (some false))) = some r := H
   have A14 := Aside0.mk A140
   clear A140
   replace H := Option.bind_eq_some_iff.mp H
   obtain ⟨t358, A150, H⟩ := H
   replace H : (if t358 = t350 then ((laws_toCells.f k a0_0 l0_1).bind fun bt359 => ((laws_eqCells.f k t351 t352 bt359.1 bt359.2).bind fun t363 => (if t363 = true then (some true) else (some false)))) else (some false)) = some r := H
   have A15 := Aside0.mk A150
   clear A150
   by_cases c16 : t358 = t350
   ·rw [if_pos c16] at H
    have c16b0 : (t358 == t350) = true := beq_iff_eq.mpr c16
    have c16b1 : (t358 != t350) = false := bne_eq_false_iff_eq.mpr c16
    clear c16
    replace H := Option.bind_eq_some_iff.mp H
    obtain ⟨⟨t359, t360⟩, A170, H⟩ := H
    replace H : ((laws_eqCells.f k t351 t352 t359 t360).bind fun t363 => (if t363 = true then (some true) else (some false))) = some r := H
    have A17 := Aside0.mk A170
    clear A170
    replace H := Option.bind_eq_some_iff.mp H
    obtain ⟨t363, A180, H⟩ := H
    replace H : (if t363 = true then (some true) else (some false)) = some r := H
    have A18 := Aside0.mk A180
    clear A180
    by_cases c19 : t363 = true
    ·subst c19
     rw [if_pos rfl] at H
     obtain rfl := Option.some.inj H
     go_enter Try.func6, Try.ntmps6
     try go_wp2_with (first | ((with_reducible refine gate_dst (N := 2) rfl ?_); refine box_event ?hg (N := 2) ?hd (cs := #[.int .i64 a0_0, .slice A0_1 l0_1.length c0_1]) (t := 34) ?hr ?_; (case hd => rfl); (case hg => rfl); (case hr => first | (go_simp; done) | (go_simp; rfl)); intro gb341 hg w20 hbox hb; have n0_ := Aside0.mk (below_step hb_ hb); have n1_ := Aside0.mk (hbox); have n2_ : Aside0 (w.heap.size ≤ gb341) := gz_; have n3_ : Aside0 (w.heap.size ≤ gb341) := gz_; clear HB; have HB := n0_; have BK341 := n1_; have GW341 := n2_; have GE341 := n3_; clear n0_ n1_ n2_ n3_; clear hb hbox hg) | ((with_reducible refine gate_dst (N := 3) rfl ?_); refine box_event ?hg (N := 3) ?hd (cs := #[.int .i64 a1_0, .int .i64 a1_1]) (t := 47) ?hr ?_; (case hd => rfl); (case hg => rfl); (case hr => first | (go_simp; done) | (go_simp; rfl)); intro gb342 hg w21 hbox hb; have n0_ := bb_ BK341 hb; have n1_ := Aside0.mk (below_step hb_ hb); have n2_ := Aside0.mk (hbox); have n3_ : Aside0 (w.heap.size ≤ gb342) := gz_; have n4_ : Aside0 (w.heap.size ≤ gb342) := gz_; have n5_ := Aside0.mk ((by rw [hg]; exact Nat.ne_of_lt (blk_lt (g := gb341) (o := .cells #[.int .i64 a0_0, .slice A0_1 l0_1.length c0_1] 34 (0, 0)) (bk_ BK341.out)) : gb341 ≠ gb342)); have n6_ := Aside0.mk ((by rw [hg]; exact Nat.ne_of_gt (blk_lt (g := gb341) (o := .cells #[.int .i64 a0_0, .slice A0_1 l0_1.length c0_1] 34 (0, 0)) (bk_ BK341.out)) : gb342 ≠ gb341)); clear BK341; clear HB; have BK341 := n0_; have HB := n1_; have BK342 := n2_; have GW342 := n3_; have GE342 := n4_; have NB341_342 := n5_; have NB342_341 := n6_; clear n0_ n1_ n2_ n3_ n4_ n5_ n6_; clear hb hbox hg; have hnb22 := NB341_342.out; have hnc22 := NB342_341.out; have hcz23_0 : w21.cell? ⟨gb341, 0, none⟩ = some (.int .i64 a0_0) := (blk_cell BK341.out 0).trans rfl; have hcz23_1 : w21.cell? ⟨gb341, 1, none⟩ = some (.slice A0_1 l0_1.length c0_1) := (blk_cell BK341.out 1).trans rfl; have hfz23_0 := blk_frozen BK341.out 0; have hfz23_1 := blk_frozen BK341.out 1) | ((with_reducible refine gate_callee (f := 23) rfl ?_); refine goesL_ (some 11) rfl rfl Try.func23 (by kernel_rfl) rfl #[.agg #[.int .i64 a0_0, .slice A0_1 l0_1.length c0_1], .int .i64 1048576] rfl ls_ ?_; (with_reducible refine (laws_szCells.calls a0_0 _ _ l0_1 1048576 t343 _ ?side1 ?side2 A3.out).mono ?_); (case side1 => exact cb_ HR0_1.out); (case side2 => exact HC0_1.out); rintro e w24 ⟨rfl, hb⟩; refine ⟨_, rfl, ?_⟩; have n0_ := bb_ BK341 hb; have n1_ := bb_ BK342 hb; have n2_ := Aside0.mk (below_step hb_ hb); clear BK341; clear BK342; clear HB; have BK341 := n0_; have BK342 := n1_; have HB := n2_; clear n0_ n1_ n2_; (try clear hb); (try clear hb2); (try clear hk); (try clear hi)))
     have n0_ := Aside0.mk (blk_drew BK341.out)
     have n1_ := Aside0.mk (blk_drew BK342.out)
     have n2_ := Aside0.mk (below_drew1 HB.out)
     clear BK341
     clear BK342
     clear HB
     have BK341 := n0_
     have BK342 := n1_
     have HB := n2_
     clear n0_ n1_ n2_
     refine start_ (n := 6) (S := fun w' => w'.cell? ⟨gb341, 0, none⟩ = some (.int .i64 a0_0) ∧ w'.cell? ⟨gb341, 1, none⟩ = some (.slice A0_1 l0_1.length c0_1) ∧ w'.cell? ⟨gb342, 0, none⟩ = some (.int .i64 a1_0) ∧ w'.cell? ⟨gb342, 1, none⟩ = some (.int .i64 a1_1)) (ds := []) #[false, false, false, false, false, false] (by kernel_rfl) rfl rfl ⟨(blk_cell BK341.out 0).trans rfl, (blk_cell BK341.out 1).trans rfl, (blk_cell BK342.out 0).trans rfl, (blk_cell BK342.out 1).trans rfl⟩ (fun hHeld => ?_)
     generalize w24.drew = w25 at BK341 BK342 HB hHeld ⊢
     refine take_ (i := 0) (N := some 14) (v := ?_) (a' := ?_) #[true, false, false, false, false, false] rfl rfl (by kernel_rfl) (fun _ _ _ h => h) (Or.inl ⟨by rfl, ?_⟩) hHeld ?_ ?_
     rotate_left
     ·rintro w' ⟨s0, s1, s2, s3⟩
      go_simp
      with_reducible rfl
     rotate_left
     ·simp only [Act.put, List.setIfInBounds_toArray, List.set_cons_zero, List.set_cons_succ, i64_w, i32_w]
      rfl
     refine take_ (i := 2) (N := some 16) (v := ?_) (a' := ?_) #[true, false, true, false, false, false] rfl rfl (by kernel_rfl) (fun _ _ _ h => h) (Or.inl ⟨by rfl, ?_⟩) hHeld ?_ ?_
     rotate_left
     ·rintro w' ⟨s0, s1, s2, s3⟩
      go_simp
      with_reducible rfl
     rotate_left
     ·simp only [Act.put, List.setIfInBounds_toArray, List.set_cons_zero, List.set_cons_succ, i64_w, i32_w]
      rfl
     refine one_ (i := 1) (N := some 15) #[true, true, true, false, false, false] rfl rfl (by kernel_rfl) (by decide) (fun K hK => ?_)
     refine goes_ Try.func26 (by kernel_rfl) rfl #[.agg #[.int .i64 a0_0, .slice A0_1 l0_1.length c0_1]] (by rfl) rfl rfl ls_ ?_
     with_reducible refine (laws_toCells.calls k a0_0 _ _ l0_1 t344 t345 _ ?side1 ?side2 A10.out).mono ?_
     (case side1 => exact cb_ HR0_1.out)
     (case side2 => exact HC0_1.out)
     rintro e w26 ⟨v346, rfl, ho0, hb⟩
     refine ⟨_, rfl, ?_⟩
     have n0_ := Aside0.mk (Kd.R_lower ho0 (below_size hb_))
     have n1_ := bb_ BK341 hb
     have n2_ := bb_ BK342 hb
     have n3_ := Aside0.mk (below_step hb_ hb)
     clear BK341
     clear BK342
     clear HB
     have HO347 := n0_
     have BK341 := n1_
     have BK342 := n2_
     have HB := n3_
     clear n0_ n1_ n2_ n3_
     (try clear hb)
     (try clear hb2)
     (try clear hk)
     (try clear hi)
     (try clear ho0)
     refine hK.out _ _ ⟨(blk_cell BK341.out 0).trans rfl, (blk_cell BK341.out 1).trans rfl, (blk_cell BK342.out 0).trans rfl, (blk_cell BK342.out 1).trans rfl⟩ (fun hHeld => ?_)
     clear hK K
     refine norm_ (a' := ?_) ?_ ?_
     rotate_left
     ·show Act.put _ (some 15) _ = _
      simp only [Act.put, List.setIfInBounds_toArray, List.set_cons_zero, List.set_cons_succ, i64_w, i32_w]
      rfl
     refine one_ (i := 3) (N := some 17) #[true, true, true, true, false, false] rfl rfl (by kernel_rfl) (by decide) (fun K hK => ?_)
     refine goes_ Try.func32 (by kernel_rfl) rfl #[.agg #[.int .i64 a1_0, .int .i64 a1_1]] (by rfl) rfl rfl ls_ ?_
     with_reducible refine (laws_toTrip.calls a1_0 a1_1 t348 t349 _ A11.out).mono ?_
     rintro e w27 ⟨rfl, hb⟩
     refine ⟨_, rfl, ?_⟩
     have n0_ := Aside0.mk (Kd.R_below (ra_ HO347.out) hb)
     have n1_ := bb_ BK341 hb
     have n2_ := bb_ BK342 hb
     have n3_ := Aside0.mk (below_step hb_ hb)
     clear HO347
     clear BK341
     clear BK342
     clear HB
     have HO347 := n0_
     have BK341 := n1_
     have BK342 := n2_
     have HB := n3_
     clear n0_ n1_ n2_ n3_
     (try clear hb)
     (try clear hb2)
     (try clear hk)
     (try clear hi)
     obtain ⟨Ao28, co28, eo28⟩ := Kd.R_slice HO347.out
     (first | subst eo28 | (injection eo28 with f1_ f2_ f3_; have f4_ := f1_.symm; have f5_ := f3_.symm; clear f1_ f2_ f3_; subst f4_; subst f5_))
     refine hK.out _ _ ⟨(blk_cell BK341.out 0).trans rfl, (blk_cell BK341.out 1).trans rfl, (blk_cell BK342.out 0).trans rfl, (blk_cell BK342.out 1).trans rfl⟩ (fun hHeld => ?_)
     clear hK K
     refine norm_ (a' := ?_) ?_ ?_
     rotate_left
     ·show Act.put _ (some 17) _ = _
      simp only [Act.put, List.setIfInBounds_toArray, List.set_cons_zero, List.set_cons_succ, i64_w, i32_w]
      rfl
     refine one_ (i := 4) (N := some 18) #[true, true, true, true, true, false] rfl rfl (by kernel_rfl) (by decide) (fun K hK => ?_)
     refine goes_ Try.func31 (by kernel_rfl) rfl #[.agg #[.int .i64 t344, .slice Ao28 t345.length co28], .agg #[.int .i64 t348, .int .i64 t349]] (by rfl) rfl rfl ls_ ?_
     with_reducible refine (spec_AloneTicks.calls k t344 _ _ t345 t348 t349 t350 _ ?side1 ?side2 A12.out).mono ?_
     (case side1 => exact ca_ (Kd.R_reads' HO347.out).2.2)
     (case side2 => exact (Kd.R_reads' HO347.out).2.1)
     rintro e w29 ⟨rfl, hb⟩
     refine ⟨_, rfl, ?_⟩
     have n0_ := Aside0.mk (Kd.R_below (ra_ HO347.out) hb)
     have n1_ := bb_ BK341 hb
     have n2_ := bb_ BK342 hb
     have n3_ := Aside0.mk (below_step hb_ hb)
     clear HO347
     clear BK341
     clear BK342
     clear HB
     have HO347 := n0_
     have BK341 := n1_
     have BK342 := n2_
     have HB := n3_
     clear n0_ n1_ n2_ n3_
     (try clear hb)
     (try clear hb2)
     (try clear hk)
     (try clear hi)
     refine hK.out _ _ ⟨(blk_cell BK341.out 0).trans rfl, (blk_cell BK341.out 1).trans rfl, (blk_cell BK342.out 0).trans rfl, (blk_cell BK342.out 1).trans rfl⟩ (fun hHeld => ?_)
     clear hK K
     refine norm_ (a' := ?_) ?_ ?_
     rotate_left
     ·show Act.put _ (some 18) _ = _
      simp only [Act.put, List.setIfInBounds_toArray, List.set_cons_zero, List.set_cons_succ, i64_w, i32_w]
      rfl
     refine pure_ (i := 5) (N := some 6) (v := ?_) (a' := ?_) #[true, true, true, true, true, true] rfl rfl (by kernel_rfl) (fun _ _ _ h => h) (Or.inl ⟨by rfl, ?_⟩) ?_ ?_
     rotate_left
     ·intro w'
      go_simp
      with_reducible rfl
     rotate_left
     ·simp only [Act.put, List.setIfInBounds_toArray, List.set_cons_zero, List.set_cons_succ, i64_w, i32_w]
      rfl
     refine done_ (by kernel_rfl) ?_
     have hcz30_0 : w29.cell? ⟨gb341, 0, none⟩ = some (.int .i64 a0_0) := (blk_cell BK341.out 0).trans rfl
     have hcz30_1 : w29.cell? ⟨gb341, 1, none⟩ = some (.slice A0_1 l0_1.length c0_1) := (blk_cell BK341.out 1).trans rfl
     have hfz30_0 := blk_frozen BK341.out 0
     have hfz30_1 := blk_frozen BK341.out 1
     try go_wp2_with (first | ((with_reducible refine gate_callee (f := 26) rfl ?_); refine goesL_ (some 20) rfl rfl Try.func26 (by kernel_rfl) rfl #[.agg #[.int .i64 a0_0, .slice A0_1 l0_1.length c0_1]] rfl ls_ ?_; (with_reducible refine (laws_toCells.calls k a0_0 _ _ l0_1 t351 t352 _ ?side1 ?side2 A13.out).mono ?_); (case side1 => exact cb_ HR0_1.out); (case side2 => exact HC0_1.out); rintro e w31 ⟨v353, rfl, ho0, hb⟩; refine ⟨_, rfl, ?_⟩; have n0_ := Aside0.mk (Kd.R_elder' (ra_ HO347.out) (Kd.R_base ho0) hb); have n1_ := Aside0.mk (Kd.R_lower (Kd.R_new' ho0 (Kd.R_lt (ra_ HO347.out))) (below_size hb_)); have n2_ := bb_ BK341 hb; have n3_ := bb_ BK342 hb; have n4_ := Aside0.mk (below_step hb_ hb); clear HO347; clear BK341; clear BK342; clear HB; have HO347 := n0_; have HO354 := n1_; have BK341 := n2_; have BK342 := n3_; have HB := n4_; clear n0_ n1_ n2_ n3_ n4_; (try clear hb); (try clear hb2); (try clear hk); (try clear hi); (try clear ho0)) | ((with_reducible refine gate_dst (N := 7) rfl ?_); refine box_event ?hg (N := 7) ?hd (cs := #[.int .i64 0, .slice none 0 0]) (t := 39) ?hr ?_; (case hd => rfl); (case hg => rfl); (case hr => first | (go_simp; done) | (go_simp; rfl)); intro gb355 hg w32 hbox hb; have n0_ := Aside0.mk (Kd.R_below (ra_ HO347.out) hb); have n1_ := Aside0.mk (Kd.R_below (ra_ HO354.out) hb); have n2_ := bb_ BK341 hb; have n3_ := bb_ BK342 hb; have n4_ := Aside0.mk (below_step hb_ hb); have n5_ := Aside0.mk (hbox); have n6_ : Aside0 (w.heap.size ≤ gb355) := gz_; have n7_ : Aside0 (w.heap.size ≤ gb355) := gz_; have n8_ := Aside0.mk ((by rw [hg]; exact Nat.ne_of_lt (blk_lt (g := gb341) (o := .cells #[.int .i64 a0_0, .slice A0_1 l0_1.length c0_1] 34 (0, 0)) (bk_ BK341.out)) : gb341 ≠ gb355)); have n9_ := Aside0.mk ((by rw [hg]; exact Nat.ne_of_gt (blk_lt (g := gb341) (o := .cells #[.int .i64 a0_0, .slice A0_1 l0_1.length c0_1] 34 (0, 0)) (bk_ BK341.out)) : gb355 ≠ gb341)); have n10_ := Aside0.mk ((by rw [hg]; exact Nat.ne_of_lt (blk_lt (g := gb342) (o := .cells #[.int .i64 a1_0, .int .i64 a1_1] 47 (0, 0)) (bk_ BK342.out)) : gb342 ≠ gb355)); have n11_ := Aside0.mk ((by rw [hg]; exact Nat.ne_of_gt (blk_lt (g := gb342) (o := .cells #[.int .i64 a1_0, .int .i64 a1_1] 47 (0, 0)) (bk_ BK342.out)) : gb355 ≠ gb342)); clear HO347; clear HO354; clear BK341; clear BK342; clear HB; have HO347 := n0_; have HO354 := n1_; have BK341 := n2_; have BK342 := n3_; have HB := n4_; have BK355 := n5_; have GW355 := n6_; have GE355 := n7_; have NB341_355 := n8_; have NB355_341 := n9_; have NB342_355 := n10_; have NB355_342 := n11_; clear n0_ n1_ n2_ n3_ n4_ n5_ n6_ n7_ n8_ n9_ n10_ n11_; clear hb hbox hg; have hnb33 := NB355_341.out; have hnc33 := NB341_355.out; have hnb34 := NB355_342.out; have hnc34 := NB342_355.out; have hcz35_0 : w32.cell? ⟨gb355, 0, none⟩ = some (.int .i64 0) := (blk_cell BK355.out 0).trans rfl; have hcz35_1 : w32.cell? ⟨gb355, 1, none⟩ = some (.slice none 0 0) := (blk_cell BK355.out 1).trans rfl; have hfz35_0 := blk_frozen BK355.out 0; have hfz35_1 := blk_frozen BK355.out 1; obtain ⟨Ao36, co36, eo36⟩ := Kd.R_slice HO354.out; subst eo36))
     have n0_ : Aside0 (Kd.R (Kd.int .i64) 3 ((w32.setCell ⟨gb355, 0, none⟩ (.int .i64 t351)).setCell ⟨gb355, 1, none⟩ (.slice Ao36 t352.length co36)) w.heap.size (fun k_ => some k_ ≠ (.slice Ao36 t352.length co36 : Value).ownBlock) (.slice Ao28 t345.length co28) t345) := ⟨by (with_reducible repeat (first | apply Kd.R_alloc | apply Kd.R_drewN | apply Kd.R_drew)); exact Kd.R_mono (Kd.R_far (p := ⟨gb355, 1, none⟩) (Kd.R_far (p := ⟨gb355, 0, none⟩) (Kd.R_types HO347.out BK355.out (by decide)) (fun _ hk => hk.2) (.int .i64 t351)) (fun _ hk => hk.2) (.slice Ao36 t352.length co36)) (fun _ hk => hk.1.2)⟩
     have n1_ : Aside0 (Kd.R (Kd.int .i64) 3 ((w32.setCell ⟨gb355, 0, none⟩ (.int .i64 t351)).setCell ⟨gb355, 1, none⟩ (.slice Ao36 t352.length co36)) w.heap.size (fun k_ => some k_ ≠ (.slice Ao28 t345.length co28 : Value).ownBlock) (.slice Ao36 t352.length co36) t352) := ⟨by (with_reducible repeat (first | apply Kd.R_alloc | apply Kd.R_drewN | apply Kd.R_drew)); exact Kd.R_mono (Kd.R_far (p := ⟨gb355, 1, none⟩) (Kd.R_far (p := ⟨gb355, 0, none⟩) (Kd.R_types HO354.out BK355.out (by decide)) (fun _ hk => hk.2) (.int .i64 t351)) (fun _ hk => hk.2) (.slice Ao36 t352.length co36)) (fun _ hk => hk.1.2)⟩
     have n2_ : Aside0 (((w32.setCell ⟨gb355, 0, none⟩ (.int .i64 t351)).setCell ⟨gb355, 1, none⟩ (.slice Ao36 t352.length co36)).heap[gb341]? = some (.cells #[.int .i64 a0_0, .slice A0_1 l0_1.length c0_1] 34 (0, 0))) := ⟨by (with_reducible repeat (first | refine blk_drewN ?_ _ | refine blk_drew ?_ | refine blk_alloc ?_ _)); refine blk_far ?_ NB341_355.out _; (with_reducible repeat (first | refine blk_drewN ?_ _ | refine blk_drew ?_ | refine blk_alloc ?_ _)); refine blk_far ?_ NB341_355.out _; (with_reducible repeat (first | refine blk_drewN ?_ _ | refine blk_drew ?_ | refine blk_alloc ?_ _)); exact BK341.out⟩
     have n3_ : Aside0 (((w32.setCell ⟨gb355, 0, none⟩ (.int .i64 t351)).setCell ⟨gb355, 1, none⟩ (.slice Ao36 t352.length co36)).heap[gb342]? = some (.cells #[.int .i64 a1_0, .int .i64 a1_1] 47 (0, 0))) := ⟨by (with_reducible repeat (first | refine blk_drewN ?_ _ | refine blk_drew ?_ | refine blk_alloc ?_ _)); refine blk_far ?_ NB342_355.out _; (with_reducible repeat (first | refine blk_drewN ?_ _ | refine blk_drew ?_ | refine blk_alloc ?_ _)); refine blk_far ?_ NB342_355.out _; (with_reducible repeat (first | refine blk_drewN ?_ _ | refine blk_drew ?_ | refine blk_alloc ?_ _)); exact BK342.out⟩
     have n4_ : Aside0 (((w32.setCell ⟨gb355, 0, none⟩ (.int .i64 t351)).setCell ⟨gb355, 1, none⟩ (.slice Ao36 t352.length co36)).heap[gb355]? = some (.cells #[.int .i64 t351, .slice Ao36 t352.length co36] 39 (0, 0))) := ⟨by (with_reducible repeat (first | refine blk_drewN ?_ _ | refine blk_drew ?_ | refine blk_alloc ?_ _)); refine blk_put (cs := #[.int .i64 t351, .slice none 0 0]) ?_ 1 _ rfl; (with_reducible repeat (first | refine blk_drewN ?_ _ | refine blk_drew ?_ | refine blk_alloc ?_ _)); refine blk_put (cs := #[.int .i64 0, .slice none 0 0]) ?_ 0 _ rfl; (with_reducible repeat (first | refine blk_drewN ?_ _ | refine blk_drew ?_ | refine blk_alloc ?_ _)); exact BK355.out⟩
     have n5_ : Aside0 (Below w.heap.size w ((w32.setCell ⟨gb355, 0, none⟩ (.int .i64 t351)).setCell ⟨gb355, 1, none⟩ (.slice Ao36 t352.length co36))) := ⟨hb_⟩
     (try clear HO347)
     (try clear HO354)
     (try clear BK341)
     (try clear BK342)
     (try clear BK355)
     (try clear HB)
     generalize ((w32.setCell ⟨gb355, 0, none⟩ (.int .i64 t351)).setCell ⟨gb355, 1, none⟩ (.slice Ao36 t352.length co36)) = w37 at n0_ n1_ n2_ n3_ n4_ n5_ ⊢
     have HO347 := n0_
     have HO354 := n1_
     have BK341 := n2_
     have BK342 := n3_
     have BK355 := n4_
     have HB := n5_
     clear n0_ n1_ n2_ n3_ n4_ n5_
     have n0_ := Aside0.mk (Kd.R_drew HO347.out)
     have n1_ := Aside0.mk (Kd.R_drew HO354.out)
     have n2_ := Aside0.mk (blk_drew BK341.out)
     have n3_ := Aside0.mk (blk_drew BK342.out)
     have n4_ := Aside0.mk (blk_drew BK355.out)
     have n5_ := Aside0.mk (below_drew1 HB.out)
     clear HO347
     clear HO354
     clear BK341
     clear BK342
     clear BK355
     clear HB
     have HO347 := n0_
     have HO354 := n1_
     have BK341 := n2_
     have BK342 := n3_
     have BK355 := n4_
     have HB := n5_
     clear n0_ n1_ n2_ n3_ n4_ n5_
     refine start_ (n := 5) (S := fun w' => w'.cell? ⟨gb355, 0, none⟩ = some (.int .i64 t351) ∧ w'.cell? ⟨gb355, 1, none⟩ = some (.slice Ao36 t352.length co36) ∧ w'.cell? ⟨gb342, 0, none⟩ = some (.int .i64 a1_0) ∧ w'.cell? ⟨gb342, 1, none⟩ = some (.int .i64 a1_1)) (ds := []) #[false, false, false, false, false] (by kernel_rfl) rfl rfl ⟨(blk_cell BK355.out 0).trans rfl, (blk_cell BK355.out 1).trans rfl, (blk_cell BK342.out 0).trans rfl, (blk_cell BK342.out 1).trans rfl⟩ (fun hHeld => ?_)
     generalize w37.drew = w38 at HO347 HO354 BK341 BK342 BK355 HB hHeld ⊢
     refine take_ (i := 0) (N := some 21) (v := ?_) (a' := ?_) #[true, false, false, false, false] rfl rfl (by kernel_rfl) (fun _ _ _ h => h) (Or.inl ⟨by rfl, ?_⟩) hHeld ?_ ?_
     rotate_left
     ·rintro w' ⟨s0, s1, s2, s3⟩
      go_simp
      with_reducible rfl
     rotate_left
     ·simp only [Act.put, List.setIfInBounds_toArray, List.set_cons_zero, List.set_cons_succ, i64_w, i32_w]
      rfl
     refine take_ (i := 1) (N := some 22) (v := ?_) (a' := ?_) #[true, true, false, false, false] rfl rfl (by kernel_rfl) (fun _ _ _ h => h) (Or.inl ⟨by rfl, ?_⟩) hHeld ?_ ?_
     rotate_left
     ·rintro w' ⟨s0, s1, s2, s3⟩
      go_simp
      with_reducible rfl
     rotate_left
     ·simp only [Act.put, List.setIfInBounds_toArray, List.set_cons_zero, List.set_cons_succ, i64_w, i32_w]
      rfl
     refine one_ (i := 2) (N := some 23) #[true, true, true, false, false] rfl rfl (by kernel_rfl) (by decide) (fun K hK => ?_)
     refine goes_ Try.func32 (by kernel_rfl) rfl #[.agg #[.int .i64 a1_0, .int .i64 a1_1]] (by rfl) rfl rfl ls_ ?_
     with_reducible refine (laws_toTrip.calls a1_0 a1_1 t356 t357 _ A14.out).mono ?_
     rintro e w39 ⟨rfl, hb⟩
     refine ⟨_, rfl, ?_⟩
     have n0_ := Aside0.mk (Kd.R_below (ra_ HO347.out) hb)
     have n1_ := Aside0.mk (Kd.R_below (ra_ HO354.out) hb)
     have n2_ := bb_ BK341 hb
     have n3_ := bb_ BK342 hb
     have n4_ := bb_ BK355 hb
     have n5_ := Aside0.mk (below_step hb_ hb)
     clear HO347
     clear HO354
     clear BK341
     clear BK342
     clear BK355
     clear HB
     have HO347 := n0_
     have HO354 := n1_
     have BK341 := n2_
     have BK342 := n3_
     have BK355 := n4_
     have HB := n5_
     clear n0_ n1_ n2_ n3_ n4_ n5_
     (try clear hb)
     (try clear hb2)
     (try clear hk)
     (try clear hi)
     refine hK.out _ _ ⟨(blk_cell BK355.out 0).trans rfl, (blk_cell BK355.out 1).trans rfl, (blk_cell BK342.out 0).trans rfl, (blk_cell BK342.out 1).trans rfl⟩ (fun hHeld => ?_)
     clear hK K
     refine norm_ (a' := ?_) ?_ ?_
     rotate_left
     ·show Act.put _ (some 23) _ = _
      simp only [Act.put, List.setIfInBounds_toArray, List.set_cons_zero, List.set_cons_succ, i64_w, i32_w]
      rfl
     refine one_ (i := 3) (N := some 24) #[true, true, true, true, false] rfl rfl (by kernel_rfl) (by decide) (fun K hK => ?_)
     refine goes_ Try.func33 (by kernel_rfl) rfl #[.agg #[.int .i64 t351, .slice Ao36 t352.length co36], .agg #[.int .i64 t356, .int .i64 t357]] (by rfl) rfl rfl ls_ ?_
     with_reducible refine (impl_AloneTicks.calls t351 _ _ t352 t356 t357 t358 _ ?side1 ?side2 A15.out).mono ?_
     (case side1 => exact ca_ (Kd.R_reads' HO354.out).2.2)
     (case side2 => exact (Kd.R_reads' HO354.out).2.1)
     rintro e w40 ⟨rfl, hb⟩
     refine ⟨_, rfl, ?_⟩
     have n0_ := Aside0.mk (Kd.R_below (ra_ HO347.out) hb)
     have n1_ := Aside0.mk (Kd.R_below (ra_ HO354.out) hb)
     have n2_ := bb_ BK341 hb
     have n3_ := bb_ BK342 hb
     have n4_ := bb_ BK355 hb
     have n5_ := Aside0.mk (below_step hb_ hb)
     clear HO347
     clear HO354
     clear BK341
     clear BK342
     clear BK355
     clear HB
     have HO347 := n0_
     have HO354 := n1_
     have BK341 := n2_
     have BK342 := n3_
     have BK355 := n4_
     have HB := n5_
     clear n0_ n1_ n2_ n3_ n4_ n5_
     (try clear hb)
     (try clear hb2)
     (try clear hk)
     (try clear hi)
     refine hK.out _ _ ⟨(blk_cell BK355.out 0).trans rfl, (blk_cell BK355.out 1).trans rfl, (blk_cell BK342.out 0).trans rfl, (blk_cell BK342.out 1).trans rfl⟩ (fun hHeld => ?_)
     clear hK K
     refine norm_ (a' := ?_) ?_ ?_
     rotate_left
     ·show Act.put _ (some 24) _ = _
      simp only [Act.put, List.setIfInBounds_toArray, List.set_cons_zero, List.set_cons_succ, i64_w, i32_w]
      rfl
     refine pure_ (i := 4) (N := some 8) (v := ?_) (a' := ?_) #[true, true, true, true, true] rfl rfl (by kernel_rfl) (fun _ _ _ h => h) (Or.inl ⟨by rfl, ?_⟩) ?_ ?_
     rotate_left
     ·intro w'
      go_simp
      with_reducible rfl
     rotate_left
     ·simp only [Act.put, List.setIfInBounds_toArray, List.set_cons_zero, List.set_cons_succ, i64_w, i32_w]
      rfl
     refine done_ (by kernel_rfl) ?_
     try go_wp2
     have n0_ := Aside0.mk (Kd.R_drew HO347.out)
     have n1_ := Aside0.mk (Kd.R_drew HO354.out)
     have n2_ := Aside0.mk (blk_drew BK341.out)
     have n3_ := Aside0.mk (blk_drew BK342.out)
     have n4_ := Aside0.mk (blk_drew BK355.out)
     have n5_ := Aside0.mk (below_drew1 HB.out)
     clear HO347
     clear HO354
     clear BK341
     clear BK342
     clear BK355
     clear HB
     have HO347 := n0_
     have HO354 := n1_
     have BK341 := n2_
     have BK342 := n3_
     have BK355 := n4_
     have HB := n5_
     clear n0_ n1_ n2_ n3_ n4_ n5_
     refine start_ (n := 5) (S := fun w' => w'.cell? ⟨gb355, 0, none⟩ = some (.int .i64 t351) ∧ w'.cell? ⟨gb355, 1, none⟩ = some (.slice Ao36 t352.length co36) ∧ w'.cell? ⟨gb341, 0, none⟩ = some (.int .i64 a0_0) ∧ w'.cell? ⟨gb341, 1, none⟩ = some (.slice A0_1 l0_1.length c0_1)) (ds := []) #[false, false, false, false, false] (by kernel_rfl) rfl rfl ⟨(blk_cell BK355.out 0).trans rfl, (blk_cell BK355.out 1).trans rfl, (blk_cell BK341.out 0).trans rfl, (blk_cell BK341.out 1).trans rfl⟩ (fun hHeld => ?_)
     generalize w40.drew = w41 at HO347 HO354 BK341 BK342 BK355 HB hHeld ⊢
     refine take_ (i := 0) (N := some 28) (v := ?_) (a' := ?_) #[true, false, false, false, false] rfl rfl (by kernel_rfl) (fun _ _ _ h => h) (Or.inl ⟨by rfl, ?_⟩) hHeld ?_ ?_
     rotate_left
     ·rintro w' ⟨s0, s1, s2, s3⟩
      go_simp
      with_reducible rfl
     rotate_left
     ·simp only [Act.put, List.setIfInBounds_toArray, List.set_cons_zero, List.set_cons_succ, i64_w, i32_w]
      rfl
     refine take_ (i := 1) (N := some 29) (v := ?_) (a' := ?_) #[true, true, false, false, false] rfl rfl (by kernel_rfl) (fun _ _ _ h => h) (Or.inl ⟨by rfl, ?_⟩) hHeld ?_ ?_
     rotate_left
     ·rintro w' ⟨s0, s1, s2, s3⟩
      go_simp
      with_reducible rfl
     rotate_left
     ·simp only [Act.put, List.setIfInBounds_toArray, List.set_cons_zero, List.set_cons_succ, i64_w, i32_w]
      rfl
     refine one_ (i := 2) (N := some 30) #[true, true, true, false, false] rfl rfl (by kernel_rfl) (by decide) (fun K hK => ?_)
     refine goes_ Try.func26 (by kernel_rfl) rfl #[.agg #[.int .i64 a0_0, .slice A0_1 l0_1.length c0_1]] (by rfl) rfl rfl ls_ ?_
     with_reducible refine (laws_toCells.calls k a0_0 _ _ l0_1 t359 t360 _ ?side1 ?side2 A17.out).mono ?_
     (case side1 => exact cb_ HR0_1.out)
     (case side2 => exact HC0_1.out)
     rintro e w42 ⟨v361, rfl, ho0, hb⟩
     refine ⟨_, rfl, ?_⟩
     have n0_ := Aside0.mk (Kd.R_elder' (ra_ HO347.out) (Kd.R_base ho0) hb)
     have n1_ := Aside0.mk (Kd.R_elder' (ra_ HO354.out) (Kd.R_base ho0) hb)
     have n2_ := Aside0.mk (Kd.R_lower (Kd.R_new' (Kd.R_new' ho0 (Kd.R_lt (ra_ HO347.out))) (Kd.R_lt (ra_ HO354.out))) (below_size hb_))
     have n3_ := bb_ BK341 hb
     have n4_ := bb_ BK342 hb
     have n5_ := bb_ BK355 hb
     have n6_ := Aside0.mk (below_step hb_ hb)
     clear HO347
     clear HO354
     clear BK341
     clear BK342
     clear BK355
     clear HB
     have HO347 := n0_
     have HO354 := n1_
     have HO362 := n2_
     have BK341 := n3_
     have BK342 := n4_
     have BK355 := n5_
     have HB := n6_
     clear n0_ n1_ n2_ n3_ n4_ n5_ n6_
     (try clear hb)
     (try clear hb2)
     (try clear hk)
     (try clear hi)
     (try clear ho0)
     obtain ⟨Ao43, co43, eo43⟩ := Kd.R_slice HO362.out
     (first | subst eo43 | (injection eo43 with f1_ f2_ f3_; have f4_ := f1_.symm; have f5_ := f3_.symm; clear f1_ f2_ f3_; subst f4_; subst f5_))
     refine hK.out _ _ ⟨(blk_cell BK355.out 0).trans rfl, (blk_cell BK355.out 1).trans rfl, (blk_cell BK341.out 0).trans rfl, (blk_cell BK341.out 1).trans rfl⟩ (fun hHeld => ?_)
     clear hK K
     refine norm_ (a' := ?_) ?_ ?_
     rotate_left
     ·show Act.put _ (some 30) _ = _
      simp only [Act.put, List.setIfInBounds_toArray, List.set_cons_zero, List.set_cons_succ, i64_w, i32_w]
      rfl
     refine one_ (i := 3) (N := some 31) #[true, true, true, true, false] rfl rfl (by kernel_rfl) (by decide) (fun K hK => ?_)
     refine goes_ Try.func29 (by kernel_rfl) rfl #[.agg #[.int .i64 t351, .slice Ao36 t352.length co36], .agg #[.int .i64 t359, .slice Ao43 t360.length co43]] (by rfl) rfl rfl ls_ ?_
     with_reducible refine (laws_eqCells.calls k t351 _ _ t352 t359 _ _ t360 true _ ?side1 ?side2 ?side3 ?side4 A18.out).mono ?_
     (case side1 => exact ca_ (Kd.R_reads' HO354.out).2.2)
     (case side2 => exact (Kd.R_reads' HO354.out).2.1)
     (case side3 => exact ca_ (Kd.R_reads' HO362.out).2.2)
     (case side4 => exact (Kd.R_reads' HO362.out).2.1)
     rintro e w44 ⟨rfl, hb⟩
     refine ⟨_, rfl, ?_⟩
     have n0_ := Aside0.mk (Kd.R_below (ra_ HO347.out) hb)
     have n1_ := Aside0.mk (Kd.R_below (ra_ HO354.out) hb)
     have n2_ := Aside0.mk (Kd.R_below (ra_ HO362.out) hb)
     have n3_ := bb_ BK341 hb
     have n4_ := bb_ BK342 hb
     have n5_ := bb_ BK355 hb
     have n6_ := Aside0.mk (below_step hb_ hb)
     clear HO347
     clear HO354
     clear HO362
     clear BK341
     clear BK342
     clear BK355
     clear HB
     have HO347 := n0_
     have HO354 := n1_
     have HO362 := n2_
     have BK341 := n3_
     have BK342 := n4_
     have BK355 := n5_
     have HB := n6_
     clear n0_ n1_ n2_ n3_ n4_ n5_ n6_
     (try clear hb)
     (try clear hb2)
     (try clear hk)
     (try clear hi)
     refine hK.out _ _ ⟨(blk_cell BK355.out 0).trans rfl, (blk_cell BK355.out 1).trans rfl, (blk_cell BK341.out 0).trans rfl, (blk_cell BK341.out 1).trans rfl⟩ (fun hHeld => ?_)
     clear hK K
     refine norm_ (a' := ?_) ?_ ?_
     rotate_left
     ·show Act.put _ (some 31) _ = _
      simp only [Act.put, List.setIfInBounds_toArray, List.set_cons_zero, List.set_cons_succ, i64_w, i32_w]
      rfl
     refine pure_ (i := 4) (N := some 32) (v := ?_) (a' := ?_) #[true, true, true, true, true] rfl rfl (by kernel_rfl) (fun _ _ _ h => h) (Or.inl ⟨by rfl, ?_⟩) ?_ ?_
     rotate_left
     ·intro w'
      go_simp
      with_reducible rfl
     rotate_left
     ·simp only [Act.put, List.setIfInBounds_toArray, List.set_cons_zero, List.set_cons_succ, i64_w, i32_w]
      rfl
     refine done_ (by kernel_rfl) ?_
     try go_wp2
     go_ret
     exact ⟨er_, hb_⟩
    ·replace c19 := Bool.eq_false_iff.mpr c19
     subst c19
     rw [if_neg (show ¬ (false = true) by decide)] at H
     obtain rfl := Option.some.inj H
     go_enter Try.func6, Try.ntmps6
     try go_wp2_with (first | ((with_reducible refine gate_dst (N := 2) rfl ?_); refine box_event ?hg (N := 2) ?hd (cs := #[.int .i64 a0_0, .slice A0_1 l0_1.length c0_1]) (t := 34) ?hr ?_; (case hd => rfl); (case hg => rfl); (case hr => first | (go_simp; done) | (go_simp; rfl)); intro gb341 hg w45 hbox hb; have n0_ := Aside0.mk (below_step hb_ hb); have n1_ := Aside0.mk (hbox); have n2_ : Aside0 (w.heap.size ≤ gb341) := gz_; have n3_ : Aside0 (w.heap.size ≤ gb341) := gz_; clear HB; have HB := n0_; have BK341 := n1_; have GW341 := n2_; have GE341 := n3_; clear n0_ n1_ n2_ n3_; clear hb hbox hg) | ((with_reducible refine gate_dst (N := 3) rfl ?_); refine box_event ?hg (N := 3) ?hd (cs := #[.int .i64 a1_0, .int .i64 a1_1]) (t := 47) ?hr ?_; (case hd => rfl); (case hg => rfl); (case hr => first | (go_simp; done) | (go_simp; rfl)); intro gb342 hg w46 hbox hb; have n0_ := bb_ BK341 hb; have n1_ := Aside0.mk (below_step hb_ hb); have n2_ := Aside0.mk (hbox); have n3_ : Aside0 (w.heap.size ≤ gb342) := gz_; have n4_ : Aside0 (w.heap.size ≤ gb342) := gz_; have n5_ := Aside0.mk ((by rw [hg]; exact Nat.ne_of_lt (blk_lt (g := gb341) (o := .cells #[.int .i64 a0_0, .slice A0_1 l0_1.length c0_1] 34 (0, 0)) (bk_ BK341.out)) : gb341 ≠ gb342)); have n6_ := Aside0.mk ((by rw [hg]; exact Nat.ne_of_gt (blk_lt (g := gb341) (o := .cells #[.int .i64 a0_0, .slice A0_1 l0_1.length c0_1] 34 (0, 0)) (bk_ BK341.out)) : gb342 ≠ gb341)); clear BK341; clear HB; have BK341 := n0_; have HB := n1_; have BK342 := n2_; have GW342 := n3_; have GE342 := n4_; have NB341_342 := n5_; have NB342_341 := n6_; clear n0_ n1_ n2_ n3_ n4_ n5_ n6_; clear hb hbox hg; have hnb47 := NB341_342.out; have hnc47 := NB342_341.out; have hcz48_0 : w46.cell? ⟨gb341, 0, none⟩ = some (.int .i64 a0_0) := (blk_cell BK341.out 0).trans rfl; have hcz48_1 : w46.cell? ⟨gb341, 1, none⟩ = some (.slice A0_1 l0_1.length c0_1) := (blk_cell BK341.out 1).trans rfl; have hfz48_0 := blk_frozen BK341.out 0; have hfz48_1 := blk_frozen BK341.out 1) | ((with_reducible refine gate_callee (f := 23) rfl ?_); refine goesL_ (some 11) rfl rfl Try.func23 (by kernel_rfl) rfl #[.agg #[.int .i64 a0_0, .slice A0_1 l0_1.length c0_1], .int .i64 1048576] rfl ls_ ?_; (with_reducible refine (laws_szCells.calls a0_0 _ _ l0_1 1048576 t343 _ ?side1 ?side2 A3.out).mono ?_); (case side1 => exact cb_ HR0_1.out); (case side2 => exact HC0_1.out); rintro e w49 ⟨rfl, hb⟩; refine ⟨_, rfl, ?_⟩; have n0_ := bb_ BK341 hb; have n1_ := bb_ BK342 hb; have n2_ := Aside0.mk (below_step hb_ hb); clear BK341; clear BK342; clear HB; have BK341 := n0_; have BK342 := n1_; have HB := n2_; clear n0_ n1_ n2_; (try clear hb); (try clear hb2); (try clear hk); (try clear hi)))
     have n0_ := Aside0.mk (blk_drew BK341.out)
     have n1_ := Aside0.mk (blk_drew BK342.out)
     have n2_ := Aside0.mk (below_drew1 HB.out)
     clear BK341
     clear BK342
     clear HB
     have BK341 := n0_
     have BK342 := n1_
     have HB := n2_
     clear n0_ n1_ n2_
     refine start_ (n := 6) (S := fun w' => w'.cell? ⟨gb341, 0, none⟩ = some (.int .i64 a0_0) ∧ w'.cell? ⟨gb341, 1, none⟩ = some (.slice A0_1 l0_1.length c0_1) ∧ w'.cell? ⟨gb342, 0, none⟩ = some (.int .i64 a1_0) ∧ w'.cell? ⟨gb342, 1, none⟩ = some (.int .i64 a1_1)) (ds := []) #[false, false, false, false, false, false] (by kernel_rfl) rfl rfl ⟨(blk_cell BK341.out 0).trans rfl, (blk_cell BK341.out 1).trans rfl, (blk_cell BK342.out 0).trans rfl, (blk_cell BK342.out 1).trans rfl⟩ (fun hHeld => ?_)
     generalize w49.drew = w50 at BK341 BK342 HB hHeld ⊢
     refine take_ (i := 0) (N := some 14) (v := ?_) (a' := ?_) #[true, false, false, false, false, false] rfl rfl (by kernel_rfl) (fun _ _ _ h => h) (Or.inl ⟨by rfl, ?_⟩) hHeld ?_ ?_
     rotate_left
     ·rintro w' ⟨s0, s1, s2, s3⟩
      go_simp
      with_reducible rfl
     rotate_left
     ·simp only [Act.put, List.setIfInBounds_toArray, List.set_cons_zero, List.set_cons_succ, i64_w, i32_w]
      rfl
     refine take_ (i := 2) (N := some 16) (v := ?_) (a' := ?_) #[true, false, true, false, false, false] rfl rfl (by kernel_rfl) (fun _ _ _ h => h) (Or.inl ⟨by rfl, ?_⟩) hHeld ?_ ?_
     rotate_left
     ·rintro w' ⟨s0, s1, s2, s3⟩
      go_simp
      with_reducible rfl
     rotate_left
     ·simp only [Act.put, List.setIfInBounds_toArray, List.set_cons_zero, List.set_cons_succ, i64_w, i32_w]
      rfl
     refine one_ (i := 1) (N := some 15) #[true, true, true, false, false, false] rfl rfl (by kernel_rfl) (by decide) (fun K hK => ?_)
     refine goes_ Try.func26 (by kernel_rfl) rfl #[.agg #[.int .i64 a0_0, .slice A0_1 l0_1.length c0_1]] (by rfl) rfl rfl ls_ ?_
     with_reducible refine (laws_toCells.calls k a0_0 _ _ l0_1 t344 t345 _ ?side1 ?side2 A10.out).mono ?_
     (case side1 => exact cb_ HR0_1.out)
     (case side2 => exact HC0_1.out)
     rintro e w51 ⟨v346, rfl, ho0, hb⟩
     refine ⟨_, rfl, ?_⟩
     have n0_ := Aside0.mk (Kd.R_lower ho0 (below_size hb_))
     have n1_ := bb_ BK341 hb
     have n2_ := bb_ BK342 hb
     have n3_ := Aside0.mk (below_step hb_ hb)
     clear BK341
     clear BK342
     clear HB
     have HO347 := n0_
     have BK341 := n1_
     have BK342 := n2_
     have HB := n3_
     clear n0_ n1_ n2_ n3_
     (try clear hb)
     (try clear hb2)
     (try clear hk)
     (try clear hi)
     (try clear ho0)
     refine hK.out _ _ ⟨(blk_cell BK341.out 0).trans rfl, (blk_cell BK341.out 1).trans rfl, (blk_cell BK342.out 0).trans rfl, (blk_cell BK342.out 1).trans rfl⟩ (fun hHeld => ?_)
     clear hK K
     refine norm_ (a' := ?_) ?_ ?_
     rotate_left
     ·show Act.put _ (some 15) _ = _
      simp only [Act.put, List.setIfInBounds_toArray, List.set_cons_zero, List.set_cons_succ, i64_w, i32_w]
      rfl
     refine one_ (i := 3) (N := some 17) #[true, true, true, true, false, false] rfl rfl (by kernel_rfl) (by decide) (fun K hK => ?_)
     refine goes_ Try.func32 (by kernel_rfl) rfl #[.agg #[.int .i64 a1_0, .int .i64 a1_1]] (by rfl) rfl rfl ls_ ?_
     with_reducible refine (laws_toTrip.calls a1_0 a1_1 t348 t349 _ A11.out).mono ?_
     rintro e w52 ⟨rfl, hb⟩
     refine ⟨_, rfl, ?_⟩
     have n0_ := Aside0.mk (Kd.R_below (ra_ HO347.out) hb)
     have n1_ := bb_ BK341 hb
     have n2_ := bb_ BK342 hb
     have n3_ := Aside0.mk (below_step hb_ hb)
     clear HO347
     clear BK341
     clear BK342
     clear HB
     have HO347 := n0_
     have BK341 := n1_
     have BK342 := n2_
     have HB := n3_
     clear n0_ n1_ n2_ n3_
     (try clear hb)
     (try clear hb2)
     (try clear hk)
     (try clear hi)
     obtain ⟨Ao53, co53, eo53⟩ := Kd.R_slice HO347.out
     (first | subst eo53 | (injection eo53 with f1_ f2_ f3_; have f4_ := f1_.symm; have f5_ := f3_.symm; clear f1_ f2_ f3_; subst f4_; subst f5_))
     refine hK.out _ _ ⟨(blk_cell BK341.out 0).trans rfl, (blk_cell BK341.out 1).trans rfl, (blk_cell BK342.out 0).trans rfl, (blk_cell BK342.out 1).trans rfl⟩ (fun hHeld => ?_)
     clear hK K
     refine norm_ (a' := ?_) ?_ ?_
     rotate_left
     ·show Act.put _ (some 17) _ = _
      simp only [Act.put, List.setIfInBounds_toArray, List.set_cons_zero, List.set_cons_succ, i64_w, i32_w]
      rfl
     refine one_ (i := 4) (N := some 18) #[true, true, true, true, true, false] rfl rfl (by kernel_rfl) (by decide) (fun K hK => ?_)
     refine goes_ Try.func31 (by kernel_rfl) rfl #[.agg #[.int .i64 t344, .slice Ao53 t345.length co53], .agg #[.int .i64 t348, .int .i64 t349]] (by rfl) rfl rfl ls_ ?_
     with_reducible refine (spec_AloneTicks.calls k t344 _ _ t345 t348 t349 t350 _ ?side1 ?side2 A12.out).mono ?_
     (case side1 => exact ca_ (Kd.R_reads' HO347.out).2.2)
     (case side2 => exact (Kd.R_reads' HO347.out).2.1)
     rintro e w54 ⟨rfl, hb⟩
     refine ⟨_, rfl, ?_⟩
     have n0_ := Aside0.mk (Kd.R_below (ra_ HO347.out) hb)
     have n1_ := bb_ BK341 hb
     have n2_ := bb_ BK342 hb
     have n3_ := Aside0.mk (below_step hb_ hb)
     clear HO347
     clear BK341
     clear BK342
     clear HB
     have HO347 := n0_
     have BK341 := n1_
     have BK342 := n2_
     have HB := n3_
     clear n0_ n1_ n2_ n3_
     (try clear hb)
     (try clear hb2)
     (try clear hk)
     (try clear hi)
     refine hK.out _ _ ⟨(blk_cell BK341.out 0).trans rfl, (blk_cell BK341.out 1).trans rfl, (blk_cell BK342.out 0).trans rfl, (blk_cell BK342.out 1).trans rfl⟩ (fun hHeld => ?_)
     clear hK K
     refine norm_ (a' := ?_) ?_ ?_
     rotate_left
     ·show Act.put _ (some 18) _ = _
      simp only [Act.put, List.setIfInBounds_toArray, List.set_cons_zero, List.set_cons_succ, i64_w, i32_w]
      rfl
     refine pure_ (i := 5) (N := some 6) (v := ?_) (a' := ?_) #[true, true, true, true, true, true] rfl rfl (by kernel_rfl) (fun _ _ _ h => h) (Or.inl ⟨by rfl, ?_⟩) ?_ ?_
     rotate_left
     ·intro w'
      go_simp
      with_reducible rfl
     rotate_left
     ·simp only [Act.put, List.setIfInBounds_toArray, List.set_cons_zero, List.set_cons_succ, i64_w, i32_w]
      rfl
     refine done_ (by kernel_rfl) ?_
     have hcz55_0 : w54.cell? ⟨gb341, 0, none⟩ = some (.int .i64 a0_0) := (blk_cell BK341.out 0).trans rfl
     have hcz55_1 : w54.cell? ⟨gb341, 1, none⟩ = some (.slice A0_1 l0_1.length c0_1) := (blk_cell BK341.out 1).trans rfl
     have hfz55_0 := blk_frozen BK341.out 0
     have hfz55_1 := blk_frozen BK341.out 1
     try go_wp2_with (first | ((with_reducible refine gate_callee (f := 26) rfl ?_); refine goesL_ (some 20) rfl rfl Try.func26 (by kernel_rfl) rfl #[.agg #[.int .i64 a0_0, .slice A0_1 l0_1.length c0_1]] rfl ls_ ?_; (with_reducible refine (laws_toCells.calls k a0_0 _ _ l0_1 t351 t352 _ ?side1 ?side2 A13.out).mono ?_); (case side1 => exact cb_ HR0_1.out); (case side2 => exact HC0_1.out); rintro e w56 ⟨v353, rfl, ho0, hb⟩; refine ⟨_, rfl, ?_⟩; have n0_ := Aside0.mk (Kd.R_elder' (ra_ HO347.out) (Kd.R_base ho0) hb); have n1_ := Aside0.mk (Kd.R_lower (Kd.R_new' ho0 (Kd.R_lt (ra_ HO347.out))) (below_size hb_)); have n2_ := bb_ BK341 hb; have n3_ := bb_ BK342 hb; have n4_ := Aside0.mk (below_step hb_ hb); clear HO347; clear BK341; clear BK342; clear HB; have HO347 := n0_; have HO354 := n1_; have BK341 := n2_; have BK342 := n3_; have HB := n4_; clear n0_ n1_ n2_ n3_ n4_; (try clear hb); (try clear hb2); (try clear hk); (try clear hi); (try clear ho0)) | ((with_reducible refine gate_dst (N := 7) rfl ?_); refine box_event ?hg (N := 7) ?hd (cs := #[.int .i64 0, .slice none 0 0]) (t := 39) ?hr ?_; (case hd => rfl); (case hg => rfl); (case hr => first | (go_simp; done) | (go_simp; rfl)); intro gb355 hg w57 hbox hb; have n0_ := Aside0.mk (Kd.R_below (ra_ HO347.out) hb); have n1_ := Aside0.mk (Kd.R_below (ra_ HO354.out) hb); have n2_ := bb_ BK341 hb; have n3_ := bb_ BK342 hb; have n4_ := Aside0.mk (below_step hb_ hb); have n5_ := Aside0.mk (hbox); have n6_ : Aside0 (w.heap.size ≤ gb355) := gz_; have n7_ : Aside0 (w.heap.size ≤ gb355) := gz_; have n8_ := Aside0.mk ((by rw [hg]; exact Nat.ne_of_lt (blk_lt (g := gb341) (o := .cells #[.int .i64 a0_0, .slice A0_1 l0_1.length c0_1] 34 (0, 0)) (bk_ BK341.out)) : gb341 ≠ gb355)); have n9_ := Aside0.mk ((by rw [hg]; exact Nat.ne_of_gt (blk_lt (g := gb341) (o := .cells #[.int .i64 a0_0, .slice A0_1 l0_1.length c0_1] 34 (0, 0)) (bk_ BK341.out)) : gb355 ≠ gb341)); have n10_ := Aside0.mk ((by rw [hg]; exact Nat.ne_of_lt (blk_lt (g := gb342) (o := .cells #[.int .i64 a1_0, .int .i64 a1_1] 47 (0, 0)) (bk_ BK342.out)) : gb342 ≠ gb355)); have n11_ := Aside0.mk ((by rw [hg]; exact Nat.ne_of_gt (blk_lt (g := gb342) (o := .cells #[.int .i64 a1_0, .int .i64 a1_1] 47 (0, 0)) (bk_ BK342.out)) : gb355 ≠ gb342)); clear HO347; clear HO354; clear BK341; clear BK342; clear HB; have HO347 := n0_; have HO354 := n1_; have BK341 := n2_; have BK342 := n3_; have HB := n4_; have BK355 := n5_; have GW355 := n6_; have GE355 := n7_; have NB341_355 := n8_; have NB355_341 := n9_; have NB342_355 := n10_; have NB355_342 := n11_; clear n0_ n1_ n2_ n3_ n4_ n5_ n6_ n7_ n8_ n9_ n10_ n11_; clear hb hbox hg; have hnb58 := NB355_341.out; have hnc58 := NB341_355.out; have hnb59 := NB355_342.out; have hnc59 := NB342_355.out; have hcz60_0 : w57.cell? ⟨gb355, 0, none⟩ = some (.int .i64 0) := (blk_cell BK355.out 0).trans rfl; have hcz60_1 : w57.cell? ⟨gb355, 1, none⟩ = some (.slice none 0 0) := (blk_cell BK355.out 1).trans rfl; have hfz60_0 := blk_frozen BK355.out 0; have hfz60_1 := blk_frozen BK355.out 1; obtain ⟨Ao61, co61, eo61⟩ := Kd.R_slice HO354.out; subst eo61))
     have n0_ : Aside0 (Kd.R (Kd.int .i64) 3 ((w57.setCell ⟨gb355, 0, none⟩ (.int .i64 t351)).setCell ⟨gb355, 1, none⟩ (.slice Ao61 t352.length co61)) w.heap.size (fun k_ => some k_ ≠ (.slice Ao61 t352.length co61 : Value).ownBlock) (.slice Ao53 t345.length co53) t345) := ⟨by (with_reducible repeat (first | apply Kd.R_alloc | apply Kd.R_drewN | apply Kd.R_drew)); exact Kd.R_mono (Kd.R_far (p := ⟨gb355, 1, none⟩) (Kd.R_far (p := ⟨gb355, 0, none⟩) (Kd.R_types HO347.out BK355.out (by decide)) (fun _ hk => hk.2) (.int .i64 t351)) (fun _ hk => hk.2) (.slice Ao61 t352.length co61)) (fun _ hk => hk.1.2)⟩
     have n1_ : Aside0 (Kd.R (Kd.int .i64) 3 ((w57.setCell ⟨gb355, 0, none⟩ (.int .i64 t351)).setCell ⟨gb355, 1, none⟩ (.slice Ao61 t352.length co61)) w.heap.size (fun k_ => some k_ ≠ (.slice Ao53 t345.length co53 : Value).ownBlock) (.slice Ao61 t352.length co61) t352) := ⟨by (with_reducible repeat (first | apply Kd.R_alloc | apply Kd.R_drewN | apply Kd.R_drew)); exact Kd.R_mono (Kd.R_far (p := ⟨gb355, 1, none⟩) (Kd.R_far (p := ⟨gb355, 0, none⟩) (Kd.R_types HO354.out BK355.out (by decide)) (fun _ hk => hk.2) (.int .i64 t351)) (fun _ hk => hk.2) (.slice Ao61 t352.length co61)) (fun _ hk => hk.1.2)⟩
     have n2_ : Aside0 (((w57.setCell ⟨gb355, 0, none⟩ (.int .i64 t351)).setCell ⟨gb355, 1, none⟩ (.slice Ao61 t352.length co61)).heap[gb341]? = some (.cells #[.int .i64 a0_0, .slice A0_1 l0_1.length c0_1] 34 (0, 0))) := ⟨by (with_reducible repeat (first | refine blk_drewN ?_ _ | refine blk_drew ?_ | refine blk_alloc ?_ _)); refine blk_far ?_ NB341_355.out _; (with_reducible repeat (first | refine blk_drewN ?_ _ | refine blk_drew ?_ | refine blk_alloc ?_ _)); refine blk_far ?_ NB341_355.out _; (with_reducible repeat (first | refine blk_drewN ?_ _ | refine blk_drew ?_ | refine blk_alloc ?_ _)); exact BK341.out⟩
     have n3_ : Aside0 (((w57.setCell ⟨gb355, 0, none⟩ (.int .i64 t351)).setCell ⟨gb355, 1, none⟩ (.slice Ao61 t352.length co61)).heap[gb342]? = some (.cells #[.int .i64 a1_0, .int .i64 a1_1] 47 (0, 0))) := ⟨by (with_reducible repeat (first | refine blk_drewN ?_ _ | refine blk_drew ?_ | refine blk_alloc ?_ _)); refine blk_far ?_ NB342_355.out _; (with_reducible repeat (first | refine blk_drewN ?_ _ | refine blk_drew ?_ | refine blk_alloc ?_ _)); refine blk_far ?_ NB342_355.out _; (with_reducible repeat (first | refine blk_drewN ?_ _ | refine blk_drew ?_ | refine blk_alloc ?_ _)); exact BK342.out⟩
     have n4_ : Aside0 (((w57.setCell ⟨gb355, 0, none⟩ (.int .i64 t351)).setCell ⟨gb355, 1, none⟩ (.slice Ao61 t352.length co61)).heap[gb355]? = some (.cells #[.int .i64 t351, .slice Ao61 t352.length co61] 39 (0, 0))) := ⟨by (with_reducible repeat (first | refine blk_drewN ?_ _ | refine blk_drew ?_ | refine blk_alloc ?_ _)); refine blk_put (cs := #[.int .i64 t351, .slice none 0 0]) ?_ 1 _ rfl; (with_reducible repeat (first | refine blk_drewN ?_ _ | refine blk_drew ?_ | refine blk_alloc ?_ _)); refine blk_put (cs := #[.int .i64 0, .slice none 0 0]) ?_ 0 _ rfl; (with_reducible repeat (first | refine blk_drewN ?_ _ | refine blk_drew ?_ | refine blk_alloc ?_ _)); exact BK355.out⟩
     have n5_ : Aside0 (Below w.heap.size w ((w57.setCell ⟨gb355, 0, none⟩ (.int .i64 t351)).setCell ⟨gb355, 1, none⟩ (.slice Ao61 t352.length co61))) := ⟨hb_⟩
     (try clear HO347)
     (try clear HO354)
     (try clear BK341)
     (try clear BK342)
     (try clear BK355)
     (try clear HB)
     generalize ((w57.setCell ⟨gb355, 0, none⟩ (.int .i64 t351)).setCell ⟨gb355, 1, none⟩ (.slice Ao61 t352.length co61)) = w62 at n0_ n1_ n2_ n3_ n4_ n5_ ⊢
     have HO347 := n0_
     have HO354 := n1_
     have BK341 := n2_
     have BK342 := n3_
     have BK355 := n4_
     have HB := n5_
     clear n0_ n1_ n2_ n3_ n4_ n5_
     have n0_ := Aside0.mk (Kd.R_drew HO347.out)
     have n1_ := Aside0.mk (Kd.R_drew HO354.out)
     have n2_ := Aside0.mk (blk_drew BK341.out)
     have n3_ := Aside0.mk (blk_drew BK342.out)
     have n4_ := Aside0.mk (blk_drew BK355.out)
     have n5_ := Aside0.mk (below_drew1 HB.out)
     clear HO347
     clear HO354
     clear BK341
     clear BK342
     clear BK355
     clear HB
     have HO347 := n0_
     have HO354 := n1_
     have BK341 := n2_
     have BK342 := n3_
     have BK355 := n4_
     have HB := n5_
     clear n0_ n1_ n2_ n3_ n4_ n5_
     refine start_ (n := 5) (S := fun w' => w'.cell? ⟨gb355, 0, none⟩ = some (.int .i64 t351) ∧ w'.cell? ⟨gb355, 1, none⟩ = some (.slice Ao61 t352.length co61) ∧ w'.cell? ⟨gb342, 0, none⟩ = some (.int .i64 a1_0) ∧ w'.cell? ⟨gb342, 1, none⟩ = some (.int .i64 a1_1)) (ds := []) #[false, false, false, false, false] (by kernel_rfl) rfl rfl ⟨(blk_cell BK355.out 0).trans rfl, (blk_cell BK355.out 1).trans rfl, (blk_cell BK342.out 0).trans rfl, (blk_cell BK342.out 1).trans rfl⟩ (fun hHeld => ?_)
     generalize w62.drew = w63 at HO347 HO354 BK341 BK342 BK355 HB hHeld ⊢
     refine take_ (i := 0) (N := some 21) (v := ?_) (a' := ?_) #[true, false, false, false, false] rfl rfl (by kernel_rfl) (fun _ _ _ h => h) (Or.inl ⟨by rfl, ?_⟩) hHeld ?_ ?_
     rotate_left
     ·rintro w' ⟨s0, s1, s2, s3⟩
      go_simp
      with_reducible rfl
     rotate_left
     ·simp only [Act.put, List.setIfInBounds_toArray, List.set_cons_zero, List.set_cons_succ, i64_w, i32_w]
      rfl
     refine take_ (i := 1) (N := some 22) (v := ?_) (a' := ?_) #[true, true, false, false, false] rfl rfl (by kernel_rfl) (fun _ _ _ h => h) (Or.inl ⟨by rfl, ?_⟩) hHeld ?_ ?_
     rotate_left
     ·rintro w' ⟨s0, s1, s2, s3⟩
      go_simp
      with_reducible rfl
     rotate_left
     ·simp only [Act.put, List.setIfInBounds_toArray, List.set_cons_zero, List.set_cons_succ, i64_w, i32_w]
      rfl
     refine one_ (i := 2) (N := some 23) #[true, true, true, false, false] rfl rfl (by kernel_rfl) (by decide) (fun K hK => ?_)
     refine goes_ Try.func32 (by kernel_rfl) rfl #[.agg #[.int .i64 a1_0, .int .i64 a1_1]] (by rfl) rfl rfl ls_ ?_
     with_reducible refine (laws_toTrip.calls a1_0 a1_1 t356 t357 _ A14.out).mono ?_
     rintro e w64 ⟨rfl, hb⟩
     refine ⟨_, rfl, ?_⟩
     have n0_ := Aside0.mk (Kd.R_below (ra_ HO347.out) hb)
     have n1_ := Aside0.mk (Kd.R_below (ra_ HO354.out) hb)
     have n2_ := bb_ BK341 hb
     have n3_ := bb_ BK342 hb
     have n4_ := bb_ BK355 hb
     have n5_ := Aside0.mk (below_step hb_ hb)
     clear HO347
     clear HO354
     clear BK341
     clear BK342
     clear BK355
     clear HB
     have HO347 := n0_
     have HO354 := n1_
     have BK341 := n2_
     have BK342 := n3_
     have BK355 := n4_
     have HB := n5_
     clear n0_ n1_ n2_ n3_ n4_ n5_
     (try clear hb)
     (try clear hb2)
     (try clear hk)
     (try clear hi)
     refine hK.out _ _ ⟨(blk_cell BK355.out 0).trans rfl, (blk_cell BK355.out 1).trans rfl, (blk_cell BK342.out 0).trans rfl, (blk_cell BK342.out 1).trans rfl⟩ (fun hHeld => ?_)
     clear hK K
     refine norm_ (a' := ?_) ?_ ?_
     rotate_left
     ·show Act.put _ (some 23) _ = _
      simp only [Act.put, List.setIfInBounds_toArray, List.set_cons_zero, List.set_cons_succ, i64_w, i32_w]
      rfl
     refine one_ (i := 3) (N := some 24) #[true, true, true, true, false] rfl rfl (by kernel_rfl) (by decide) (fun K hK => ?_)
     refine goes_ Try.func33 (by kernel_rfl) rfl #[.agg #[.int .i64 t351, .slice Ao61 t352.length co61], .agg #[.int .i64 t356, .int .i64 t357]] (by rfl) rfl rfl ls_ ?_
     with_reducible refine (impl_AloneTicks.calls t351 _ _ t352 t356 t357 t358 _ ?side1 ?side2 A15.out).mono ?_
     (case side1 => exact ca_ (Kd.R_reads' HO354.out).2.2)
     (case side2 => exact (Kd.R_reads' HO354.out).2.1)
     rintro e w65 ⟨rfl, hb⟩
     refine ⟨_, rfl, ?_⟩
     have n0_ := Aside0.mk (Kd.R_below (ra_ HO347.out) hb)
     have n1_ := Aside0.mk (Kd.R_below (ra_ HO354.out) hb)
     have n2_ := bb_ BK341 hb
     have n3_ := bb_ BK342 hb
     have n4_ := bb_ BK355 hb
     have n5_ := Aside0.mk (below_step hb_ hb)
     clear HO347
     clear HO354
     clear BK341
     clear BK342
     clear BK355
     clear HB
     have HO347 := n0_
     have HO354 := n1_
     have BK341 := n2_
     have BK342 := n3_
     have BK355 := n4_
     have HB := n5_
     clear n0_ n1_ n2_ n3_ n4_ n5_
     (try clear hb)
     (try clear hb2)
     (try clear hk)
     (try clear hi)
     refine hK.out _ _ ⟨(blk_cell BK355.out 0).trans rfl, (blk_cell BK355.out 1).trans rfl, (blk_cell BK342.out 0).trans rfl, (blk_cell BK342.out 1).trans rfl⟩ (fun hHeld => ?_)
     clear hK K
     refine norm_ (a' := ?_) ?_ ?_
     rotate_left
     ·show Act.put _ (some 24) _ = _
      simp only [Act.put, List.setIfInBounds_toArray, List.set_cons_zero, List.set_cons_succ, i64_w, i32_w]
      rfl
     refine pure_ (i := 4) (N := some 8) (v := ?_) (a' := ?_) #[true, true, true, true, true] rfl rfl (by kernel_rfl) (fun _ _ _ h => h) (Or.inl ⟨by rfl, ?_⟩) ?_ ?_
     rotate_left
     ·intro w'
      go_simp
      with_reducible rfl
     rotate_left
     ·simp only [Act.put, List.setIfInBounds_toArray, List.set_cons_zero, List.set_cons_succ, i64_w, i32_w]
      rfl
     refine done_ (by kernel_rfl) ?_
     try go_wp2
     have n0_ := Aside0.mk (Kd.R_drew HO347.out)
     have n1_ := Aside0.mk (Kd.R_drew HO354.out)
     have n2_ := Aside0.mk (blk_drew BK341.out)
     have n3_ := Aside0.mk (blk_drew BK342.out)
     have n4_ := Aside0.mk (blk_drew BK355.out)
     have n5_ := Aside0.mk (below_drew1 HB.out)
     clear HO347
     clear HO354
     clear BK341
     clear BK342
     clear BK355
     clear HB
     have HO347 := n0_
     have HO354 := n1_
     have BK341 := n2_
     have BK342 := n3_
     have BK355 := n4_
     have HB := n5_
     clear n0_ n1_ n2_ n3_ n4_ n5_
     refine start_ (n := 5) (S := fun w' => w'.cell? ⟨gb355, 0, none⟩ = some (.int .i64 t351) ∧ w'.cell? ⟨gb355, 1, none⟩ = some (.slice Ao61 t352.length co61) ∧ w'.cell? ⟨gb341, 0, none⟩ = some (.int .i64 a0_0) ∧ w'.cell? ⟨gb341, 1, none⟩ = some (.slice A0_1 l0_1.length c0_1)) (ds := []) #[false, false, false, false, false] (by kernel_rfl) rfl rfl ⟨(blk_cell BK355.out 0).trans rfl, (blk_cell BK355.out 1).trans rfl, (blk_cell BK341.out 0).trans rfl, (blk_cell BK341.out 1).trans rfl⟩ (fun hHeld => ?_)
     generalize w65.drew = w66 at HO347 HO354 BK341 BK342 BK355 HB hHeld ⊢
     refine take_ (i := 0) (N := some 28) (v := ?_) (a' := ?_) #[true, false, false, false, false] rfl rfl (by kernel_rfl) (fun _ _ _ h => h) (Or.inl ⟨by rfl, ?_⟩) hHeld ?_ ?_
     rotate_left
     ·rintro w' ⟨s0, s1, s2, s3⟩
      go_simp
      with_reducible rfl
     rotate_left
     ·simp only [Act.put, List.setIfInBounds_toArray, List.set_cons_zero, List.set_cons_succ, i64_w, i32_w]
      rfl
     refine take_ (i := 1) (N := some 29) (v := ?_) (a' := ?_) #[true, true, false, false, false] rfl rfl (by kernel_rfl) (fun _ _ _ h => h) (Or.inl ⟨by rfl, ?_⟩) hHeld ?_ ?_
     rotate_left
     ·rintro w' ⟨s0, s1, s2, s3⟩
      go_simp
      with_reducible rfl
     rotate_left
     ·simp only [Act.put, List.setIfInBounds_toArray, List.set_cons_zero, List.set_cons_succ, i64_w, i32_w]
      rfl
     refine one_ (i := 2) (N := some 30) #[true, true, true, false, false] rfl rfl (by kernel_rfl) (by decide) (fun K hK => ?_)
     refine goes_ Try.func26 (by kernel_rfl) rfl #[.agg #[.int .i64 a0_0, .slice A0_1 l0_1.length c0_1]] (by rfl) rfl rfl ls_ ?_
     with_reducible refine (laws_toCells.calls k a0_0 _ _ l0_1 t359 t360 _ ?side1 ?side2 A17.out).mono ?_
     (case side1 => exact cb_ HR0_1.out)
     (case side2 => exact HC0_1.out)
     rintro e w67 ⟨v361, rfl, ho0, hb⟩
     refine ⟨_, rfl, ?_⟩
     have n0_ := Aside0.mk (Kd.R_elder' (ra_ HO347.out) (Kd.R_base ho0) hb)
     have n1_ := Aside0.mk (Kd.R_elder' (ra_ HO354.out) (Kd.R_base ho0) hb)
     have n2_ := Aside0.mk (Kd.R_lower (Kd.R_new' (Kd.R_new' ho0 (Kd.R_lt (ra_ HO347.out))) (Kd.R_lt (ra_ HO354.out))) (below_size hb_))
     have n3_ := bb_ BK341 hb
     have n4_ := bb_ BK342 hb
     have n5_ := bb_ BK355 hb
     have n6_ := Aside0.mk (below_step hb_ hb)
     clear HO347
     clear HO354
     clear BK341
     clear BK342
     clear BK355
     clear HB
     have HO347 := n0_
     have HO354 := n1_
     have HO362 := n2_
     have BK341 := n3_
     have BK342 := n4_
     have BK355 := n5_
     have HB := n6_
     clear n0_ n1_ n2_ n3_ n4_ n5_ n6_
     (try clear hb)
     (try clear hb2)
     (try clear hk)
     (try clear hi)
     (try clear ho0)
     obtain ⟨Ao68, co68, eo68⟩ := Kd.R_slice HO362.out
     (first | subst eo68 | (injection eo68 with f1_ f2_ f3_; have f4_ := f1_.symm; have f5_ := f3_.symm; clear f1_ f2_ f3_; subst f4_; subst f5_))
     refine hK.out _ _ ⟨(blk_cell BK355.out 0).trans rfl, (blk_cell BK355.out 1).trans rfl, (blk_cell BK341.out 0).trans rfl, (blk_cell BK341.out 1).trans rfl⟩ (fun hHeld => ?_)
     clear hK K
     refine norm_ (a' := ?_) ?_ ?_
     rotate_left
     ·show Act.put _ (some 30) _ = _
      simp only [Act.put, List.setIfInBounds_toArray, List.set_cons_zero, List.set_cons_succ, i64_w, i32_w]
      rfl
     refine one_ (i := 3) (N := some 31) #[true, true, true, true, false] rfl rfl (by kernel_rfl) (by decide) (fun K hK => ?_)
     refine goes_ Try.func29 (by kernel_rfl) rfl #[.agg #[.int .i64 t351, .slice Ao61 t352.length co61], .agg #[.int .i64 t359, .slice Ao68 t360.length co68]] (by rfl) rfl rfl ls_ ?_
     with_reducible refine (laws_eqCells.calls k t351 _ _ t352 t359 _ _ t360 false _ ?side1 ?side2 ?side3 ?side4 A18.out).mono ?_
     (case side1 => exact ca_ (Kd.R_reads' HO354.out).2.2)
     (case side2 => exact (Kd.R_reads' HO354.out).2.1)
     (case side3 => exact ca_ (Kd.R_reads' HO362.out).2.2)
     (case side4 => exact (Kd.R_reads' HO362.out).2.1)
     rintro e w69 ⟨rfl, hb⟩
     refine ⟨_, rfl, ?_⟩
     have n0_ := Aside0.mk (Kd.R_below (ra_ HO347.out) hb)
     have n1_ := Aside0.mk (Kd.R_below (ra_ HO354.out) hb)
     have n2_ := Aside0.mk (Kd.R_below (ra_ HO362.out) hb)
     have n3_ := bb_ BK341 hb
     have n4_ := bb_ BK342 hb
     have n5_ := bb_ BK355 hb
     have n6_ := Aside0.mk (below_step hb_ hb)
     clear HO347
     clear HO354
     clear HO362
     clear BK341
     clear BK342
     clear BK355
     clear HB
     have HO347 := n0_
     have HO354 := n1_
     have HO362 := n2_
     have BK341 := n3_
     have BK342 := n4_
     have BK355 := n5_
     have HB := n6_
     clear n0_ n1_ n2_ n3_ n4_ n5_ n6_
     (try clear hb)
     (try clear hb2)
     (try clear hk)
     (try clear hi)
     refine hK.out _ _ ⟨(blk_cell BK355.out 0).trans rfl, (blk_cell BK355.out 1).trans rfl, (blk_cell BK341.out 0).trans rfl, (blk_cell BK341.out 1).trans rfl⟩ (fun hHeld => ?_)
     clear hK K
     refine norm_ (a' := ?_) ?_ ?_
     rotate_left
     ·show Act.put _ (some 31) _ = _
      simp only [Act.put, List.setIfInBounds_toArray, List.set_cons_zero, List.set_cons_succ, i64_w, i32_w]
      rfl
     refine pure_ (i := 4) (N := some 32) (v := ?_) (a' := ?_) #[true, true, true, true, true] rfl rfl (by kernel_rfl) (fun _ _ _ h => h) (Or.inl ⟨by rfl, ?_⟩) ?_ ?_
     rotate_left
     ·intro w'
      go_simp
      with_reducible rfl
     rotate_left
     ·simp only [Act.put, List.setIfInBounds_toArray, List.set_cons_zero, List.set_cons_succ, i64_w, i32_w]
      rfl
     refine done_ (by kernel_rfl) ?_
     try go_wp2
     go_ret
     exact ⟨er_, hb_⟩
   ·rw [if_neg c16] at H
    have c16b0 : (t358 == t350) = false := beq_eq_false_iff_ne.mpr c16
    have c16b1 : (t358 != t350) = true := bne_iff_ne.mpr c16
    obtain rfl := Option.some.inj H
    go_enter Try.func6, Try.ntmps6
    try go_wp2_with (first | ((with_reducible refine gate_dst (N := 2) rfl ?_); refine box_event ?hg (N := 2) ?hd (cs := #[.int .i64 a0_0, .slice A0_1 l0_1.length c0_1]) (t := 34) ?hr ?_; (case hd => rfl); (case hg => rfl); (case hr => first | (go_simp; done) | (go_simp; rfl)); intro gb341 hg w70 hbox hb; have n0_ := Aside0.mk (below_step hb_ hb); have n1_ := Aside0.mk (hbox); have n2_ : Aside0 (w.heap.size ≤ gb341) := gz_; have n3_ : Aside0 (w.heap.size ≤ gb341) := gz_; clear HB; have HB := n0_; have BK341 := n1_; have GW341 := n2_; have GE341 := n3_; clear n0_ n1_ n2_ n3_; clear hb hbox hg) | ((with_reducible refine gate_dst (N := 3) rfl ?_); refine box_event ?hg (N := 3) ?hd (cs := #[.int .i64 a1_0, .int .i64 a1_1]) (t := 47) ?hr ?_; (case hd => rfl); (case hg => rfl); (case hr => first | (go_simp; done) | (go_simp; rfl)); intro gb342 hg w71 hbox hb; have n0_ := bb_ BK341 hb; have n1_ := Aside0.mk (below_step hb_ hb); have n2_ := Aside0.mk (hbox); have n3_ : Aside0 (w.heap.size ≤ gb342) := gz_; have n4_ : Aside0 (w.heap.size ≤ gb342) := gz_; have n5_ := Aside0.mk ((by rw [hg]; exact Nat.ne_of_lt (blk_lt (g := gb341) (o := .cells #[.int .i64 a0_0, .slice A0_1 l0_1.length c0_1] 34 (0, 0)) (bk_ BK341.out)) : gb341 ≠ gb342)); have n6_ := Aside0.mk ((by rw [hg]; exact Nat.ne_of_gt (blk_lt (g := gb341) (o := .cells #[.int .i64 a0_0, .slice A0_1 l0_1.length c0_1] 34 (0, 0)) (bk_ BK341.out)) : gb342 ≠ gb341)); clear BK341; clear HB; have BK341 := n0_; have HB := n1_; have BK342 := n2_; have GW342 := n3_; have GE342 := n4_; have NB341_342 := n5_; have NB342_341 := n6_; clear n0_ n1_ n2_ n3_ n4_ n5_ n6_; clear hb hbox hg; have hnb72 := NB341_342.out; have hnc72 := NB342_341.out; have hcz73_0 : w71.cell? ⟨gb341, 0, none⟩ = some (.int .i64 a0_0) := (blk_cell BK341.out 0).trans rfl; have hcz73_1 : w71.cell? ⟨gb341, 1, none⟩ = some (.slice A0_1 l0_1.length c0_1) := (blk_cell BK341.out 1).trans rfl; have hfz73_0 := blk_frozen BK341.out 0; have hfz73_1 := blk_frozen BK341.out 1) | ((with_reducible refine gate_callee (f := 23) rfl ?_); refine goesL_ (some 11) rfl rfl Try.func23 (by kernel_rfl) rfl #[.agg #[.int .i64 a0_0, .slice A0_1 l0_1.length c0_1], .int .i64 1048576] rfl ls_ ?_; (with_reducible refine (laws_szCells.calls a0_0 _ _ l0_1 1048576 t343 _ ?side1 ?side2 A3.out).mono ?_); (case side1 => exact cb_ HR0_1.out); (case side2 => exact HC0_1.out); rintro e w74 ⟨rfl, hb⟩; refine ⟨_, rfl, ?_⟩; have n0_ := bb_ BK341 hb; have n1_ := bb_ BK342 hb; have n2_ := Aside0.mk (below_step hb_ hb); clear BK341; clear BK342; clear HB; have BK341 := n0_; have BK342 := n1_; have HB := n2_; clear n0_ n1_ n2_; (try clear hb); (try clear hb2); (try clear hk); (try clear hi)))
    have n0_ := Aside0.mk (blk_drew BK341.out)
    have n1_ := Aside0.mk (blk_drew BK342.out)
    have n2_ := Aside0.mk (below_drew1 HB.out)
    clear BK341
    clear BK342
    clear HB
    have BK341 := n0_
    have BK342 := n1_
    have HB := n2_
    clear n0_ n1_ n2_
    refine start_ (n := 6) (S := fun w' => w'.cell? ⟨gb341, 0, none⟩ = some (.int .i64 a0_0) ∧ w'.cell? ⟨gb341, 1, none⟩ = some (.slice A0_1 l0_1.length c0_1) ∧ w'.cell? ⟨gb342, 0, none⟩ = some (.int .i64 a1_0) ∧ w'.cell? ⟨gb342, 1, none⟩ = some (.int .i64 a1_1)) (ds := []) #[false, false, false, false, false, false] (by kernel_rfl) rfl rfl ⟨(blk_cell BK341.out 0).trans rfl, (blk_cell BK341.out 1).trans rfl, (blk_cell BK342.out 0).trans rfl, (blk_cell BK342.out 1).trans rfl⟩ (fun hHeld => ?_)
    generalize w74.drew = w75 at BK341 BK342 HB hHeld ⊢
    refine take_ (i := 0) (N := some 14) (v := ?_) (a' := ?_) #[true, false, false, false, false, false] rfl rfl (by kernel_rfl) (fun _ _ _ h => h) (Or.inl ⟨by rfl, ?_⟩) hHeld ?_ ?_
    rotate_left
    ·rintro w' ⟨s0, s1, s2, s3⟩
     go_simp
     with_reducible rfl
    rotate_left
    ·simp only [Act.put, List.setIfInBounds_toArray, List.set_cons_zero, List.set_cons_succ, i64_w, i32_w]
     rfl
    refine take_ (i := 2) (N := some 16) (v := ?_) (a' := ?_) #[true, false, true, false, false, false] rfl rfl (by kernel_rfl) (fun _ _ _ h => h) (Or.inl ⟨by rfl, ?_⟩) hHeld ?_ ?_
    rotate_left
    ·rintro w' ⟨s0, s1, s2, s3⟩
     go_simp
     with_reducible rfl
    rotate_left
    ·simp only [Act.put, List.setIfInBounds_toArray, List.set_cons_zero, List.set_cons_succ, i64_w, i32_w]
     rfl
    refine one_ (i := 1) (N := some 15) #[true, true, true, false, false, false] rfl rfl (by kernel_rfl) (by decide) (fun K hK => ?_)
    refine goes_ Try.func26 (by kernel_rfl) rfl #[.agg #[.int .i64 a0_0, .slice A0_1 l0_1.length c0_1]] (by rfl) rfl rfl ls_ ?_
    with_reducible refine (laws_toCells.calls k a0_0 _ _ l0_1 t344 t345 _ ?side1 ?side2 A10.out).mono ?_
    (case side1 => exact cb_ HR0_1.out)
    (case side2 => exact HC0_1.out)
    rintro e w76 ⟨v346, rfl, ho0, hb⟩
    refine ⟨_, rfl, ?_⟩
    have n0_ := Aside0.mk (Kd.R_lower ho0 (below_size hb_))
    have n1_ := bb_ BK341 hb
    have n2_ := bb_ BK342 hb
    have n3_ := Aside0.mk (below_step hb_ hb)
    clear BK341
    clear BK342
    clear HB
    have HO347 := n0_
    have BK341 := n1_
    have BK342 := n2_
    have HB := n3_
    clear n0_ n1_ n2_ n3_
    (try clear hb)
    (try clear hb2)
    (try clear hk)
    (try clear hi)
    (try clear ho0)
    refine hK.out _ _ ⟨(blk_cell BK341.out 0).trans rfl, (blk_cell BK341.out 1).trans rfl, (blk_cell BK342.out 0).trans rfl, (blk_cell BK342.out 1).trans rfl⟩ (fun hHeld => ?_)
    clear hK K
    refine norm_ (a' := ?_) ?_ ?_
    rotate_left
    ·show Act.put _ (some 15) _ = _
     simp only [Act.put, List.setIfInBounds_toArray, List.set_cons_zero, List.set_cons_succ, i64_w, i32_w]
     rfl
    refine one_ (i := 3) (N := some 17) #[true, true, true, true, false, false] rfl rfl (by kernel_rfl) (by decide) (fun K hK => ?_)
    refine goes_ Try.func32 (by kernel_rfl) rfl #[.agg #[.int .i64 a1_0, .int .i64 a1_1]] (by rfl) rfl rfl ls_ ?_
    with_reducible refine (laws_toTrip.calls a1_0 a1_1 t348 t349 _ A11.out).mono ?_
    rintro e w77 ⟨rfl, hb⟩
    refine ⟨_, rfl, ?_⟩
    have n0_ := Aside0.mk (Kd.R_below (ra_ HO347.out) hb)
    have n1_ := bb_ BK341 hb
    have n2_ := bb_ BK342 hb
    have n3_ := Aside0.mk (below_step hb_ hb)
    clear HO347
    clear BK341
    clear BK342
    clear HB
    have HO347 := n0_
    have BK341 := n1_
    have BK342 := n2_
    have HB := n3_
    clear n0_ n1_ n2_ n3_
    (try clear hb)
    (try clear hb2)
    (try clear hk)
    (try clear hi)
    obtain ⟨Ao78, co78, eo78⟩ := Kd.R_slice HO347.out
    (first | subst eo78 | (injection eo78 with f1_ f2_ f3_; have f4_ := f1_.symm; have f5_ := f3_.symm; clear f1_ f2_ f3_; subst f4_; subst f5_))
    refine hK.out _ _ ⟨(blk_cell BK341.out 0).trans rfl, (blk_cell BK341.out 1).trans rfl, (blk_cell BK342.out 0).trans rfl, (blk_cell BK342.out 1).trans rfl⟩ (fun hHeld => ?_)
    clear hK K
    refine norm_ (a' := ?_) ?_ ?_
    rotate_left
    ·show Act.put _ (some 17) _ = _
     simp only [Act.put, List.setIfInBounds_toArray, List.set_cons_zero, List.set_cons_succ, i64_w, i32_w]
     rfl
    refine one_ (i := 4) (N := some 18) #[true, true, true, true, true, false] rfl rfl (by kernel_rfl) (by decide) (fun K hK => ?_)
    refine goes_ Try.func31 (by kernel_rfl) rfl #[.agg #[.int .i64 t344, .slice Ao78 t345.length co78], .agg #[.int .i64 t348, .int .i64 t349]] (by rfl) rfl rfl ls_ ?_
    with_reducible refine (spec_AloneTicks.calls k t344 _ _ t345 t348 t349 t350 _ ?side1 ?side2 A12.out).mono ?_
    (case side1 => exact ca_ (Kd.R_reads' HO347.out).2.2)
    (case side2 => exact (Kd.R_reads' HO347.out).2.1)
    rintro e w79 ⟨rfl, hb⟩
    refine ⟨_, rfl, ?_⟩
    have n0_ := Aside0.mk (Kd.R_below (ra_ HO347.out) hb)
    have n1_ := bb_ BK341 hb
    have n2_ := bb_ BK342 hb
    have n3_ := Aside0.mk (below_step hb_ hb)
    clear HO347
    clear BK341
    clear BK342
    clear HB
    have HO347 := n0_
    have BK341 := n1_
    have BK342 := n2_
    have HB := n3_
    clear n0_ n1_ n2_ n3_
    (try clear hb)
    (try clear hb2)
    (try clear hk)
    (try clear hi)
    refine hK.out _ _ ⟨(blk_cell BK341.out 0).trans rfl, (blk_cell BK341.out 1).trans rfl, (blk_cell BK342.out 0).trans rfl, (blk_cell BK342.out 1).trans rfl⟩ (fun hHeld => ?_)
    clear hK K
    refine norm_ (a' := ?_) ?_ ?_
    rotate_left
    ·show Act.put _ (some 18) _ = _
     simp only [Act.put, List.setIfInBounds_toArray, List.set_cons_zero, List.set_cons_succ, i64_w, i32_w]
     rfl
    refine pure_ (i := 5) (N := some 6) (v := ?_) (a' := ?_) #[true, true, true, true, true, true] rfl rfl (by kernel_rfl) (fun _ _ _ h => h) (Or.inl ⟨by rfl, ?_⟩) ?_ ?_
    rotate_left
    ·intro w'
     go_simp
     with_reducible rfl
    rotate_left
    ·simp only [Act.put, List.setIfInBounds_toArray, List.set_cons_zero, List.set_cons_succ, i64_w, i32_w]
     rfl
    refine done_ (by kernel_rfl) ?_
    have hcz80_0 : w79.cell? ⟨gb341, 0, none⟩ = some (.int .i64 a0_0) := (blk_cell BK341.out 0).trans rfl
    have hcz80_1 : w79.cell? ⟨gb341, 1, none⟩ = some (.slice A0_1 l0_1.length c0_1) := (blk_cell BK341.out 1).trans rfl
    have hfz80_0 := blk_frozen BK341.out 0
    have hfz80_1 := blk_frozen BK341.out 1
    try go_wp2_with (first | ((with_reducible refine gate_callee (f := 26) rfl ?_); refine goesL_ (some 20) rfl rfl Try.func26 (by kernel_rfl) rfl #[.agg #[.int .i64 a0_0, .slice A0_1 l0_1.length c0_1]] rfl ls_ ?_; (with_reducible refine (laws_toCells.calls k a0_0 _ _ l0_1 t351 t352 _ ?side1 ?side2 A13.out).mono ?_); (case side1 => exact cb_ HR0_1.out); (case side2 => exact HC0_1.out); rintro e w81 ⟨v353, rfl, ho0, hb⟩; refine ⟨_, rfl, ?_⟩; have n0_ := Aside0.mk (Kd.R_elder' (ra_ HO347.out) (Kd.R_base ho0) hb); have n1_ := Aside0.mk (Kd.R_lower (Kd.R_new' ho0 (Kd.R_lt (ra_ HO347.out))) (below_size hb_)); have n2_ := bb_ BK341 hb; have n3_ := bb_ BK342 hb; have n4_ := Aside0.mk (below_step hb_ hb); clear HO347; clear BK341; clear BK342; clear HB; have HO347 := n0_; have HO354 := n1_; have BK341 := n2_; have BK342 := n3_; have HB := n4_; clear n0_ n1_ n2_ n3_ n4_; (try clear hb); (try clear hb2); (try clear hk); (try clear hi); (try clear ho0)) | ((with_reducible refine gate_dst (N := 7) rfl ?_); refine box_event ?hg (N := 7) ?hd (cs := #[.int .i64 0, .slice none 0 0]) (t := 39) ?hr ?_; (case hd => rfl); (case hg => rfl); (case hr => first | (go_simp; done) | (go_simp; rfl)); intro gb355 hg w82 hbox hb; have n0_ := Aside0.mk (Kd.R_below (ra_ HO347.out) hb); have n1_ := Aside0.mk (Kd.R_below (ra_ HO354.out) hb); have n2_ := bb_ BK341 hb; have n3_ := bb_ BK342 hb; have n4_ := Aside0.mk (below_step hb_ hb); have n5_ := Aside0.mk (hbox); have n6_ : Aside0 (w.heap.size ≤ gb355) := gz_; have n7_ : Aside0 (w.heap.size ≤ gb355) := gz_; have n8_ := Aside0.mk ((by rw [hg]; exact Nat.ne_of_lt (blk_lt (g := gb341) (o := .cells #[.int .i64 a0_0, .slice A0_1 l0_1.length c0_1] 34 (0, 0)) (bk_ BK341.out)) : gb341 ≠ gb355)); have n9_ := Aside0.mk ((by rw [hg]; exact Nat.ne_of_gt (blk_lt (g := gb341) (o := .cells #[.int .i64 a0_0, .slice A0_1 l0_1.length c0_1] 34 (0, 0)) (bk_ BK341.out)) : gb355 ≠ gb341)); have n10_ := Aside0.mk ((by rw [hg]; exact Nat.ne_of_lt (blk_lt (g := gb342) (o := .cells #[.int .i64 a1_0, .int .i64 a1_1] 47 (0, 0)) (bk_ BK342.out)) : gb342 ≠ gb355)); have n11_ := Aside0.mk ((by rw [hg]; exact Nat.ne_of_gt (blk_lt (g := gb342) (o := .cells #[.int .i64 a1_0, .int .i64 a1_1] 47 (0, 0)) (bk_ BK342.out)) : gb355 ≠ gb342)); clear HO347; clear HO354; clear BK341; clear BK342; clear HB; have HO347 := n0_; have HO354 := n1_; have BK341 := n2_; have BK342 := n3_; have HB := n4_; have BK355 := n5_; have GW355 := n6_; have GE355 := n7_; have NB341_355 := n8_; have NB355_341 := n9_; have NB342_355 := n10_; have NB355_342 := n11_; clear n0_ n1_ n2_ n3_ n4_ n5_ n6_ n7_ n8_ n9_ n10_ n11_; clear hb hbox hg; have hnb83 := NB355_341.out; have hnc83 := NB341_355.out; have hnb84 := NB355_342.out; have hnc84 := NB342_355.out; have hcz85_0 : w82.cell? ⟨gb355, 0, none⟩ = some (.int .i64 0) := (blk_cell BK355.out 0).trans rfl; have hcz85_1 : w82.cell? ⟨gb355, 1, none⟩ = some (.slice none 0 0) := (blk_cell BK355.out 1).trans rfl; have hfz85_0 := blk_frozen BK355.out 0; have hfz85_1 := blk_frozen BK355.out 1; obtain ⟨Ao86, co86, eo86⟩ := Kd.R_slice HO354.out; subst eo86))
    have n0_ : Aside0 (Kd.R (Kd.int .i64) 3 ((w82.setCell ⟨gb355, 0, none⟩ (.int .i64 t351)).setCell ⟨gb355, 1, none⟩ (.slice Ao86 t352.length co86)) w.heap.size (fun k_ => some k_ ≠ (.slice Ao86 t352.length co86 : Value).ownBlock) (.slice Ao78 t345.length co78) t345) := ⟨by (with_reducible repeat (first | apply Kd.R_alloc | apply Kd.R_drewN | apply Kd.R_drew)); exact Kd.R_mono (Kd.R_far (p := ⟨gb355, 1, none⟩) (Kd.R_far (p := ⟨gb355, 0, none⟩) (Kd.R_types HO347.out BK355.out (by decide)) (fun _ hk => hk.2) (.int .i64 t351)) (fun _ hk => hk.2) (.slice Ao86 t352.length co86)) (fun _ hk => hk.1.2)⟩
    have n1_ : Aside0 (Kd.R (Kd.int .i64) 3 ((w82.setCell ⟨gb355, 0, none⟩ (.int .i64 t351)).setCell ⟨gb355, 1, none⟩ (.slice Ao86 t352.length co86)) w.heap.size (fun k_ => some k_ ≠ (.slice Ao78 t345.length co78 : Value).ownBlock) (.slice Ao86 t352.length co86) t352) := ⟨by (with_reducible repeat (first | apply Kd.R_alloc | apply Kd.R_drewN | apply Kd.R_drew)); exact Kd.R_mono (Kd.R_far (p := ⟨gb355, 1, none⟩) (Kd.R_far (p := ⟨gb355, 0, none⟩) (Kd.R_types HO354.out BK355.out (by decide)) (fun _ hk => hk.2) (.int .i64 t351)) (fun _ hk => hk.2) (.slice Ao86 t352.length co86)) (fun _ hk => hk.1.2)⟩
    have n2_ : Aside0 (((w82.setCell ⟨gb355, 0, none⟩ (.int .i64 t351)).setCell ⟨gb355, 1, none⟩ (.slice Ao86 t352.length co86)).heap[gb341]? = some (.cells #[.int .i64 a0_0, .slice A0_1 l0_1.length c0_1] 34 (0, 0))) := ⟨by (with_reducible repeat (first | refine blk_drewN ?_ _ | refine blk_drew ?_ | refine blk_alloc ?_ _)); refine blk_far ?_ NB341_355.out _; (with_reducible repeat (first | refine blk_drewN ?_ _ | refine blk_drew ?_ | refine blk_alloc ?_ _)); refine blk_far ?_ NB341_355.out _; (with_reducible repeat (first | refine blk_drewN ?_ _ | refine blk_drew ?_ | refine blk_alloc ?_ _)); exact BK341.out⟩
    have n3_ : Aside0 (((w82.setCell ⟨gb355, 0, none⟩ (.int .i64 t351)).setCell ⟨gb355, 1, none⟩ (.slice Ao86 t352.length co86)).heap[gb342]? = some (.cells #[.int .i64 a1_0, .int .i64 a1_1] 47 (0, 0))) := ⟨by (with_reducible repeat (first | refine blk_drewN ?_ _ | refine blk_drew ?_ | refine blk_alloc ?_ _)); refine blk_far ?_ NB342_355.out _; (with_reducible repeat (first | refine blk_drewN ?_ _ | refine blk_drew ?_ | refine blk_alloc ?_ _)); refine blk_far ?_ NB342_355.out _; (with_reducible repeat (first | refine blk_drewN ?_ _ | refine blk_drew ?_ | refine blk_alloc ?_ _)); exact BK342.out⟩
    have n4_ : Aside0 (((w82.setCell ⟨gb355, 0, none⟩ (.int .i64 t351)).setCell ⟨gb355, 1, none⟩ (.slice Ao86 t352.length co86)).heap[gb355]? = some (.cells #[.int .i64 t351, .slice Ao86 t352.length co86] 39 (0, 0))) := ⟨by (with_reducible repeat (first | refine blk_drewN ?_ _ | refine blk_drew ?_ | refine blk_alloc ?_ _)); refine blk_put (cs := #[.int .i64 t351, .slice none 0 0]) ?_ 1 _ rfl; (with_reducible repeat (first | refine blk_drewN ?_ _ | refine blk_drew ?_ | refine blk_alloc ?_ _)); refine blk_put (cs := #[.int .i64 0, .slice none 0 0]) ?_ 0 _ rfl; (with_reducible repeat (first | refine blk_drewN ?_ _ | refine blk_drew ?_ | refine blk_alloc ?_ _)); exact BK355.out⟩
    have n5_ : Aside0 (Below w.heap.size w ((w82.setCell ⟨gb355, 0, none⟩ (.int .i64 t351)).setCell ⟨gb355, 1, none⟩ (.slice Ao86 t352.length co86))) := ⟨hb_⟩
    (try clear HO347)
    (try clear HO354)
    (try clear BK341)
    (try clear BK342)
    (try clear BK355)
    (try clear HB)
    generalize ((w82.setCell ⟨gb355, 0, none⟩ (.int .i64 t351)).setCell ⟨gb355, 1, none⟩ (.slice Ao86 t352.length co86)) = w87 at n0_ n1_ n2_ n3_ n4_ n5_ ⊢
    have HO347 := n0_
    have HO354 := n1_
    have BK341 := n2_
    have BK342 := n3_
    have BK355 := n4_
    have HB := n5_
    clear n0_ n1_ n2_ n3_ n4_ n5_
    have n0_ := Aside0.mk (Kd.R_drew HO347.out)
    have n1_ := Aside0.mk (Kd.R_drew HO354.out)
    have n2_ := Aside0.mk (blk_drew BK341.out)
    have n3_ := Aside0.mk (blk_drew BK342.out)
    have n4_ := Aside0.mk (blk_drew BK355.out)
    have n5_ := Aside0.mk (below_drew1 HB.out)
    clear HO347
    clear HO354
    clear BK341
    clear BK342
    clear BK355
    clear HB
    have HO347 := n0_
    have HO354 := n1_
    have BK341 := n2_
    have BK342 := n3_
    have BK355 := n4_
    have HB := n5_
    clear n0_ n1_ n2_ n3_ n4_ n5_
    refine start_ (n := 5) (S := fun w' => w'.cell? ⟨gb355, 0, none⟩ = some (.int .i64 t351) ∧ w'.cell? ⟨gb355, 1, none⟩ = some (.slice Ao86 t352.length co86) ∧ w'.cell? ⟨gb342, 0, none⟩ = some (.int .i64 a1_0) ∧ w'.cell? ⟨gb342, 1, none⟩ = some (.int .i64 a1_1)) (ds := []) #[false, false, false, false, false] (by kernel_rfl) rfl rfl ⟨(blk_cell BK355.out 0).trans rfl, (blk_cell BK355.out 1).trans rfl, (blk_cell BK342.out 0).trans rfl, (blk_cell BK342.out 1).trans rfl⟩ (fun hHeld => ?_)
    generalize w87.drew = w88 at HO347 HO354 BK341 BK342 BK355 HB hHeld ⊢
    refine take_ (i := 0) (N := some 21) (v := ?_) (a' := ?_) #[true, false, false, false, false] rfl rfl (by kernel_rfl) (fun _ _ _ h => h) (Or.inl ⟨by rfl, ?_⟩) hHeld ?_ ?_
    rotate_left
    ·rintro w' ⟨s0, s1, s2, s3⟩
     go_simp
     with_reducible rfl
    rotate_left
    ·simp only [Act.put, List.setIfInBounds_toArray, List.set_cons_zero, List.set_cons_succ, i64_w, i32_w]
     rfl
    refine take_ (i := 1) (N := some 22) (v := ?_) (a' := ?_) #[true, true, false, false, false] rfl rfl (by kernel_rfl) (fun _ _ _ h => h) (Or.inl ⟨by rfl, ?_⟩) hHeld ?_ ?_
    rotate_left
    ·rintro w' ⟨s0, s1, s2, s3⟩
     go_simp
     with_reducible rfl
    rotate_left
    ·simp only [Act.put, List.setIfInBounds_toArray, List.set_cons_zero, List.set_cons_succ, i64_w, i32_w]
     rfl
    refine one_ (i := 2) (N := some 23) #[true, true, true, false, false] rfl rfl (by kernel_rfl) (by decide) (fun K hK => ?_)
    refine goes_ Try.func32 (by kernel_rfl) rfl #[.agg #[.int .i64 a1_0, .int .i64 a1_1]] (by rfl) rfl rfl ls_ ?_
    with_reducible refine (laws_toTrip.calls a1_0 a1_1 t356 t357 _ A14.out).mono ?_
    rintro e w89 ⟨rfl, hb⟩
    refine ⟨_, rfl, ?_⟩
    have n0_ := Aside0.mk (Kd.R_below (ra_ HO347.out) hb)
    have n1_ := Aside0.mk (Kd.R_below (ra_ HO354.out) hb)
    have n2_ := bb_ BK341 hb
    have n3_ := bb_ BK342 hb
    have n4_ := bb_ BK355 hb
    have n5_ := Aside0.mk (below_step hb_ hb)
    clear HO347
    clear HO354
    clear BK341
    clear BK342
    clear BK355
    clear HB
    have HO347 := n0_
    have HO354 := n1_
    have BK341 := n2_
    have BK342 := n3_
    have BK355 := n4_
    have HB := n5_
    clear n0_ n1_ n2_ n3_ n4_ n5_
    (try clear hb)
    (try clear hb2)
    (try clear hk)
    (try clear hi)
    refine hK.out _ _ ⟨(blk_cell BK355.out 0).trans rfl, (blk_cell BK355.out 1).trans rfl, (blk_cell BK342.out 0).trans rfl, (blk_cell BK342.out 1).trans rfl⟩ (fun hHeld => ?_)
    clear hK K
    refine norm_ (a' := ?_) ?_ ?_
    rotate_left
    ·show Act.put _ (some 23) _ = _
     simp only [Act.put, List.setIfInBounds_toArray, List.set_cons_zero, List.set_cons_succ, i64_w, i32_w]
     rfl
    refine one_ (i := 3) (N := some 24) #[true, true, true, true, false] rfl rfl (by kernel_rfl) (by decide) (fun K hK => ?_)
    refine goes_ Try.func33 (by kernel_rfl) rfl #[.agg #[.int .i64 t351, .slice Ao86 t352.length co86], .agg #[.int .i64 t356, .int .i64 t357]] (by rfl) rfl rfl ls_ ?_
    with_reducible refine (impl_AloneTicks.calls t351 _ _ t352 t356 t357 t358 _ ?side1 ?side2 A15.out).mono ?_
    (case side1 => exact ca_ (Kd.R_reads' HO354.out).2.2)
    (case side2 => exact (Kd.R_reads' HO354.out).2.1)
    rintro e w90 ⟨rfl, hb⟩
    refine ⟨_, rfl, ?_⟩
    have n0_ := Aside0.mk (Kd.R_below (ra_ HO347.out) hb)
    have n1_ := Aside0.mk (Kd.R_below (ra_ HO354.out) hb)
    have n2_ := bb_ BK341 hb
    have n3_ := bb_ BK342 hb
    have n4_ := bb_ BK355 hb
    have n5_ := Aside0.mk (below_step hb_ hb)
    clear HO347
    clear HO354
    clear BK341
    clear BK342
    clear BK355
    clear HB
    have HO347 := n0_
    have HO354 := n1_
    have BK341 := n2_
    have BK342 := n3_
    have BK355 := n4_
    have HB := n5_
    clear n0_ n1_ n2_ n3_ n4_ n5_
    (try clear hb)
    (try clear hb2)
    (try clear hk)
    (try clear hi)
    refine hK.out _ _ ⟨(blk_cell BK355.out 0).trans rfl, (blk_cell BK355.out 1).trans rfl, (blk_cell BK342.out 0).trans rfl, (blk_cell BK342.out 1).trans rfl⟩ (fun hHeld => ?_)
    clear hK K
    refine norm_ (a' := ?_) ?_ ?_
    rotate_left
    ·show Act.put _ (some 24) _ = _
     simp only [Act.put, List.setIfInBounds_toArray, List.set_cons_zero, List.set_cons_succ, i64_w, i32_w]
     rfl
    refine pure_ (i := 4) (N := some 8) (v := ?_) (a' := ?_) #[true, true, true, true, true] rfl rfl (by kernel_rfl) (fun _ _ _ h => h) (Or.inl ⟨by rfl, ?_⟩) ?_ ?_
    rotate_left
    ·intro w'
     go_simp
     with_reducible rfl
    rotate_left
    ·simp only [Act.put, List.setIfInBounds_toArray, List.set_cons_zero, List.set_cons_succ, i64_w, i32_w]
     rfl
    refine done_ (by kernel_rfl) ?_
    try go_wp2
    go_ret
    exact ⟨er_, hb_⟩

end Go.Proofs.Ytcldlljnaijmhaa.Pr
/- THE LAW FnExactAloneTicks, as a statement over numbers and lists: for all cells and trips the program and the reference answer the same. No condition. -/
namespace Go.Proofs.Ytcldlljnaijmhaa.Pure
open Go.RowKit Go.Proofs.YtcldlljnaijmhaaW.PrintWords Go.Proofs.YtcldlljnaijmhaaW.PrintLast Go.Proofs.Ytcldlljnaijmhaa.Pr Go.Proofs.Ytcldlljnaijmhaa.EvKit

theorem FnExactAloneTicks : ∀ (a0_0 : Int) (l0_1 : List Int) (a1_0 : Int) (a1_1 : Int), ((Lit.int .i64 a0_0).wf = true ∧ (l0_1.length ≤ maxLen ∧ l0_1.length * 8 ≤ 140737488351232 ∧ ∀ y0 ∈ l0_1, (Lit.int .i64 y0).wf = true)) → ((Lit.int .i64 a1_0).wf = true ∧ (Lit.int .i64 a1_1).wf = true) → ∃ k, laws_FnExactAloneTicks.f k a0_0 l0_1 a1_0 a1_1 = some true := by
  intro w c s t hc ht
  have h1 : c.length ≤ 9223372036854775807 := by have := hc.2.1; unfold maxLen at this; omega
  apply Ev.rounds
  simp only [laws_FnExactAloneTicks.f]
  obtain ⟨z, e1, e2⟩ := szCells_eq w c 1048576 h1 (by omega) (by omega)
  refine Ev.bnd0 e1 (Ev.ite (fun _ => Ev.some rfl) (fun h0 => ?_))
  obtain ⟨h3, h4⟩ := e2 h0
  have tc := toCells_ev w c (by omega)
  have hi : impl_AloneTicks.f w c s t = some (open Classical in if Gt w c [⟨s, t⟩] then (Mp.lk (Bfs.fin (Gos w c) s) t).getD (-1) else -1) := by
    unfold impl_AloneTicks.f
    rw [if_pos (by omega)]
  exact Ev.bnd tc (Ev.bnd0 rfl (Ev.bnd (alone_spec w c s t (by omega)) (Ev.bnd tc (Ev.bnd0 rfl (Ev.bnd0 hi (Ev.pos rfl (Ev.bnd tc (Ev.bnd (eqCells_ev w c (by omega)) (Ev.pos rfl (Ev.some rfl))))))))))

end Go.Proofs.Ytcldlljnaijmhaa.Pure
