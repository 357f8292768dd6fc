-- Written by this session's own print (wip/tools/mkmp.py) out of the translation. Lean checks it.
import Derived.Test.YtkhkgfihodljmaaPr0
import Derived.Test.YtkhkgfihodljmaaPr1
import Derived.Test.YtkhkgfihodljmaaPrd1
namespace Go.Proofs.Ytkhkgfihodljmaa.Pr
open Go.RowKit Go.Proofs.YtkhkgfihodljmaaW.PrintWords Go.Proofs.YtkhkgfihodljmaaW.PrintLast Go.Proofs.YtkhkgfihodljmaaW.PrintMore
attribute [local go_sem] max2_int min2_int max_two min_two max_three min_three max_four min_four   -- for this text's walks alone
set_option linter.unusedVariables false
set_option linter.unusedSimpArgs false

def spec_l1Cur_chart.T23 : Bool × List (List Nat × List Nat) := (true, [([], []), ([0], [0]), ([], []), ([], []), ([2, 3], [2, 3]), ([], []), ([5, 4], [5]), ([], []), ([], []), ([7, 8, 6], [7, 8]), ([4, 6, 9], [4, 6, 9]), ([10], [10]), ([1, 11, 9], [1, 11]), ([0, 1, 2, 3, 4, 5, 6, 7, 8, 9, 10, 11, 12], []), ([13, 12, 12, 0, 1, 2, 3, 4, 5, 6, 7, 8, 9, 10, 11, 12], [12, 13])])
def spec_l1Cur_chart.B23 : List Nat := [0, 1, 0, 0, 12, 0, 60, 0, 0, 508, 1020, 2044, 4095, 8191, 16383]
theorem spec_l1Cur_chart.tab23 : rtab .any (opsOf Try.f75 23) = spec_l1Cur_chart.T23 := by kernel_rfl
theorem spec_l1Cur_chart.bits23 : waitsOk spec_l1Cur_chart.T23.2 spec_l1Cur_chart.B23 = true := by kernel_rfl
def spec_l1Cur_chart.T26 : Bool × List (List Nat × List Nat) := (true, [([], []), ([0], [0]), ([], []), ([], []), ([2, 3], [2, 3]), ([], []), ([], []), ([5, 6, 4], [5, 6]), ([1, 4, 0, 1, 2, 3, 4, 5, 6, 7], [1, 4]), ([8, 0, 1, 2, 3, 4, 5, 6, 7], [8]), ([9, 7, 7, 0, 1, 2, 3, 4, 5, 6, 7], [7, 9])])
def spec_l1Cur_chart.B26 : List Nat := [0, 1, 0, 0, 12, 0, 0, 124, 255, 511, 1023]
theorem spec_l1Cur_chart.tab26 : rtab .any (opsOf Try.f75 26) = spec_l1Cur_chart.T26 := by kernel_rfl
theorem spec_l1Cur_chart.bits26 : waitsOk spec_l1Cur_chart.T26.2 spec_l1Cur_chart.B26 = true := by kernel_rfl
set_option maxHeartbeats 8000000 in
set_option maxRecDepth 100000 in
theorem spec_l1Cur_chart.calls (k : Nat) (g : Nat) (s0_0 : List Int) (s0_1 : Int) (s0_2 : Int) (r1 : List (S88)) (r2 : List (S90)) (r3 : Int) (r4 : Int) (w0 w : World) (hI : IsS78 w0 w g s0_0 s0_1 s0_2) (hB : Below w0.heap.size w0 w) (h : spec_l1Cur_chart.f k s0_0 s0_1 s0_2 = some (r1, r2, r3, r4)) :
   Calls Try.prog 75 #[.pointer (some ⟨g, 0, none⟩)] w fun e w' => ∃ v0_ v1_ : Value, e = .returned (.agg #[v0_, v1_]) ∧ Kd.R k88 88 w' w.heap.size (fun _ => True) v0_ r1 ∧ Kd.R k90 90 w' w.heap.size (fun _ => True) v1_ r2 ∧ IsS78 w0 w' g s0_0 r3 r4 ∧ Below w0.heap.size w0 w' ∧ KeepBut w w' g none := by
  have hu55 := Try.underlying55
  have hu88 := Try.underlying88
  have hu90 := Try.underlying90
  have HI0 := Aside0.mk hI
  have HK := Aside0.mk (KeepBut.refl w g none)
  have HL := Aside0.mk hB.size
  clear hI
  have HW0 := Aside0.mk hB.size
  have HB := Aside0.mk hB
  clear hB
  have H : ((spec_l1Cur_pick.f s0_0 s0_1 s0_2 8).bind fun bt441 => ((spec_l1Cur_one.f s0_0 bt441.2.1 bt441.2.2 16).bind fun bt444 => (if bt444.1 = true then ((spec_l1Cur_among.f s0_0 bt444.2.1 bt444.2.2 (([0, 12, 13] : List Int))).bind fun bt450 => (spec_l1Cur_chart.j0 k bt450.1 s0_0 bt450.2.1 bt450.2.2)) else (spec_l1Cur_chart.j0 k (wrap64 (1 + bt441.1)) s0_0 bt444.2.1 bt444.2.2)))) = some (r1, r2, r3, r4) := h
  clear h
  replace H := Option.bind_eq_some_iff.mp H
  obtain ⟨⟨t441, t442, t443⟩, A20, H⟩ := H
  replace H : ((spec_l1Cur_one.f s0_0 t442 t443 16).bind fun bt444 => (if bt444.1 = true then ((spec_l1Cur_among.f s0_0 bt444.2.1 bt444.2.2 (([0, 12, 13] : List Int))).bind fun bt450 => (spec_l1Cur_chart.j0 k bt450.1 s0_0 bt450.2.1 bt450.2.2)) else (spec_l1Cur_chart.j0 k (wrap64 (1 + t441)) s0_0 bt444.2.1 bt444.2.2))) = some (r1, r2, r3, r4) := H
  have A2 := Aside0.mk A20
  clear A20
  replace H := Option.bind_eq_some_iff.mp H
  obtain ⟨⟨t444, t445, t446⟩, A30, H⟩ := H
  replace H : (if t444 = true then ((spec_l1Cur_among.f s0_0 t445 t446 (([0, 12, 13] : List Int))).bind fun bt450 => (spec_l1Cur_chart.j0 k bt450.1 s0_0 bt450.2.1 bt450.2.2)) else (spec_l1Cur_chart.j0 k (wrap64 (1 + t441)) s0_0 t445 t446)) = some (r1, r2, r3, r4) := H
  have A3 := Aside0.mk A30
  clear A30
  have HC4 := Aside0.mk H
  clear H
  go_enter Try.func75, Try.ntmps75
  go_upto_if 15 with (first | ((with_reducible refine gate_dst (N := 2) rfl ?_); refine box_event ?hg (N := 2) ?hd (cs := #[.slice none 0 0, .slice none 0 0]) (t := 55) ?hr ?_; (case hd => rfl); (case hg => rfl); (case hr => first | (go_simp; done) | (go_simp; rfl)); intro gb439 hg w5 hbox hb; have n0_ := Aside0.mk (IsS78.below (by repeat (first | (with_reducible first | exact HI0.out | apply IsS78.alloc | apply IsS78.drewN | apply IsS78.drew | apply IsS78.set_1 | apply IsS78.set_2) | exact HI0.out)) hb); have n1_ := Aside0.mk (KeepBut.trans (by repeat (first | (with_reducible first | exact HK.out | apply KeepBut.set_ | apply keep_drewN | apply keep_drew | apply keep_alloc) | exact HK.out)) (KeepBut.of_below hb g none) (.inl rfl)); have n2_ := Aside0.mk (below_step (by repeat (first | (with_reducible first | exact HB.out | apply below_alloc | apply pw_below_drewN | apply below_drew1 | refine below_set ?_ (IsS78.ge HI0.out)) | exact HB.out)) hb); have n3_ := Aside0.mk (hbox); have n4_ := Aside0.mk ((by rw [hg]; exact (keep_size (w := w) (g := g) (row := none) (by repeat (first | (with_reducible first | exact HK.out | apply KeepBut.set_ | apply keep_drewN | apply keep_drew | apply keep_alloc) | exact HK.out))) : w.heap.size ≤ gb439)); have n5_ := Aside0.mk ((Nat.le_trans HW0.out (by rw [hg]; exact (keep_size (w := w) (g := g) (row := none) (by repeat (first | (with_reducible first | exact HK.out | apply KeepBut.set_ | apply keep_drewN | apply keep_drew | apply keep_alloc) | exact HK.out))) : w.heap.size ≤ gb439) : w0.heap.size ≤ gb439)); have n6_ := Aside0.mk ((by rw [hg]; exact Nat.ne_of_lt (IsS78.lt (show IsS78 w0 _ g s0_0 s0_1 s0_2 from by repeat (first | (with_reducible first | exact HI0.out | apply IsS78.alloc | apply IsS78.drewN | apply IsS78.drew | apply IsS78.set_1 | apply IsS78.set_2) | exact HI0.out))) : g ≠ gb439)); have n7_ := Aside0.mk ((by rw [hg]; exact Nat.ne_of_gt (IsS78.lt (show IsS78 w0 _ g s0_0 s0_1 s0_2 from by repeat (first | (with_reducible first | exact HI0.out | apply IsS78.alloc | apply IsS78.drewN | apply IsS78.drew | apply IsS78.set_1 | apply IsS78.set_2) | exact HI0.out))) : gb439 ≠ g)); clear HI0; clear HK; clear HB; have HI0 := n0_; have HK := n1_; have HB := n2_; have BK439 := n3_; have GW439 := n4_; have GE439 := n5_; have NB0_439 := n6_; have NB439_0 := n7_; clear n0_ n1_ n2_ n3_ n4_ n5_ n6_ n7_; clear hb hbox hg) | ((with_reducible refine gate_dst (N := 3) rfl ?_); refine box_event ?hg (N := 3) ?hd (cs := #[.slice none 0 0, .slice none 0 0]) (t := 55) ?hr ?_; (case hd => rfl); (case hg => rfl); (case hr => first | (go_simp; done) | (go_simp; rfl)); intro gb440 hg w6 hbox hb; have n0_ := Aside0.mk (IsS78.below (by repeat (first | (with_reducible first | exact HI0.out | apply IsS78.alloc | apply IsS78.drewN | apply IsS78.drew | apply IsS78.set_1 | apply IsS78.set_2 | refine IsS78.far ?_ NB0_439.out _) | exact HI0.out)) hb); have n1_ := bb_ BK439 hb; have n2_ := Aside0.mk (KeepBut.trans (by repeat (first | (with_reducible first | exact HK.out | apply KeepBut.set_ | apply keep_drewN | apply keep_drew | apply keep_alloc | refine keep_far ?_ GW439.out _) | exact HK.out)) (KeepBut.of_below hb g none) (.inl rfl)); have n3_ := Aside0.mk (below_step (by repeat (first | (with_reducible first | exact HB.out | apply below_alloc | apply pw_below_drewN | apply below_drew1 | refine below_set ?_ (IsS78.ge HI0.out) | refine below_set ?_ GE439.out) | exact HB.out)) hb); have n4_ := Aside0.mk (hbox); have n5_ := Aside0.mk ((by rw [hg]; exact (keep_size (w := w) (g := g) (row := none) (by repeat (first | (with_reducible first | exact HK.out | apply KeepBut.set_ | apply keep_drewN | apply keep_drew | apply keep_alloc | refine keep_far ?_ GW439.out _) | exact HK.out))) : w.heap.size ≤ gb440)); have n6_ := Aside0.mk ((Nat.le_trans HW0.out (by rw [hg]; exact (keep_size (w := w) (g := g) (row := none) (by repeat (first | (with_reducible first | exact HK.out | apply KeepBut.set_ | apply keep_drewN | apply keep_drew | apply keep_alloc | refine keep_far ?_ GW439.out _) | exact HK.out))) : w.heap.size ≤ gb440) : w0.heap.size ≤ gb440)); have n7_ := Aside0.mk ((by rw [hg]; exact Nat.ne_of_lt (blk_lt (g := gb439) (o := .cells #[.slice none 0 0, .slice none 0 0] 55 (0, 0)) (bk_ BK439.out)) : gb439 ≠ gb440)); have n8_ := Aside0.mk ((by rw [hg]; exact Nat.ne_of_gt (blk_lt (g := gb439) (o := .cells #[.slice none 0 0, .slice none 0 0] 55 (0, 0)) (bk_ BK439.out)) : gb440 ≠ gb439)); have n9_ := Aside0.mk ((by rw [hg]; exact Nat.ne_of_lt (IsS78.lt (show IsS78 w0 _ g s0_0 s0_1 s0_2 from by repeat (first | (with_reducible first | exact HI0.out | apply IsS78.alloc | apply IsS78.drewN | apply IsS78.drew | apply IsS78.set_1 | apply IsS78.set_2 | refine IsS78.far ?_ NB0_439.out _) | exact HI0.out))) : g ≠ gb440)); have n10_ := Aside0.mk ((by rw [hg]; exact Nat.ne_of_gt (IsS78.lt (show IsS78 w0 _ g s0_0 s0_1 s0_2 from by repeat (first | (with_reducible first | exact HI0.out | apply IsS78.alloc | apply IsS78.drewN | apply IsS78.drew | apply IsS78.set_1 | apply IsS78.set_2 | refine IsS78.far ?_ NB0_439.out _) | exact HI0.out))) : gb440 ≠ g)); clear HI0; clear BK439; clear HK; clear HB; have HI0 := n0_; have BK439 := n1_; have HK := n2_; have HB := n3_; have BK440 := n4_; have GW440 := n5_; have GE440 := n6_; have NB439_440 := n7_; have NB440_439 := n8_; have NB0_440 := n9_; have NB440_0 := n10_; clear n0_ n1_ n2_ n3_ n4_ n5_ n6_ n7_ n8_ n9_ n10_; clear hb hbox hg; have hnb7 := NB440_439.out; have hnc7 := NB439_440.out; have hnb8 := NB440_0.out; have hnc8 := NB0_440.out; have hcz9_0 : w6.cell? ⟨gb440, 0, none⟩ = some (.slice none 0 0) := (blk_cell BK440.out 0).trans rfl; have hcz9_1 : w6.cell? ⟨gb440, 1, none⟩ = some (.slice none 0 0) := (blk_cell BK440.out 1).trans rfl; have hfz9_0 := blk_frozen BK440.out 0; have hfz9_1 := blk_frozen BK440.out 1) | ((with_reducible refine gate_callee (f := 52) rfl ?_); refine goesL_ (some 12) rfl rfl Try.func52 (by kernel_rfl) rfl #[.pointer (some ⟨g, 0, none⟩), .int .i64 8] rfl ls_ ?_; (with_reducible refine (spec_l1Cur_pick.calls g s0_0 s0_1 s0_2 8 t441 t442 t443 w0 _ ?side1 ?side2 A2.out).mono ?_); (case side1 => repeat (first | (with_reducible first | exact HI0.out | apply IsS78.alloc | apply IsS78.drewN | apply IsS78.drew | apply IsS78.set_1 | apply IsS78.set_2 | refine IsS78.far ?_ NB0_439.out _ | refine IsS78.far ?_ NB0_440.out _) | exact HI0.out)); (case side2 => repeat (first | (with_reducible first | exact HB.out | apply below_alloc | apply pw_below_drewN | apply below_drew1 | refine below_set ?_ (IsS78.ge HI0.out) | refine below_set ?_ GE439.out | refine below_set ?_ GE440.out) | exact HB.out)); rintro e w10 ⟨rfl, hi, hb, hk⟩; refine ⟨_, rfl, ?_⟩; have n0_ := Aside0.mk (KeepBut.blk hk (g' := gb439) (o := .cells #[.slice none 0 0, .slice none 0 0] 55 (0, 0)) (by (with_reducible repeat (first | refine blk_drewN ?_ _ | refine blk_drew ?_ | refine blk_alloc ?_ _)); refine blk_far ?_ NB439_440.out _; (with_reducible repeat (first | refine blk_drewN ?_ _ | refine blk_drew ?_ | refine blk_alloc ?_ _)); refine blk_far ?_ NB439_440.out _; (with_reducible repeat (first | refine blk_drewN ?_ _ | refine blk_drew ?_ | refine blk_alloc ?_ _)); exact BK439.out) NB439_0.out (by simp)); have n1_ := Aside0.mk (KeepBut.blk hk (g' := gb440) (o := .cells #[.slice none 0 0, .slice none 0 0] 55 (0, 0)) (by (with_reducible repeat (first | refine blk_drewN ?_ _ | refine blk_drew ?_ | refine blk_alloc ?_ _)); refine blk_put (cs := #[.slice none 0 0, .slice none 0 0]) ?_ 1 _ rfl; (with_reducible repeat (first | refine blk_drewN ?_ _ | refine blk_drew ?_ | refine blk_alloc ?_ _)); refine blk_put (cs := #[.slice none 0 0, .slice none 0 0]) ?_ 0 _ rfl; (with_reducible repeat (first | refine blk_drewN ?_ _ | refine blk_drew ?_ | refine blk_alloc ?_ _)); exact BK440.out) NB440_0.out (by simp)); have n2_ := Aside0.mk (KeepBut.trans (by repeat (first | (with_reducible first | exact HK.out | apply KeepBut.set_ | apply keep_drewN | apply keep_drew | apply keep_alloc | refine keep_far ?_ GW439.out _ | refine keep_far ?_ GW440.out _) | exact HK.out)) hk (.inl rfl)); have n3_ := Aside0.mk (hb); have n4_ := Aside0.mk (hi); clear BK439; clear BK440; clear HK; clear HB; clear HI0; have BK439 := n0_; have BK440 := n1_; have HK := n2_; have HB := n3_; have HI0 := n4_; clear n0_ n1_ n2_ n3_ n4_; (try clear hb); (try clear hb2); (try clear hk); (try clear hi)) | ((with_reducible refine gate_callee (f := 53) rfl ?_); refine goesL_ (some 15) rfl rfl Try.func53 (by kernel_rfl) rfl #[.pointer (some ⟨g, 0, none⟩), .int .i64 16] rfl ls_ ?_; (with_reducible refine (spec_l1Cur_one.calls g s0_0 t442 t443 16 t444 t445 t446 w0 _ ?side1 ?side2 A3.out).mono ?_); (case side1 => repeat (first | (with_reducible first | exact HI0.out | apply IsS78.alloc | apply IsS78.drewN | apply IsS78.drew | apply IsS78.set_1 | apply IsS78.set_2 | refine IsS78.far ?_ NB0_439.out _ | refine IsS78.far ?_ NB0_440.out _) | exact HI0.out)); (case side2 => repeat (first | (with_reducible first | exact HB.out | apply below_alloc | apply pw_below_drewN | apply below_drew1 | refine below_set ?_ (IsS78.ge HI0.out) | refine below_set ?_ GE439.out | refine below_set ?_ GE440.out) | exact HB.out)); rintro e w11 ⟨rfl, hi, hb, hk⟩; refine ⟨_, rfl, ?_⟩; have n0_ := Aside0.mk (KeepBut.blk hk (g' := gb439) (o := .cells #[.slice none 0 0, .slice none 0 0] 55 (0, 0)) (bk_ BK439.out) NB439_0.out (by simp)); have n1_ := Aside0.mk (KeepBut.blk hk (g' := gb440) (o := .cells #[.slice none 0 0, .slice none 0 0] 55 (0, 0)) (bk_ BK440.out) NB440_0.out (by simp)); have n2_ := Aside0.mk (KeepBut.trans (by repeat (first | (with_reducible first | exact HK.out | apply KeepBut.set_ | apply keep_drewN | apply keep_drew | apply keep_alloc | refine keep_far ?_ GW439.out _ | refine keep_far ?_ GW440.out _) | exact HK.out)) hk (.inl rfl)); have n3_ := Aside0.mk (hb); have n4_ := Aside0.mk (hi); clear BK439; clear BK440; clear HK; clear HB; clear HI0; have BK439 := n0_; have BK440 := n1_; have HK := n2_; have HB := n3_; have HI0 := n4_; clear n0_ n1_ n2_ n3_ n4_; (try clear hb); (try clear hb2); (try clear hk); (try clear hi)))
  (try simp only [Act.put, List.setIfInBounds_toArray, List.set_cons_zero, List.set_cons_succ])
  go_cut [4] (fun v4 wc => ∃ (kq : Nat) (x4_3 : Int) (x1001_3 : Int) (x1002_3 : Int), v4 = .int .i64 x4_3 ∧ Aside0 (spec_l1Cur_chart.j0 kq x4_3 s0_0 x1001_3 x1002_3 = some (r1, r2, r3, r4)) ∧ Aside0 (kq ≤ k) ∧ Aside0 (wc.heap[gb439]? = some (.cells #[(.slice none 0 0), (.slice none 0 0)] 55 (0, 0))) ∧ Aside0 (wc.heap[gb440]? = some (.cells #[(.slice none 0 0), (.slice none 0 0)] 55 (0, 0))) ∧ Aside0 (IsS78 w0 wc g s0_0 x1001_3 x1002_3) ∧ Aside0 (KeepBut w wc g none) ∧ Aside0 (Below w0.heap.size w0 wc))
  case first =>
   have H := HC4.out
   clear HC4
   by_cases c12 : t444 = true
   ·subst c12
    rw [if_pos rfl] at H
    obtain ⟨y447, hy447⟩ : ∃ y_ : List Int, y_ = (([0, 12, 13] : List Int)) := ⟨_, rfl⟩
    replace H : ((spec_l1Cur_among.f s0_0 t445 t446 y447).bind fun bt450 => (spec_l1Cur_chart.j0 k bt450.1 s0_0 bt450.2.1 bt450.2.2)) = some (r1, r2, r3, r4) := by first | (rw [hy447]; with_reducible exact H) | (have H2_ := (Option.bind_some _ _).symm.trans H; rw [hy447]; with_reducible exact H2_) | (have H2_ := (Option.bind_some _ _).symm.trans H; with_reducible exact H2_) | with_reducible exact H | (rw [hy447]; exact H) | exact H
    have Ny447 := Aside0.mk hy447
    clear hy447
    replace H := Option.bind_eq_some_iff.mp H
    obtain ⟨⟨t450, t451, t452⟩, A130, H⟩ := H
    replace H : (spec_l1Cur_chart.j0 k t450 s0_0 t451 t452) = some (r1, r2, r3, r4) := H
    have A13 := Aside0.mk A130
    clear A130
    have H' := Aside0.mk H
    clear H
    go_wp2_with (first | ((with_reducible refine gate_dst (N := 17) rfl ?_); refine Kd.R_lit (Kd.int .i64) _ 3 ?hg (N := 17) ?hd (xs := ([0, 12, 13] : List Int)) (inner := [.int .i64 0, .int .i64 12, .int .i64 13]) (ok := fun _ => True) (okp := fun _ => True) ?hr ?hp (fun _ hk => hk) trivial (Below.refl _ _) (Nat.le_refl _) (by simp) ?_; (case hd => rfl); (case hg => rfl); (case hr => first | (go_simp; done) | (go_simp; rfl)); (case hp => exact (Reps.one (show Kd.M (Kd.int .i64) _ _ _ 0 [.int .i64 0] from rfl) (Reps.one (show Kd.M (Kd.int .i64) _ _ _ 12 [.int .i64 12] from rfl) (Reps.one (show Kd.M (Kd.int .i64) _ _ _ 13 [.int .i64 13] from rfl) (Reps.none _ _))))); intro v448 w14 ho15 hb hg_ hnew_; clear hg_ hnew_; (first | rw [← Ny447.out] at ho15 | (simp only [Int.reduceToNat] at ho15; rw [← Ny447.out] at ho15)); have n0_ := Aside0.mk (Kd.R_lower ho15 (keep_size (w := w) (g := g) (row := none) (by repeat (first | (with_reducible first | exact HK.out | apply KeepBut.set_ | apply keep_drewN | apply keep_drew | apply keep_alloc | refine keep_far ?_ GW439.out _ | refine keep_far ?_ GW440.out _) | exact HK.out)))); have n1_ := Aside0.mk (IsS78.below (by repeat (first | (with_reducible first | exact HI0.out | apply IsS78.alloc | apply IsS78.drewN | apply IsS78.drew | apply IsS78.set_1 | apply IsS78.set_2 | refine IsS78.far ?_ NB0_439.out _ | refine IsS78.far ?_ NB0_440.out _) | exact HI0.out)) hb); have n2_ := bb_ BK439 hb; have n3_ := bb_ BK440 hb; have n4_ := Aside0.mk (KeepBut.trans (by repeat (first | (with_reducible first | exact HK.out | apply KeepBut.set_ | apply keep_drewN | apply keep_drew | apply keep_alloc | refine keep_far ?_ GW439.out _ | refine keep_far ?_ GW440.out _) | exact HK.out)) (KeepBut.of_below hb g none) (.inl rfl)); have n5_ := Aside0.mk (below_step (by repeat (first | (with_reducible first | exact HB.out | apply below_alloc | apply pw_below_drewN | apply below_drew1 | refine below_set ?_ (IsS78.ge HI0.out) | refine below_set ?_ GE439.out | refine below_set ?_ GE440.out) | exact HB.out)) hb); clear HI0; clear BK439; clear BK440; clear HK; clear HB; have HO449 := n0_; have HI0 := n1_; have BK439 := n2_; have BK440 := n3_; have HK := n4_; have HB := n5_; clear n0_ n1_ n2_ n3_ n4_ n5_; clear hb ho15; obtain ⟨Ao16, co16, eo16⟩ := Kd.R_slice HO449.out; subst eo16) | ((with_reducible refine gate_callee (f := 55) rfl ?_); refine goesL_ (some 18) rfl rfl Try.func55 (by kernel_rfl) rfl #[.pointer (some ⟨g, 0, none⟩), .slice Ao16 y447.length co16] rfl ls_ ?_; (with_reducible refine (spec_l1Cur_among.calls g s0_0 t445 t446 _ _ y447 t450 t451 t452 w0 _ ?side1 ?side2 ?side3 ?side4 ?side5 A13.out).mono ?_); (case side1 => repeat (first | (with_reducible first | exact HI0.out | apply IsS78.alloc | apply IsS78.drewN | apply IsS78.drew | apply IsS78.set_1 | apply IsS78.set_2 | refine IsS78.far ?_ NB0_439.out _ | refine IsS78.far ?_ NB0_440.out _) | exact HI0.out)); (case side2 => repeat (first | (with_reducible first | exact HB.out | apply below_alloc | apply pw_below_drewN | apply below_drew1 | refine below_set ?_ (IsS78.ge HI0.out) | refine below_set ?_ GE439.out | refine below_set ?_ GE440.out) | exact HB.out)); (case side3 => exact ca_ (Kd.R_reads' HO449.out).2.2); (case side4 => exact (Kd.R_reads' HO449.out).2.1); (case side5 => exact far_slice (IsS78.own_ne HI0.out HO449.out (by decide))); rintro e w17 ⟨rfl, hi, hb, hk⟩; refine ⟨_, rfl, ?_⟩; have n0_ := Aside0.mk (KeepBut.blk hk (g' := gb439) (o := .cells #[.slice none 0 0, .slice none 0 0] 55 (0, 0)) (bk_ BK439.out) NB439_0.out (by simp)); have n1_ := Aside0.mk (KeepBut.blk hk (g' := gb440) (o := .cells #[.slice none 0 0, .slice none 0 0] 55 (0, 0)) (bk_ BK440.out) NB440_0.out (by simp)); have n2_ := Aside0.mk (Kd.R_mono (Kd.R_keep (IsS78.apart (show IsS78 w0 _ g s0_0 t445 t446 from by repeat (first | (with_reducible first | exact HI0.out | apply IsS78.alloc | apply IsS78.drewN | apply IsS78.drew | apply IsS78.set_1 | apply IsS78.set_2 | refine IsS78.far ?_ NB0_439.out _ | refine IsS78.far ?_ NB0_440.out _) | exact HI0.out)) (ra_ HO449.out) (by decide)) hk (fun _ h => h.2)) (fun _ h => h.1)); have n3_ := Aside0.mk (KeepBut.trans (by repeat (first | (with_reducible first | exact HK.out | apply KeepBut.set_ | apply keep_drewN | apply keep_drew | apply keep_alloc | refine keep_far ?_ GW439.out _ | refine keep_far ?_ GW440.out _) | exact HK.out)) hk (.inl rfl)); have n4_ := Aside0.mk (hb); have n5_ := Aside0.mk (hi); clear BK439; clear BK440; clear HO449; clear HK; clear HB; clear HI0; have BK439 := n0_; have BK440 := n1_; have HO449 := n2_; have HK := n3_; have HB := n4_; have HI0 := n5_; clear n0_ n1_ n2_ n3_ n4_ n5_; (try clear hb); (try clear hb2); (try clear hk); (try clear hi)))
    go_meet
    case rel => exact ⟨_, (t450), (t451), (t452), es_, H', ⟨by first | omega | exact Nat.le_refl _⟩, ⟨bk_ BK439.out⟩, ⟨bk_ BK440.out⟩, ⟨by repeat (first | (with_reducible first | exact HI0.out | apply IsS78.alloc | apply IsS78.drewN | apply IsS78.drew | apply IsS78.set_1 | apply IsS78.set_2 | refine IsS78.far ?_ NB0_439.out _ | refine IsS78.far ?_ NB0_440.out _) | exact HI0.out)⟩, ⟨by repeat (first | (with_reducible first | exact HK.out | apply KeepBut.set_ | apply keep_drewN | apply keep_drew | apply keep_alloc | refine keep_far ?_ GW439.out _ | refine keep_far ?_ GW440.out _) | exact HK.out)⟩, ⟨by repeat (first | (with_reducible first | exact HB.out | apply below_alloc | apply pw_below_drewN | apply below_drew1 | refine below_set ?_ (IsS78.ge HI0.out) | refine below_set ?_ GE439.out | refine below_set ?_ GE440.out) | exact HB.out)⟩⟩
   ·replace c12 := Bool.eq_false_iff.mpr c12
    subst c12
    rw [if_neg (show ¬ (false = true) by decide)] at H
    have H' := Aside0.mk H
    clear H
    go_wp2
    go_meet
    case rel => exact ⟨_, (wrap64 (1 + t441)), (t445), (t446), es_, H', ⟨by first | omega | exact Nat.le_refl _⟩, ⟨bk_ BK439.out⟩, ⟨bk_ BK440.out⟩, ⟨by repeat (first | (with_reducible first | exact HI0.out | apply IsS78.alloc | apply IsS78.drewN | apply IsS78.drew | apply IsS78.set_1 | apply IsS78.set_2 | refine IsS78.far ?_ NB0_439.out _ | refine IsS78.far ?_ NB0_440.out _) | exact HI0.out)⟩, ⟨by repeat (first | (with_reducible first | exact HK.out | apply KeepBut.set_ | apply keep_drewN | apply keep_drew | apply keep_alloc | refine keep_far ?_ GW439.out _ | refine keep_far ?_ GW440.out _) | exact HK.out)⟩, ⟨by repeat (first | (with_reducible first | exact HB.out | apply below_alloc | apply pw_below_drewN | apply below_drew1 | refine below_set ?_ (IsS78.ge HI0.out) | refine below_set ?_ GE439.out | refine below_set ?_ GE440.out) | exact HB.out)⟩⟩
  case rest =>
   clear HC4
   try clear c1
   try clear p2
   try clear c5
   try clear p6
   try clear c7
   try clear c8
   try clear c12
   try clear hcz9_0
   try clear hcz9_1
   try clear hfz9_0
   try clear hfz9_1
   obtain ⟨kq, x4_3, x1001_3, x1002_3, rfl, HA, HJ3, BK439, BK440, HI0, HK, HB⟩ := hcut
   cases kq with
   | zero => exact absurd HA.out (by simp [spec_l1Cur_chart.j0])
   | succ kj3 =>
    have H := HA.out
    clear HA
    simp only [spec_l1Cur_chart.j0] at H
    have H' := Aside0.mk H
    clear H
    go_wp2
    go_loopg [5] kj3 (fun kq v5 w' => ∃ (x5_2 : Int) (x1001_2 : Int) (x1002_2 : Int) (x441000_2 : List (S88)) (u441000 : Value), v5 = .int .i64 x5_2 ∧ Aside0 (spec_l1Cur_chart.l0 kq x4_3 x5_2 s0_0 x1001_2 x1002_2 x441000_2 = some (r1, r2, r3, r4)) ∧ Aside0 (kq ≤ kj3) ∧ Aside0 (Kd.R k88 88 w' w.heap.size (fun _ => True) u441000 x441000_2) ∧ Aside0 (w'.heap[gb439]? = some (.cells #[(.slice none 0 0), (.slice none 0 0)] 55 (0, 0))) ∧ Aside0 (w'.heap[gb440]? = some (.cells #[u441000, (.slice none 0 0)] 55 (0, 0))) ∧ Aside0 (IsS78 w0 w' g s0_0 x1001_2 x1002_2) ∧ Aside0 (KeepBut w w' g none) ∧ Aside0 (Below w0.heap.size w0 w'))
    case atStart => exact ⟨(0), (x1001_3), (x1002_3), (([] : List (S88))), (.slice none 0 0), es_, H', ⟨Nat.le_refl _⟩, ⟨by first | exact Kd.R_nil _ _ _ _ _ | exact Kd.N_nil _ _ _ _ _ | exact Kd.V_nil _ _ _ _ _ | exact Kd.Q_nil _ _ _ _ _ | exact Kd.S_nil _ _ _ _ _⟩, ⟨bk_ BK439.out⟩, ⟨bk_ BK440.out⟩, ⟨by repeat (first | (with_reducible first | exact HI0.out | apply IsS78.alloc | apply IsS78.drewN | apply IsS78.drew | apply IsS78.set_1 | apply IsS78.set_2 | refine IsS78.far ?_ NB0_439.out _ | refine IsS78.far ?_ NB0_440.out _) | exact HI0.out)⟩, ⟨by repeat (first | (with_reducible first | exact HK.out | apply KeepBut.set_ | apply keep_drewN | apply keep_drew | apply keep_alloc | refine keep_far ?_ GW439.out _ | refine keep_far ?_ GW440.out _) | exact HK.out)⟩, ⟨by repeat (first | (with_reducible first | exact HB.out | apply below_alloc | apply pw_below_drewN | apply below_drew1 | refine below_set ?_ (IsS78.ge HI0.out) | refine below_set ?_ GE439.out | refine below_set ?_ GE440.out) | exact HB.out)⟩⟩
    case round =>
     clear H'
     try clear c1
     try clear p2
     try clear c5
     try clear p6
     try clear c7
     try clear c8
     try clear c12
     try clear hcz9_0
     try clear hcz9_1
     try clear hfz9_0
     try clear hfz9_1
     try clear p2
     try clear p6
     obtain ⟨x5_2, x1001_2, x1002_2, x441000_2, u441000, rfl, HA, HK2, HO_441000, BK439, BK440, HI0, HK, HB⟩ := hrel
     cases gk with
     | zero => exact absurd HA.out (by simp [spec_l1Cur_chart.l0])
     | succ k2 =>
      have H := HA.out
      clear HA
      simp only [spec_l1Cur_chart.l0] at H
      by_cases c18 : x5_2 < x4_3
      ·rw [if_pos c18] at H
       have c18b0 : decide (x5_2 < x4_3) = true := decide_eq_true c18
       clear c18
       by_cases c19 : x5_2 > 0
       ·rw [if_pos c19] at H
        have c19b0 : decide (0 < x5_2) = true := decide_eq_true c19
        clear c19
        replace H := Option.bind_eq_some_iff.mp H
        obtain ⟨⟨t454, t455, t456⟩, A200, H⟩ := H
        replace H : (if x441000_2.length < 8796093022208 then (spec_l1Cur_chart.l0 k2 x4_3 (wrap64 (x5_2 + 1)) s0_0 t455 t456 (x441000_2 ++ [(⟨t454, (-1)⟩ : S88)])) else (none)) = some (r1, r2, r3, r4) := H
        have A20 := Aside0.mk A200
        clear A200
        by_cases c21 : x441000_2.length < 8796093022208
        ·rw [if_pos c21] at H
         have LMc21 := Aside0.mk c21
         clear c21
         obtain ⟨y457, hy457⟩ : ∃ y_ : List (S88), y_ = (x441000_2 ++ [(⟨t454, (-1)⟩ : S88)]) := ⟨_, rfl⟩
         replace H : (spec_l1Cur_chart.l0 k2 x4_3 (wrap64 (x5_2 + 1)) s0_0 t455 t456 y457) = some (r1, r2, r3, r4) := by first | (rw [hy457]; with_reducible exact H) | (have H2_ := (Option.bind_some _ _).symm.trans H; rw [hy457]; with_reducible exact H2_) | (have H2_ := (Option.bind_some _ _).symm.trans H; with_reducible exact H2_) | with_reducible exact H | (rw [hy457]; exact H) | exact H
         have Ny457 := Aside0.mk hy457
         clear hy457
         have H' := Aside0.mk H
         clear H
         go_wp2_with (first | ((with_reducible refine gate_dst (N := 6) rfl ?_); refine box_event ?hg (N := 6) ?hd (cs := #[.int .i64 0, .int .i64 0]) (t := 88) ?hr ?_; (case hd => rfl); (case hg => rfl); (case hr => first | (go_simp; done) | (go_simp; rfl)); intro gb453 hg w22 hbox hb; have n0_ := Aside0.mk (Kd.R_below (Kd.R_elderB (ra_ HO_441000.out) gb453 (Nat.le_of_eq hg.symm)) hb); have n1_ := bb_ BK439 hb; have n2_ := bb_ BK440 hb; have n3_ := Aside0.mk (IsS78.below (by repeat (first | (with_reducible first | exact HI0.out | apply IsS78.alloc | apply IsS78.drewN | apply IsS78.drew | apply IsS78.set_1 | apply IsS78.set_2 | refine IsS78.far ?_ NB0_439.out _ | refine IsS78.far ?_ NB0_440.out _) | exact HI0.out)) hb); have n4_ := Aside0.mk (KeepBut.trans (by repeat (first | (with_reducible first | exact HK.out | apply KeepBut.set_ | apply keep_drewN | apply keep_drew | apply keep_alloc | refine keep_far ?_ GW439.out _ | refine keep_far ?_ GW440.out _) | exact HK.out)) (KeepBut.of_below hb g none) (.inl rfl)); have n5_ := Aside0.mk (below_step (by repeat (first | (with_reducible first | exact HB.out | apply below_alloc | apply pw_below_drewN | apply below_drew1 | refine below_set ?_ (IsS78.ge HI0.out) | refine below_set ?_ GE439.out | refine below_set ?_ GE440.out) | exact HB.out)) hb); have n6_ := Aside0.mk (hbox); have n7_ := Aside0.mk ((by rw [hg]; exact (keep_size (w := w) (g := g) (row := none) (by repeat (first | (with_reducible first | exact HK.out | apply KeepBut.set_ | apply keep_drewN | apply keep_drew | apply keep_alloc | refine keep_far ?_ GW439.out _ | refine keep_far ?_ GW440.out _) | exact HK.out))) : w.heap.size ≤ gb453)); have n8_ := Aside0.mk ((Nat.le_trans HW0.out (by rw [hg]; exact (keep_size (w := w) (g := g) (row := none) (by repeat (first | (with_reducible first | exact HK.out | apply KeepBut.set_ | apply keep_drewN | apply keep_drew | apply keep_alloc | refine keep_far ?_ GW439.out _ | refine keep_far ?_ GW440.out _) | exact HK.out))) : w.heap.size ≤ gb453) : w0.heap.size ≤ gb453)); have n9_ := Aside0.mk ((by rw [hg]; exact Nat.ne_of_lt (blk_lt (g := gb439) (o := .cells #[.slice none 0 0, .slice none 0 0] 55 (0, 0)) (bk_ BK439.out)) : gb439 ≠ gb453)); have n10_ := Aside0.mk ((by rw [hg]; exact Nat.ne_of_gt (blk_lt (g := gb439) (o := .cells #[.slice none 0 0, .slice none 0 0] 55 (0, 0)) (bk_ BK439.out)) : gb453 ≠ gb439)); have n11_ := Aside0.mk ((by rw [hg]; exact Nat.ne_of_lt (blk_lt (g := gb440) (o := .cells #[u441000, .slice none 0 0] 55 (0, 0)) (bk_ BK440.out)) : gb440 ≠ gb453)); have n12_ := Aside0.mk ((by rw [hg]; exact Nat.ne_of_gt (blk_lt (g := gb440) (o := .cells #[u441000, .slice none 0 0] 55 (0, 0)) (bk_ BK440.out)) : gb453 ≠ gb440)); have n13_ := Aside0.mk ((by rw [hg]; exact Nat.ne_of_lt (IsS78.lt (show IsS78 w0 _ g s0_0 x1001_2 x1002_2 from by repeat (first | (with_reducible first | exact HI0.out | apply IsS78.alloc | apply IsS78.drewN | apply IsS78.drew | apply IsS78.set_1 | apply IsS78.set_2 | refine IsS78.far ?_ NB0_439.out _ | refine IsS78.far ?_ NB0_440.out _) | exact HI0.out))) : g ≠ gb453)); have n14_ := Aside0.mk ((by rw [hg]; exact Nat.ne_of_gt (IsS78.lt (show IsS78 w0 _ g s0_0 x1001_2 x1002_2 from by repeat (first | (with_reducible first | exact HI0.out | apply IsS78.alloc | apply IsS78.drewN | apply IsS78.drew | apply IsS78.set_1 | apply IsS78.set_2 | refine IsS78.far ?_ NB0_439.out _ | refine IsS78.far ?_ NB0_440.out _) | exact HI0.out))) : gb453 ≠ g)); clear HO_441000; clear BK439; clear BK440; clear HI0; clear HK; clear HB; have HO_441000 := n0_; have BK439 := n1_; have BK440 := n2_; have HI0 := n3_; have HK := n4_; have HB := n5_; have BK453 := n6_; have GW453 := n7_; have GE453 := n8_; have NB439_453 := n9_; have NB453_439 := n10_; have NB440_453 := n11_; have NB453_440 := n12_; have NB0_453 := n13_; have NB453_0 := n14_; clear n0_ n1_ n2_ n3_ n4_ n5_ n6_ n7_ n8_ n9_ n10_ n11_ n12_ n13_ n14_; clear hb hbox hg; have hnb23 := NB453_439.out; have hnc23 := NB439_453.out; have hnb24 := NB453_440.out; have hnc24 := NB440_453.out; have hnb25 := NB453_0.out; have hnc25 := NB0_453.out; have hcz26_0 : w22.cell? ⟨gb453, 0, none⟩ = some (.int .i64 0) := (blk_cell BK453.out 0).trans rfl; have hcz26_1 : w22.cell? ⟨gb453, 1, none⟩ = some (.int .i64 0) := (blk_cell BK453.out 1).trans rfl; have hfz26_0 := blk_frozen BK453.out 0; have hfz26_1 := blk_frozen BK453.out 1) | ((with_reducible refine gate_callee (f := 52) rfl ?_); refine goesL_ (some 29) rfl rfl Try.func52 (by kernel_rfl) rfl #[.pointer (some ⟨g, 0, none⟩), .int .i64 x5_2] rfl ls_ ?_; (with_reducible refine (spec_l1Cur_pick.calls g s0_0 x1001_2 x1002_2 x5_2 t454 t455 t456 w0 _ ?side1 ?side2 A20.out).mono ?_); (case side1 => repeat (first | (with_reducible first | exact HI0.out | apply IsS78.alloc | apply IsS78.drewN | apply IsS78.drew | apply IsS78.set_1 | apply IsS78.set_2 | refine IsS78.far ?_ NB0_439.out _ | refine IsS78.far ?_ NB0_440.out _ | refine IsS78.far ?_ NB0_453.out _) | exact HI0.out)); (case side2 => repeat (first | (with_reducible first | exact HB.out | apply below_alloc | apply pw_below_drewN | apply below_drew1 | refine below_set ?_ (IsS78.ge HI0.out) | refine below_set ?_ GE439.out | refine below_set ?_ GE440.out | refine below_set ?_ GE453.out) | exact HB.out)); rintro e w27 ⟨rfl, hi, hb, hk⟩; refine ⟨_, rfl, ?_⟩; have n0_ := Aside0.mk (Kd.R_mono (Kd.R_keep (IsS78.apart (show IsS78 w0 _ g s0_0 x1001_2 x1002_2 from by repeat (first | (with_reducible first | exact HI0.out | apply IsS78.alloc | apply IsS78.drewN | apply IsS78.drew | apply IsS78.set_1 | apply IsS78.set_2 | refine IsS78.far ?_ NB0_439.out _ | refine IsS78.far ?_ NB0_440.out _ | refine IsS78.far ?_ NB0_453.out _) | exact HI0.out)) (by (with_reducible repeat (first | apply Kd.R_alloc | apply Kd.R_drewN | apply Kd.R_drew)); exact (Kd.R_mono (Kd.R_far (p := ⟨gb453, 1, none⟩) (Kd.R_far (p := ⟨gb453, 0, none⟩) (Kd.R_mono HO_441000.out (fun k_ hk => (⟨hk, hk.2⟩ : _ ∧ k_ ≠ gb453))) (fun _ hk => hk.2) (.int .i64 (-1))) (fun _ hk => hk.2) (.int .i64 (-1))) (fun _ h_ => h_.1))) (by decide)) hk (fun _ h => h.2)) (fun _ h => h.1)); have n1_ := Aside0.mk (KeepBut.blk hk (g' := gb439) (o := .cells #[.slice none 0 0, .slice none 0 0] 55 (0, 0)) (by (with_reducible repeat (first | refine blk_drewN ?_ _ | refine blk_drew ?_ | refine blk_alloc ?_ _)); refine blk_far ?_ NB439_453.out _; (with_reducible repeat (first | refine blk_drewN ?_ _ | refine blk_drew ?_ | refine blk_alloc ?_ _)); refine blk_far ?_ NB439_453.out _; (with_reducible repeat (first | refine blk_drewN ?_ _ | refine blk_drew ?_ | refine blk_alloc ?_ _)); exact BK439.out) NB439_0.out (by simp)); have n2_ := Aside0.mk (KeepBut.blk hk (g' := gb440) (o := .cells #[u441000, .slice none 0 0] 55 (0, 0)) (by (with_reducible repeat (first | refine blk_drewN ?_ _ | refine blk_drew ?_ | refine blk_alloc ?_ _)); refine blk_far ?_ NB440_453.out _; (with_reducible repeat (first | refine blk_drewN ?_ _ | refine blk_drew ?_ | refine blk_alloc ?_ _)); refine blk_far ?_ NB440_453.out _; (with_reducible repeat (first | refine blk_drewN ?_ _ | refine blk_drew ?_ | refine blk_alloc ?_ _)); exact BK440.out) NB440_0.out (by simp)); have n3_ := Aside0.mk (KeepBut.blk hk (g' := gb453) (o := .cells #[.int .i64 (-1), .int .i64 (-1)] 88 (0, 0)) (by (with_reducible repeat (first | refine blk_drewN ?_ _ | refine blk_drew ?_ | refine blk_alloc ?_ _)); refine blk_put (cs := #[.int .i64 (-1), .int .i64 0]) ?_ 1 _ rfl; (with_reducible repeat (first | refine blk_drewN ?_ _ | refine blk_drew ?_ | refine blk_alloc ?_ _)); refine blk_put (cs := #[.int .i64 0, .int .i64 0]) ?_ 0 _ rfl; (with_reducible repeat (first | refine blk_drewN ?_ _ | refine blk_drew ?_ | refine blk_alloc ?_ _)); exact BK453.out) NB453_0.out (by simp)); have n4_ := Aside0.mk (KeepBut.trans (by repeat (first | (with_reducible first | exact HK.out | apply KeepBut.set_ | apply keep_drewN | apply keep_drew | apply keep_alloc | refine keep_far ?_ GW439.out _ | refine keep_far ?_ GW440.out _ | refine keep_far ?_ GW453.out _) | exact HK.out)) hk (.inl rfl)); have n5_ := Aside0.mk (hb); have n6_ := Aside0.mk (hi); clear HO_441000; clear BK439; clear BK440; clear BK453; clear HK; clear HB; clear HI0; have HO_441000 := n0_; have BK439 := n1_; have BK440 := n2_; have BK453 := n3_; have HK := n4_; have HB := n5_; have HI0 := n6_; clear n0_ n1_ n2_ n3_ n4_ n5_ n6_; (try clear hb); (try clear hb2); (try clear hk); (try clear hi); have hcz28_0 : w27.cell? ⟨gb453, 0, none⟩ = some (.int .i64 (-1)) := (blk_cell BK453.out 0).trans rfl; have hcz28_1 : w27.cell? ⟨gb453, 1, none⟩ = some (.int .i64 (-1)) := (blk_cell BK453.out 1).trans rfl; have hfz28_0 := blk_frozen BK453.out 0; have hfz28_1 := blk_frozen BK453.out 1; have hnb29 := NB440_439.out; have hnc29 := NB439_440.out; have hnb30 := NB440_0.out; have hnc30 := NB0_440.out; have hcz31_0 : w27.cell? ⟨gb440, 0, none⟩ = some (u441000) := (blk_cell BK440.out 0).trans rfl; have hcz31_1 : w27.cell? ⟨gb440, 1, none⟩ = some (.slice none 0 0) := (blk_cell BK440.out 1).trans rfl; have hfz31_0 := blk_frozen BK440.out 0; have hfz31_1 := blk_frozen BK440.out 1) | ((with_reducible refine gate_builtin (b := .append) (xs := #[.tmp 32, .tmp 34]) rfl ?_); at_builtin; refine Kd.R_append k88 w.heap.size rfl (.tmp 32) (.tmp 34) 52 88 (.agg #[(.int .i64 0), (.int .i64 0)]) 16 rfl Try.underlying52 info88 rfl (by decide) (by omega) u441000 x441000_2 (⟨t454, (-1)⟩ : S88) [.int .i64 t454, .int .i64 (-1)] (fun k_ => k_ ≠ gb453) (fun _ => False) rfl (by first | (go_simp; done) | (go_simp; rfl)) ?aP (fun _ hk => hk.elim) ?aF ?aO (Below.refl _ _) ?aS ?aL ?_; (case aP => exact k88_mkM _ _ _ (⟨t454, (-1)⟩ : S88)); (case aF => exact (fun k_ hk => Kd.freshB (g := gb453) (o := .cells #[.int .i64 t454, .int .i64 (-1)] 88 (0, 0)) (by (with_reducible repeat (first | refine blk_drewN ?_ _ | refine blk_drew ?_ | refine blk_alloc ?_ _)); refine blk_put (cs := #[.int .i64 (-1), .int .i64 (-1)]) ?_ 0 _ rfl; (with_reducible repeat (first | refine blk_drewN ?_ _ | refine blk_drew ?_ | refine blk_alloc ?_ _)); exact BK453.out) k_ hk)); (case aO => exact (by (with_reducible repeat (first | apply Kd.R_alloc | apply Kd.R_drewN | apply Kd.R_drew)); exact Kd.R_mono (Kd.R_far (p := ⟨gb453, 0, none⟩) (Kd.R_mono HO_441000.out (fun k_ hk => (⟨hk, hk.2⟩ : _ ∧ k_ ≠ gb453))) (fun _ hk => hk.2) (.int .i64 t454)) (fun _ hk => hk.1.2))); (case aS => exact (keep_size (w := w) (g := g) (row := none) (by repeat (first | (with_reducible first | exact HK.out | apply KeepBut.set_ | apply keep_drewN | apply keep_drew | apply keep_alloc | refine keep_far ?_ GW439.out _ | refine keep_far ?_ GW440.out _ | refine keep_far ?_ GW453.out _) | exact HK.out)))); (case aL => have := LMc21.out; omega); intro v458 w32 ho hb hg hat; rw [← Ny457.out] at ho; have n0_ := Aside0.mk (blk_grown (g := gb439) (o := .cells #[.slice none 0 0, .slice none 0 0] 55 (0, 0)) (by (with_reducible repeat (first | refine blk_drewN ?_ _ | refine blk_drew ?_ | refine blk_alloc ?_ _)); refine blk_far ?_ NB439_453.out _; (with_reducible repeat (first | refine blk_drewN ?_ _ | refine blk_drew ?_ | refine blk_alloc ?_ _)); exact BK439.out) hg (Kd.R_ne HO_441000.out BK439.out (by decide))); have n1_ := Aside0.mk (blk_grown (g := gb440) (o := .cells #[u441000, .slice none 0 0] 55 (0, 0)) (by (with_reducible repeat (first | refine blk_drewN ?_ _ | refine blk_drew ?_ | refine blk_alloc ?_ _)); refine blk_far ?_ NB440_453.out _; (with_reducible repeat (first | refine blk_drewN ?_ _ | refine blk_drew ?_ | refine blk_alloc ?_ _)); exact BK440.out) hg (Kd.R_ne HO_441000.out BK440.out (by decide))); have n2_ := Aside0.mk (show IsS78 w0 w32 g s0_0 t455 t456 from IsS78.grown (by repeat (first | (with_reducible first | exact HI0.out | apply IsS78.alloc | refine IsS78.far ?_ NB0_453.out _) | exact HI0.out)) hg (IsS78.own_ne HI0.out HO_441000.out (by decide))); have n3_ := Aside0.mk (blk_grown (g := gb453) (o := .cells #[.int .i64 t454, .int .i64 (-1)] 88 (0, 0)) (by (with_reducible repeat (first | refine blk_drewN ?_ _ | refine blk_drew ?_ | refine blk_alloc ?_ _)); refine blk_put (cs := #[.int .i64 (-1), .int .i64 (-1)]) ?_ 0 _ rfl; (with_reducible repeat (first | refine blk_drewN ?_ _ | refine blk_drew ?_ | refine blk_alloc ?_ _)); exact BK453.out) hg (Kd.R_away HO_441000.out (fun _ hk => hk.2))); have n4_ := Aside0.mk (below_weaken (by repeat (first | (with_reducible first | exact HB.out | apply below_alloc | apply pw_below_drewN | apply below_drew1 | refine below_set ?_ (IsS78.ge HI0.out) | refine below_set ?_ GE439.out | refine below_set ?_ GE440.out | refine below_set ?_ GE453.out) | exact HB.out)) HL.out hb); have n5_ := Aside0.mk (KeepBut.trans (by repeat (first | (with_reducible first | exact HK.out | apply KeepBut.set_ | apply keep_drewN | apply keep_drew | apply keep_alloc | refine keep_far ?_ GW439.out _ | refine keep_far ?_ GW440.out _ | refine keep_far ?_ GW453.out _) | exact HK.out)) (KeepBut.of_grown hg g) (Kd.R_base2 HO_441000.out)); have n6_ := Aside0.mk (ho); clear BK439; clear BK440; clear HI0; clear BK453; clear HB; clear HK; clear HO_441000; have BK439 := n0_; have BK440 := n1_; have HI0 := n2_; have BK453 := n3_; have HB := n4_; have HK := n5_; have HO459 := n6_; clear n0_ n1_ n2_ n3_ n4_ n5_ n6_; clear ho hb hg hat; obtain ⟨Ao33, co33, eo33⟩ := Kd.R_slice HO459.out; subst eo33; have hcz34_0 : w32.cell? ⟨gb440, 0, none⟩ = some (u441000) := (blk_cell BK440.out 0).trans rfl; have hcz34_1 : w32.cell? ⟨gb440, 1, none⟩ = some (.slice none 0 0) := (blk_cell BK440.out 1).trans rfl; have hfz34_0 := blk_frozen BK440.out 0; have hfz34_1 := blk_frozen BK440.out 1))
         go_roundg k2
         case measure => have := HJ3.out; have := HK2.out; omega
         case rel => exact ⟨(wrap64 (x5_2 + 1)), (t455), (t456), (y457), (.slice Ao33 y457.length co33), es_, H', ⟨by have := HJ3.out; have := HK2.out; omega⟩, ⟨by (with_reducible repeat (first | apply Kd.R_alloc | apply Kd.R_drewN | apply Kd.R_drew)); exact Kd.R_mono (Kd.R_far (p := ⟨gb440, 0, none⟩) (Kd.R_types HO459.out BK440.out (by decide)) (fun _ hk => hk.2) (.slice Ao33 y457.length co33)) (fun _ hk => trivial)⟩, ⟨by (with_reducible repeat (first | refine blk_drewN ?_ _ | refine blk_drew ?_ | refine blk_alloc ?_ _)); refine blk_far ?_ NB439_440.out _; (with_reducible repeat (first | refine blk_drewN ?_ _ | refine blk_drew ?_ | refine blk_alloc ?_ _)); exact BK439.out⟩, ⟨by (with_reducible repeat (first | refine blk_drewN ?_ _ | refine blk_drew ?_ | refine blk_alloc ?_ _)); refine blk_put (cs := #[u441000, .slice none 0 0]) ?_ 0 _ rfl; (with_reducible repeat (first | refine blk_drewN ?_ _ | refine blk_drew ?_ | refine blk_alloc ?_ _)); exact BK440.out⟩, ⟨by repeat (first | (with_reducible first | exact HI0.out | apply IsS78.alloc | apply IsS78.drewN | apply IsS78.drew | apply IsS78.set_1 | apply IsS78.set_2 | refine IsS78.far ?_ NB0_439.out _ | refine IsS78.far ?_ NB0_440.out _ | refine IsS78.far ?_ NB0_453.out _) | exact HI0.out)⟩, ⟨by repeat (first | (with_reducible first | exact HK.out | apply KeepBut.set_ | apply keep_drewN | apply keep_drew | apply keep_alloc | refine keep_far ?_ GW439.out _ | refine keep_far ?_ GW440.out _ | refine keep_far ?_ GW453.out _) | exact HK.out)⟩, ⟨by repeat (first | (with_reducible first | exact HB.out | apply below_alloc | apply pw_below_drewN | apply below_drew1 | refine below_set ?_ (IsS78.ge HI0.out) | refine below_set ?_ GE439.out | refine below_set ?_ GE440.out | refine below_set ?_ GE453.out) | exact HB.out)⟩⟩
        ·rw [if_neg c21] at H
         exact absurd H (by simp)
       ·rw [if_neg c19] at H
        have c19b0 : decide (0 < x5_2) = false := decide_eq_false c19
        clear c19
        by_cases c35 : x441000_2.length < 8796093022208
        ·rw [if_pos c35] at H
         have LMc35 := Aside0.mk c35
         clear c35
         obtain ⟨y460, hy460⟩ : ∃ y_ : List (S88), y_ = (x441000_2 ++ [(⟨(-1), (-1)⟩ : S88)]) := ⟨_, rfl⟩
         replace H : (spec_l1Cur_chart.l0 k2 x4_3 (wrap64 (x5_2 + 1)) s0_0 x1001_2 x1002_2 y460) = some (r1, r2, r3, r4) := by first | (rw [hy460]; with_reducible exact H) | (have H2_ := (Option.bind_some _ _).symm.trans H; rw [hy460]; with_reducible exact H2_) | (have H2_ := (Option.bind_some _ _).symm.trans H; with_reducible exact H2_) | with_reducible exact H | (rw [hy460]; exact H) | exact H
         have Ny460 := Aside0.mk hy460
         clear hy460
         have H' := Aside0.mk H
         clear H
         go_wp2_with (first | ((with_reducible refine gate_dst (N := 6) rfl ?_); refine box_event ?hg (N := 6) ?hd (cs := #[.int .i64 0, .int .i64 0]) (t := 88) ?hr ?_; (case hd => rfl); (case hg => rfl); (case hr => first | (go_simp; done) | (go_simp; rfl)); intro gb453 hg w36 hbox hb; have n0_ := Aside0.mk (Kd.R_below (Kd.R_elderB (ra_ HO_441000.out) gb453 (Nat.le_of_eq hg.symm)) hb); have n1_ := bb_ BK439 hb; have n2_ := bb_ BK440 hb; have n3_ := Aside0.mk (IsS78.below (by repeat (first | (with_reducible first | exact HI0.out | apply IsS78.alloc | apply IsS78.drewN | apply IsS78.drew | apply IsS78.set_1 | apply IsS78.set_2 | refine IsS78.far ?_ NB0_439.out _ | refine IsS78.far ?_ NB0_440.out _) | exact HI0.out)) hb); have n4_ := Aside0.mk (KeepBut.trans (by repeat (first | (with_reducible first | exact HK.out | apply KeepBut.set_ | apply keep_drewN | apply keep_drew | apply keep_alloc | refine keep_far ?_ GW439.out _ | refine keep_far ?_ GW440.out _) | exact HK.out)) (KeepBut.of_below hb g none) (.inl rfl)); have n5_ := Aside0.mk (below_step (by repeat (first | (with_reducible first | exact HB.out | apply below_alloc | apply pw_below_drewN | apply below_drew1 | refine below_set ?_ (IsS78.ge HI0.out) | refine below_set ?_ GE439.out | refine below_set ?_ GE440.out) | exact HB.out)) hb); have n6_ := Aside0.mk (hbox); have n7_ := Aside0.mk ((by rw [hg]; exact (keep_size (w := w) (g := g) (row := none) (by repeat (first | (with_reducible first | exact HK.out | apply KeepBut.set_ | apply keep_drewN | apply keep_drew | apply keep_alloc | refine keep_far ?_ GW439.out _ | refine keep_far ?_ GW440.out _) | exact HK.out))) : w.heap.size ≤ gb453)); have n8_ := Aside0.mk ((Nat.le_trans HW0.out (by rw [hg]; exact (keep_size (w := w) (g := g) (row := none) (by repeat (first | (with_reducible first | exact HK.out | apply KeepBut.set_ | apply keep_drewN | apply keep_drew | apply keep_alloc | refine keep_far ?_ GW439.out _ | refine keep_far ?_ GW440.out _) | exact HK.out))) : w.heap.size ≤ gb453) : w0.heap.size ≤ gb453)); have n9_ := Aside0.mk ((by rw [hg]; exact Nat.ne_of_lt (blk_lt (g := gb439) (o := .cells #[.slice none 0 0, .slice none 0 0] 55 (0, 0)) (bk_ BK439.out)) : gb439 ≠ gb453)); have n10_ := Aside0.mk ((by rw [hg]; exact Nat.ne_of_gt (blk_lt (g := gb439) (o := .cells #[.slice none 0 0, .slice none 0 0] 55 (0, 0)) (bk_ BK439.out)) : gb453 ≠ gb439)); have n11_ := Aside0.mk ((by rw [hg]; exact Nat.ne_of_lt (blk_lt (g := gb440) (o := .cells #[u441000, .slice none 0 0] 55 (0, 0)) (bk_ BK440.out)) : gb440 ≠ gb453)); have n12_ := Aside0.mk ((by rw [hg]; exact Nat.ne_of_gt (blk_lt (g := gb440) (o := .cells #[u441000, .slice none 0 0] 55 (0, 0)) (bk_ BK440.out)) : gb453 ≠ gb440)); have n13_ := Aside0.mk ((by rw [hg]; exact Nat.ne_of_lt (IsS78.lt (show IsS78 w0 _ g s0_0 x1001_2 x1002_2 from by repeat (first | (with_reducible first | exact HI0.out | apply IsS78.alloc | apply IsS78.drewN | apply IsS78.drew | apply IsS78.set_1 | apply IsS78.set_2 | refine IsS78.far ?_ NB0_439.out _ | refine IsS78.far ?_ NB0_440.out _) | exact HI0.out))) : g ≠ gb453)); have n14_ := Aside0.mk ((by rw [hg]; exact Nat.ne_of_gt (IsS78.lt (show IsS78 w0 _ g s0_0 x1001_2 x1002_2 from by repeat (first | (with_reducible first | exact HI0.out | apply IsS78.alloc | apply IsS78.drewN | apply IsS78.drew | apply IsS78.set_1 | apply IsS78.set_2 | refine IsS78.far ?_ NB0_439.out _ | refine IsS78.far ?_ NB0_440.out _) | exact HI0.out))) : gb453 ≠ g)); clear HO_441000; clear BK439; clear BK440; clear HI0; clear HK; clear HB; have HO_441000 := n0_; have BK439 := n1_; have BK440 := n2_; have HI0 := n3_; have HK := n4_; have HB := n5_; have BK453 := n6_; have GW453 := n7_; have GE453 := n8_; have NB439_453 := n9_; have NB453_439 := n10_; have NB440_453 := n11_; have NB453_440 := n12_; have NB0_453 := n13_; have NB453_0 := n14_; clear n0_ n1_ n2_ n3_ n4_ n5_ n6_ n7_ n8_ n9_ n10_ n11_ n12_ n13_ n14_; clear hb hbox hg; have hnb37 := NB453_439.out; have hnc37 := NB439_453.out; have hnb38 := NB453_440.out; have hnc38 := NB440_453.out; have hnb39 := NB453_0.out; have hnc39 := NB0_453.out; have hcz40_0 : w36.cell? ⟨gb453, 0, none⟩ = some (.int .i64 0) := (blk_cell BK453.out 0).trans rfl; have hcz40_1 : w36.cell? ⟨gb453, 1, none⟩ = some (.int .i64 0) := (blk_cell BK453.out 1).trans rfl; have hfz40_0 := blk_frozen BK453.out 0; have hfz40_1 := blk_frozen BK453.out 1; have hnb41 := NB440_439.out; have hnc41 := NB439_440.out; have hnb42 := NB440_0.out; have hnc42 := NB0_440.out; have hcz43_0 : w36.cell? ⟨gb440, 0, none⟩ = some (u441000) := (blk_cell BK440.out 0).trans rfl; have hcz43_1 : w36.cell? ⟨gb440, 1, none⟩ = some (.slice none 0 0) := (blk_cell BK440.out 1).trans rfl; have hfz43_0 := blk_frozen BK440.out 0; have hfz43_1 := blk_frozen BK440.out 1) | ((with_reducible refine gate_builtin (b := .append) (xs := #[.tmp 32, .tmp 34]) rfl ?_); at_builtin; refine Kd.R_append k88 w.heap.size rfl (.tmp 32) (.tmp 34) 52 88 (.agg #[(.int .i64 0), (.int .i64 0)]) 16 rfl Try.underlying52 info88 rfl (by decide) (by omega) u441000 x441000_2 (⟨(-1), (-1)⟩ : S88) [.int .i64 (-1), .int .i64 (-1)] (fun k_ => k_ ≠ gb453) (fun _ => False) rfl (by first | (go_simp; done) | (go_simp; rfl)) ?aP (fun _ hk => hk.elim) ?aF ?aO (Below.refl _ _) ?aS ?aL ?_; (case aP => exact k88_mkM _ _ _ (⟨(-1), (-1)⟩ : S88)); (case aF => exact (fun k_ hk => Kd.freshB (g := gb453) (o := .cells #[.int .i64 (-1), .int .i64 (-1)] 88 (0, 0)) (by (with_reducible repeat (first | refine blk_drewN ?_ _ | refine blk_drew ?_ | refine blk_alloc ?_ _)); refine blk_put (cs := #[.int .i64 (-1), .int .i64 0]) ?_ 1 _ rfl; (with_reducible repeat (first | refine blk_drewN ?_ _ | refine blk_drew ?_ | refine blk_alloc ?_ _)); refine blk_put (cs := #[.int .i64 0, .int .i64 0]) ?_ 0 _ rfl; (with_reducible repeat (first | refine blk_drewN ?_ _ | refine blk_drew ?_ | refine blk_alloc ?_ _)); exact BK453.out) k_ hk)); (case aO => exact (by (with_reducible repeat (first | apply Kd.R_alloc | apply Kd.R_drewN | apply Kd.R_drew)); exact Kd.R_mono (Kd.R_far (p := ⟨gb453, 1, none⟩) (Kd.R_far (p := ⟨gb453, 0, none⟩) (Kd.R_mono HO_441000.out (fun k_ hk => (⟨hk, hk.2⟩ : _ ∧ k_ ≠ gb453))) (fun _ hk => hk.2) (.int .i64 (-1))) (fun _ hk => hk.2) (.int .i64 (-1))) (fun _ hk => hk.1.2))); (case aS => exact (keep_size (w := w) (g := g) (row := none) (by repeat (first | (with_reducible first | exact HK.out | apply KeepBut.set_ | apply keep_drewN | apply keep_drew | apply keep_alloc | refine keep_far ?_ GW439.out _ | refine keep_far ?_ GW440.out _ | refine keep_far ?_ GW453.out _) | exact HK.out)))); (case aL => have := LMc35.out; omega); intro v461 w44 ho hb hg hat; rw [← Ny460.out] at ho; have n0_ := Aside0.mk (blk_grown (g := gb439) (o := .cells #[.slice none 0 0, .slice none 0 0] 55 (0, 0)) (by (with_reducible repeat (first | refine blk_drewN ?_ _ | refine blk_drew ?_ | refine blk_alloc ?_ _)); refine blk_far ?_ NB439_453.out _; (with_reducible repeat (first | refine blk_drewN ?_ _ | refine blk_drew ?_ | refine blk_alloc ?_ _)); refine blk_far ?_ NB439_453.out _; (with_reducible repeat (first | refine blk_drewN ?_ _ | refine blk_drew ?_ | refine blk_alloc ?_ _)); exact BK439.out) hg (Kd.R_ne HO_441000.out BK439.out (by decide))); have n1_ := Aside0.mk (blk_grown (g := gb440) (o := .cells #[u441000, .slice none 0 0] 55 (0, 0)) (by (with_reducible repeat (first | refine blk_drewN ?_ _ | refine blk_drew ?_ | refine blk_alloc ?_ _)); refine blk_far ?_ NB440_453.out _; (with_reducible repeat (first | refine blk_drewN ?_ _ | refine blk_drew ?_ | refine blk_alloc ?_ _)); refine blk_far ?_ NB440_453.out _; (with_reducible repeat (first | refine blk_drewN ?_ _ | refine blk_drew ?_ | refine blk_alloc ?_ _)); exact BK440.out) hg (Kd.R_ne HO_441000.out BK440.out (by decide))); have n2_ := Aside0.mk (show IsS78 w0 w44 g s0_0 x1001_2 x1002_2 from IsS78.grown (by repeat (first | (with_reducible first | exact HI0.out | apply IsS78.alloc | refine IsS78.far ?_ NB0_453.out _) | exact HI0.out)) hg (IsS78.own_ne HI0.out HO_441000.out (by decide))); have n3_ := Aside0.mk (blk_grown (g := gb453) (o := .cells #[.int .i64 (-1), .int .i64 (-1)] 88 (0, 0)) (by (with_reducible repeat (first | refine blk_drewN ?_ _ | refine blk_drew ?_ | refine blk_alloc ?_ _)); refine blk_put (cs := #[.int .i64 (-1), .int .i64 0]) ?_ 1 _ rfl; (with_reducible repeat (first | refine blk_drewN ?_ _ | refine blk_drew ?_ | refine blk_alloc ?_ _)); refine blk_put (cs := #[.int .i64 0, .int .i64 0]) ?_ 0 _ rfl; (with_reducible repeat (first | refine blk_drewN ?_ _ | refine blk_drew ?_ | refine blk_alloc ?_ _)); exact BK453.out) hg (Kd.R_away HO_441000.out (fun _ hk => hk.2))); have n4_ := Aside0.mk (below_weaken (by repeat (first | (with_reducible first | exact HB.out | apply below_alloc | apply pw_below_drewN | apply below_drew1 | refine below_set ?_ (IsS78.ge HI0.out) | refine below_set ?_ GE439.out | refine below_set ?_ GE440.out | refine below_set ?_ GE453.out) | exact HB.out)) HL.out hb); have n5_ := Aside0.mk (KeepBut.trans (by repeat (first | (with_reducible first | exact HK.out | apply KeepBut.set_ | apply keep_drewN | apply keep_drew | apply keep_alloc | refine keep_far ?_ GW439.out _ | refine keep_far ?_ GW440.out _ | refine keep_far ?_ GW453.out _) | exact HK.out)) (KeepBut.of_grown hg g) (Kd.R_base2 HO_441000.out)); have n6_ := Aside0.mk (ho); clear BK439; clear BK440; clear HI0; clear BK453; clear HB; clear HK; clear HO_441000; have BK439 := n0_; have BK440 := n1_; have HI0 := n2_; have BK453 := n3_; have HB := n4_; have HK := n5_; have HO462 := n6_; clear n0_ n1_ n2_ n3_ n4_ n5_ n6_; clear ho hb hg hat; obtain ⟨Ao45, co45, eo45⟩ := Kd.R_slice HO462.out; subst eo45; have hcz46_0 : w44.cell? ⟨gb440, 0, none⟩ = some (u441000) := (blk_cell BK440.out 0).trans rfl; have hcz46_1 : w44.cell? ⟨gb440, 1, none⟩ = some (.slice none 0 0) := (blk_cell BK440.out 1).trans rfl; have hfz46_0 := blk_frozen BK440.out 0; have hfz46_1 := blk_frozen BK440.out 1))
         go_roundg k2
         case measure => have := HJ3.out; have := HK2.out; omega
         case rel => exact ⟨(wrap64 (x5_2 + 1)), (x1001_2), (x1002_2), (y460), (.slice Ao45 y460.length co45), es_, H', ⟨by have := HJ3.out; have := HK2.out; omega⟩, ⟨by (with_reducible repeat (first | apply Kd.R_alloc | apply Kd.R_drewN | apply Kd.R_drew)); exact Kd.R_mono (Kd.R_far (p := ⟨gb440, 0, none⟩) (Kd.R_types HO462.out BK440.out (by decide)) (fun _ hk => hk.2) (.slice Ao45 y460.length co45)) (fun _ hk => trivial)⟩, ⟨by (with_reducible repeat (first | refine blk_drewN ?_ _ | refine blk_drew ?_ | refine blk_alloc ?_ _)); refine blk_far ?_ NB439_440.out _; (with_reducible repeat (first | refine blk_drewN ?_ _ | refine blk_drew ?_ | refine blk_alloc ?_ _)); exact BK439.out⟩, ⟨by (with_reducible repeat (first | refine blk_drewN ?_ _ | refine blk_drew ?_ | refine blk_alloc ?_ _)); refine blk_put (cs := #[u441000, .slice none 0 0]) ?_ 0 _ rfl; (with_reducible repeat (first | refine blk_drewN ?_ _ | refine blk_drew ?_ | refine blk_alloc ?_ _)); exact BK440.out⟩, ⟨by repeat (first | (with_reducible first | exact HI0.out | apply IsS78.alloc | apply IsS78.drewN | apply IsS78.drew | apply IsS78.set_1 | apply IsS78.set_2 | refine IsS78.far ?_ NB0_439.out _ | refine IsS78.far ?_ NB0_440.out _ | refine IsS78.far ?_ NB0_453.out _) | exact HI0.out)⟩, ⟨by repeat (first | (with_reducible first | exact HK.out | apply KeepBut.set_ | apply keep_drewN | apply keep_drew | apply keep_alloc | refine keep_far ?_ GW439.out _ | refine keep_far ?_ GW440.out _ | refine keep_far ?_ GW453.out _) | exact HK.out)⟩, ⟨by repeat (first | (with_reducible first | exact HB.out | apply below_alloc | apply pw_below_drewN | apply below_drew1 | refine below_set ?_ (IsS78.ge HI0.out) | refine below_set ?_ GE439.out | refine below_set ?_ GE440.out | refine below_set ?_ GE453.out) | exact HB.out)⟩⟩
        ·rw [if_neg c35] at H
         exact absurd H (by simp)
      ·rw [if_neg c18] at H
       have c18b0 : decide (x5_2 < x4_3) = false := decide_eq_false c18
       clear c18
       have H' := Aside0.mk H
       clear H
       go_wp2
       go_loopg [7] k2 (fun kq v7 w' => ∃ (x7_3 : Int) (x1001_3 : Int) (x1002_3 : Int) (x441000_3 : List (S88)) (u441000 : Value), v7 = .int .i64 x7_3 ∧ Aside0 (spec_l1Cur_chart.l1 kq x4_3 x7_3 s0_0 x1001_3 x1002_3 x441000_3 = some (r1, r2, r3, r4)) ∧ Aside0 (kq ≤ k2) ∧ Aside0 (Kd.R k88 88 w' w.heap.size (fun _ => True) u441000 x441000_3) ∧ Aside0 (w'.heap[gb439]? = some (.cells #[(.slice none 0 0), (.slice none 0 0)] 55 (0, 0))) ∧ Aside0 (w'.heap[gb440]? = some (.cells #[u441000, (.slice none 0 0)] 55 (0, 0))) ∧ Aside0 (IsS78 w0 w' g s0_0 x1001_3 x1002_3) ∧ Aside0 (KeepBut w w' g none) ∧ Aside0 (Below w0.heap.size w0 w'))
       case atStart => exact ⟨(1), (x1001_2), (x1002_2), (x441000_2), (u441000), es_, H', ⟨Nat.le_refl _⟩, ⟨ra_ HO_441000.out⟩, ⟨bk_ BK439.out⟩, ⟨bk_ BK440.out⟩, ⟨by repeat (first | (with_reducible first | exact HI0.out | apply IsS78.alloc | apply IsS78.drewN | apply IsS78.drew | apply IsS78.set_1 | apply IsS78.set_2 | refine IsS78.far ?_ NB0_439.out _ | refine IsS78.far ?_ NB0_440.out _) | exact HI0.out)⟩, ⟨by repeat (first | (with_reducible first | exact HK.out | apply KeepBut.set_ | apply keep_drewN | apply keep_drew | apply keep_alloc | refine keep_far ?_ GW439.out _ | refine keep_far ?_ GW440.out _) | exact HK.out)⟩, ⟨by repeat (first | (with_reducible first | exact HB.out | apply below_alloc | apply pw_below_drewN | apply below_drew1 | refine below_set ?_ (IsS78.ge HI0.out) | refine below_set ?_ GE439.out | refine below_set ?_ GE440.out) | exact HB.out)⟩⟩
       case round =>
        clear H'
        try clear c1
        try clear c2
        try clear p2
        try clear c3
        try clear c4
        try clear c5
        try clear p6
        try clear c7
        try clear c8
        try clear c12
        try clear c18
        try clear c18b0
        try clear c19
        try clear c19b0
        try clear c21
        try clear c23
        try clear c24
        try clear c25
        try clear c29
        try clear c30
        try clear c35
        try clear c37
        try clear c38
        try clear c39
        try clear c41
        try clear c42
        try clear hcz26_0
        try clear hcz26_1
        try clear hcz28_0
        try clear hcz28_1
        try clear hcz31_0
        try clear hcz31_1
        try clear hcz34_0
        try clear hcz34_1
        try clear hcz40_0
        try clear hcz40_1
        try clear hcz43_0
        try clear hcz43_1
        try clear hcz46_0
        try clear hcz46_1
        try clear hcz9_0
        try clear hcz9_1
        try clear hfz26_0
        try clear hfz26_1
        try clear hfz28_0
        try clear hfz28_1
        try clear hfz31_0
        try clear hfz31_1
        try clear hfz34_0
        try clear hfz34_1
        try clear hfz40_0
        try clear hfz40_1
        try clear hfz43_0
        try clear hfz43_1
        try clear hfz46_0
        try clear hfz46_1
        try clear hfz9_0
        try clear hfz9_1
        try clear p2
        try clear p6
        obtain ⟨x7_3, x1001_3, x1002_3, x441000_3, u441000, rfl, HA, HK3, HO_441000, BK439, BK440, HI0, HK, HB⟩ := hrel
        cases gk with
        | zero => exact absurd HA.out (by simp [spec_l1Cur_chart.l1])
        | succ k3 =>
         have H := HA.out
         clear HA
         simp only [spec_l1Cur_chart.l1] at H
         by_cases c47 : x7_3 < x4_3
         ·rw [if_pos c47] at H
          have c47b0 : decide (x7_3 < x4_3) = true := decide_eq_true c47
          clear c47
          by_cases c48 : 0 ≤ x7_3
          ·rw [if_pos c48] at H
           have c48b0 : decide (0 ≤ x7_3) = true := decide_eq_true c48
           clear c48
           by_cases c49 : x7_3 < (x441000_3.length : Int)
           ·rw [if_pos c49] at H
            have c49b0 : decide (x7_3 < (x441000_3.length : Int)) = true := decide_eq_true c49
            clear c49
            by_cases c50 : 0 ≤ ((rd_T88 x441000_3 x7_3).f0)
            ·rw [if_pos c50] at H
             have c50b0 : decide (0 ≤ ((rd_T88 x441000_3 x7_3).f0)) = true := decide_eq_true c50
             clear c50
             by_cases c51 : ((rd_T88 x441000_3 x7_3).f0) < (x441000_3.length : Int)
             ·rw [if_pos c51] at H
              have c51b0 : decide (((rd_T88 x441000_3 x7_3).f0) < (x441000_3.length : Int)) = true := decide_eq_true c51
              clear c51
              by_cases c52 : ((rd_T88 x441000_3 ((rd_T88 x441000_3 x7_3).f0)).f1) < 0
              ·rw [if_pos c52] at H
               have c52b0 : decide (((rd_T88 x441000_3 ((rd_T88 x441000_3 x7_3).f0)).f1) < 0) = true := decide_eq_true c52
               clear c52
               obtain ⟨y465, hy465⟩ : ∃ y_ : List (S88), y_ = (x441000_3.set (((rd_T88 x441000_3 x7_3).f0) : Int).toNat (⟨(rd_T88 x441000_3 ((rd_T88 x441000_3 x7_3).f0)).f0, x7_3⟩ : S88)) := ⟨_, rfl⟩
               replace H : (spec_l1Cur_chart.l1 k3 x4_3 (wrap64 (x7_3 + 1)) s0_0 x1001_3 x1002_3 y465) = some (r1, r2, r3, r4) := by first | (rw [hy465]; with_reducible exact H) | (have H2_ := (Option.bind_some _ _).symm.trans H; rw [hy465]; with_reducible exact H2_) | (have H2_ := (Option.bind_some _ _).symm.trans H; with_reducible exact H2_) | with_reducible exact H | (rw [hy465]; exact H) | exact H
               have Ny465 := Aside0.mk hy465
               clear hy465
               have H' := Aside0.mk H
               clear H
               have hnb54 := NB440_439.out
               have hnc54 := NB439_440.out
               have hnb55 := NB440_0.out
               have hnc55 := NB0_440.out
               have hcz56_0 : wr.cell? ⟨gb440, 0, none⟩ = some (u441000) := (blk_cell BK440.out 0).trans rfl
               have hcz56_1 : wr.cell? ⟨gb440, 1, none⟩ = some (.slice none 0 0) := (blk_cell BK440.out 1).trans rfl
               have hfz56_0 := blk_frozen BK440.out 0
               have hfz56_1 := blk_frozen BK440.out 1
               obtain ⟨Ao57, co57, eo57⟩ := Kd.R_slice HO_441000.out
               subst eo57
               have p463 : 0 ≤ (x7_3 : Int) := of_decide_eq_true as_
               have q463 : x7_3 < (x441000_3.length : Int) := of_decide_eq_true as_
               obtain ⟨ad463, e463, hx463_0, hx463_1⟩ := at_T88 (Kd.R_reads' HO_441000.out).2.2 x7_3 p463 q463
               cases e463
               replace p463 := eq_true p463
               replace q463 := eq_true q463
               have p464 : 0 ≤ (((rd_T88 x441000_3 x7_3).f0) : Int) := of_decide_eq_true as_
               have q464 : ((rd_T88 x441000_3 x7_3).f0) < (x441000_3.length : Int) := of_decide_eq_true as_
               obtain ⟨ad464, e464, hx464_0, hx464_1⟩ := at_T88 (Kd.R_reads' HO_441000.out).2.2 ((rd_T88 x441000_3 x7_3).f0) p464 q464
               obtain rfl : ad463 = ad464 := (by injection e464)
               replace p464 := eq_true p464
               replace q464 := eq_true q464
               have p53 : 0 ≤ (((rd_T88 x441000_3 x7_3).f0) : Int) := of_decide_eq_true as_
               have q53 : (((rd_T88 x441000_3 x7_3).f0) : Int) < ((x441000_3.length : Int) : Int) := of_decide_eq_true as_
               obtain ⟨go53, co53, eo53, gb53, gl53, cl53, HG53⟩ := Kd.R_form HO_441000.out (by omega)
               (first | cases eo53 | (injection eo53 with ea_ en_ ec_; (first | subst ea_ | (injection ea_ with ea_; subst ea_)); subst ec_; clear en_))
               have GB53 := Aside0.mk gb53
               have GG53 := Aside0.mk HG53
               clear gb53 gl53 HG53
               (first | simp only [add_plain] at hx463_0 | skip)
               (first | simp only [add_plain] at hx463_1 | skip)
               (first | simp only [add_plain] at hx464_0 | skip)
               (first | simp only [add_plain] at hx464_1 | skip)
               obtain ⟨ce53, hcl53, hM53, hcc53, hfr53⟩ := Kd.R_elem HO_441000.out z88 (((rd_T88 x441000_3 x7_3).f0) : Int) p53 q53
               obtain rfl := k88_openM hM53
               have hx53_0 : wr.cell? ⟨go53, (((rd_T88 x441000_3 x7_3).f0) : Int).toNat * 2, none⟩ = some (.int .i64 ((rd_T88 x441000_3 ((rd_T88 x441000_3 x7_3).f0)).f0)) := hcc53 0 _ rfl
               have hx53_1 : wr.cell? ⟨go53, (((rd_T88 x441000_3 x7_3).f0) : Int).toNat * 2 + 1, none⟩ = some (.int .i64 ((rd_T88 x441000_3 ((rd_T88 x441000_3 x7_3).f0)).f1)) := hcc53 1 _ rfl
               have hf53_0 : wr.frozen? ⟨go53, (((rd_T88 x441000_3 x7_3).f0) : Int).toNat * 2, none⟩ = false := hfr53 0
               have hf53_1 : wr.frozen? ⟨go53, (((rd_T88 x441000_3 x7_3).f0) : Int).toNat * 2 + 1, none⟩ = false := hfr53 1
               clear hcl53 hcc53 hfr53; (try clear hM53)
               replace p53 := eq_true p53
               replace q53 := eq_true q53
               have HX58 := Aside0.mk (show Kd.R k88 88 wr w.heap.size (fun _ => True) (.slice (some ⟨go53, 0, none⟩) x441000_3.length co57) x441000_3 from (ra_ HO_441000.out))
               obtain ⟨ce58, hcl58, hM58, hcc58, hfr58⟩ := Kd.R_elem HX58.out z88 (((rd_T88 x441000_3 x7_3).f0) : Int) (of_decide_eq_true as_) (by have h_ : (((rd_T88 x441000_3 x7_3).f0) : Int) < ((x441000_3.length : Int) : Int) := of_decide_eq_true as_; first | exact h_ | (have e_ := (Kd.R_reads' HO_441000.out).1; omega) | simpa using h_)
               obtain rfl := k88_openM hM58
               have HP58 := Kd.R_seg HX58.out (((rd_T88 x441000_3 x7_3).f0) : Int) (of_decide_eq_true as_) (by have h_ : (((rd_T88 x441000_3 x7_3).f0) : Int) < ((x441000_3.length : Int) : Int) := of_decide_eq_true as_; first | exact h_ | (have e_ := (Kd.R_reads' HO_441000.out).1; omega) | simpa using h_) (seg := [.int .i64 x7_3]) (j := 1) hcl58 hcc58 (show 2 ≤ 2 from by decide) (x' := (⟨(rd_T88 x441000_3 ((rd_T88 x441000_3 x7_3).f0)).f0, x7_3⟩ : S88)) (k88_mkM _ _ _ (⟨(rd_T88 x441000_3 ((rd_T88 x441000_3 x7_3).f0)).f0, x7_3⟩ : S88) ) (fun _ hk => hk)
               have hx58_1 := hcc58 1 _ rfl
               (try simp only [show (k88).sz = 2 from rfl, Nat.mul_one, Nat.add_zero] at hx58_1)
               have hf58_1 := hfr58 1
               (try simp only [show (k88).sz = 2 from rfl, Nat.mul_one, Nat.add_zero] at hf58_1)
               clear hcl58 hcc58 hfr58; (try clear hM58)
               go_wp2_with (first | ((with_reducible refine gate_store (t := 3) (p := 64) rfl ?_); refine store_event (t := 3) (p := 64) (v := ?vo_w59) (w1 := (wr.setCell ⟨go53, (((rd_T88 x441000_3 x7_3).f0) : Int).toNat * 2 + 1, none⟩ (.int .i64 x7_3))) ?hg ?ho ?hn ?hr ?_; (case ho => rfl); (case hg => rfl); (case hn => rfl); (case hr => first | (go_simp; done) | (go_simp; rfl)); intro w59 hw; have hg : wr.grownBy w59 (some go53) := (by rw [hw]; exact HP58.2); have hp_ : Kd.R k88 88 w59 w.heap.size (fun _ => True) (.slice (some ⟨go53, 0, none⟩) x441000_3.length co57) y465 := (by rw [hw, Ny465.out]; exact HP58.1); clear HP58; have n0_ := Aside0.mk (hp_); have n1_ := Aside0.mk (blk_grown (g := gb439) (o := .cells #[.slice none 0 0, .slice none 0 0] 55 (0, 0)) (bk_ BK439.out) hg (Kd.R_ne HO_441000.out BK439.out (by decide))); have n2_ := Aside0.mk (blk_grown (g := gb440) (o := .cells #[.slice (some ⟨go53, 0, none⟩) x441000_3.length co57, .slice none 0 0] 55 (0, 0)) (bk_ BK440.out) hg (Kd.R_ne HO_441000.out BK440.out (by decide))); have n3_ := Aside0.mk (IsS78.grown (by repeat (first | (with_reducible first | exact HI0.out | apply IsS78.alloc | apply IsS78.drewN | apply IsS78.drew | apply IsS78.set_1 | apply IsS78.set_2 | refine IsS78.far ?_ NB0_439.out _ | refine IsS78.far ?_ NB0_440.out _) | exact HI0.out)) hg (IsS78.own_ne HI0.out HO_441000.out (by decide))); have n4_ := Aside0.mk ((by rw [hw]; exact below_set (HB.out) (Nat.le_trans HL.out GB53.out) : Below w0.heap.size w0 w59)); have n5_ := Aside0.mk (KeepBut.trans (by repeat (first | (with_reducible first | exact HK.out | apply KeepBut.set_ | apply keep_drewN | apply keep_drew | apply keep_alloc | refine keep_far ?_ GW439.out _ | refine keep_far ?_ GW440.out _) | exact HK.out)) (KeepBut.of_grown hg g) (Kd.R_base2 HO_441000.out)); clear HO_441000; clear BK439; clear BK440; clear HI0; clear HB; clear HK; have HO_441000 := n0_; have BK439 := n1_; have BK440 := n2_; have HI0 := n3_; have HB := n4_; have HK := n5_; clear n0_ n1_ n2_ n3_ n4_ n5_; clear hg hw hp_))
               go_roundg k3
               case measure => have := HJ3.out; have := HK2.out; have := HK3.out; omega
               case rel => exact ⟨(wrap64 (x7_3 + 1)), (x1001_3), (x1002_3), (y465), (.slice (some ⟨go53, 0, none⟩) x441000_3.length co57), es_, H', ⟨by have := HJ3.out; have := HK2.out; have := HK3.out; omega⟩, ⟨ra_ HO_441000.out⟩, ⟨bk_ BK439.out⟩, ⟨bk_ BK440.out⟩, ⟨by repeat (first | (with_reducible first | exact HI0.out | apply IsS78.alloc | apply IsS78.drewN | apply IsS78.drew | apply IsS78.set_1 | apply IsS78.set_2 | refine IsS78.far ?_ NB0_439.out _ | refine IsS78.far ?_ NB0_440.out _) | exact HI0.out)⟩, ⟨by repeat (first | (with_reducible first | exact HK.out | apply KeepBut.set_ | apply keep_drewN | apply keep_drew | apply keep_alloc | refine keep_far ?_ GW439.out _ | refine keep_far ?_ GW440.out _) | exact HK.out)⟩, ⟨by repeat (first | (with_reducible first | exact HB.out | apply below_alloc | apply pw_below_drewN | apply below_drew1 | refine below_set ?_ (IsS78.ge HI0.out) | refine below_set ?_ GE439.out | refine below_set ?_ GE440.out) | exact HB.out)⟩⟩
              ·rw [if_neg c52] at H
               have c52b0 : decide (((rd_T88 x441000_3 ((rd_T88 x441000_3 x7_3).f0)).f1) < 0) = false := decide_eq_false c52
               clear c52
               replace H := Option.bind_eq_some_iff.mp H
               obtain ⟨⟨t466, t467, t468⟩, A600, H⟩ := H
               replace H : (if t466 = true then (spec_l1Cur_chart.l1 k3 x4_3 (wrap64 (x7_3 + 1)) s0_0 t467 t468 (x441000_3.set (((rd_T88 x441000_3 x7_3).f0) : Int).toNat (⟨(rd_T88 x441000_3 ((rd_T88 x441000_3 x7_3).f0)).f0, x7_3⟩ : S88))) else (spec_l1Cur_chart.l1 k3 x4_3 (wrap64 (x7_3 + 1)) s0_0 t467 t468 x441000_3)) = some (r1, r2, r3, r4) := H
               have A60 := Aside0.mk A600
               clear A600
               by_cases c61 : t466 = true
               ·subst c61
                rw [if_pos rfl] at H
                obtain ⟨y469, hy469⟩ : ∃ y_ : List (S88), y_ = (x441000_3.set (((rd_T88 x441000_3 x7_3).f0) : Int).toNat (⟨(rd_T88 x441000_3 ((rd_T88 x441000_3 x7_3).f0)).f0, x7_3⟩ : S88)) := ⟨_, rfl⟩
                replace H : (spec_l1Cur_chart.l1 k3 x4_3 (wrap64 (x7_3 + 1)) s0_0 t467 t468 y469) = some (r1, r2, r3, r4) := by first | (rw [hy469]; with_reducible exact H) | (have H2_ := (Option.bind_some _ _).symm.trans H; rw [hy469]; with_reducible exact H2_) | (have H2_ := (Option.bind_some _ _).symm.trans H; with_reducible exact H2_) | with_reducible exact H | (rw [hy469]; exact H) | exact H
                have Ny469 := Aside0.mk hy469
                clear hy469
                have H' := Aside0.mk H
                clear H
                have hnb63 := NB440_439.out
                have hnc63 := NB439_440.out
                have hnb64 := NB440_0.out
                have hnc64 := NB0_440.out
                have hcz65_0 : wr.cell? ⟨gb440, 0, none⟩ = some (u441000) := (blk_cell BK440.out 0).trans rfl
                have hcz65_1 : wr.cell? ⟨gb440, 1, none⟩ = some (.slice none 0 0) := (blk_cell BK440.out 1).trans rfl
                have hfz65_0 := blk_frozen BK440.out 0
                have hfz65_1 := blk_frozen BK440.out 1
                obtain ⟨Ao66, co66, eo66⟩ := Kd.R_slice HO_441000.out
                subst eo66
                have p463 : 0 ≤ (x7_3 : Int) := of_decide_eq_true as_
                have q463 : x7_3 < (x441000_3.length : Int) := of_decide_eq_true as_
                obtain ⟨ad463, e463, hx463_0, hx463_1⟩ := at_T88 (Kd.R_reads' HO_441000.out).2.2 x7_3 p463 q463
                cases e463
                replace p463 := eq_true p463
                replace q463 := eq_true q463
                have p464 : 0 ≤ (((rd_T88 x441000_3 x7_3).f0) : Int) := of_decide_eq_true as_
                have q464 : ((rd_T88 x441000_3 x7_3).f0) < (x441000_3.length : Int) := of_decide_eq_true as_
                obtain ⟨ad464, e464, hx464_0, hx464_1⟩ := at_T88 (Kd.R_reads' HO_441000.out).2.2 ((rd_T88 x441000_3 x7_3).f0) p464 q464
                obtain rfl : ad463 = ad464 := (by injection e464)
                replace p464 := eq_true p464
                replace q464 := eq_true q464
                go_wp2_with (first | (go_at_call 53; (with_reducible refine (spec_l1Cur_one.calls g s0_0 x1001_3 x1002_3 3 true t467 t468 w0 _ ?side1 ?side2 A60.out).mono ?_); (case side1 => repeat (first | (with_reducible first | exact HI0.out | apply IsS78.alloc | apply IsS78.drewN | apply IsS78.drew | apply IsS78.set_1 | apply IsS78.set_2 | refine IsS78.far ?_ NB0_439.out _ | refine IsS78.far ?_ NB0_440.out _) | exact HI0.out)); (case side2 => repeat (first | (with_reducible first | exact HB.out | apply below_alloc | apply pw_below_drewN | apply below_drew1 | refine below_set ?_ (IsS78.ge HI0.out) | refine below_set ?_ GE439.out | refine below_set ?_ GE440.out) | exact HB.out)); rintro e w67 ⟨rfl, hi, hb, hk⟩; have n0_ := Aside0.mk (Kd.R_mono (Kd.R_keep (IsS78.apart (show IsS78 w0 _ g s0_0 x1001_3 x1002_3 from by repeat (first | (with_reducible first | exact HI0.out | apply IsS78.alloc | apply IsS78.drewN | apply IsS78.drew | apply IsS78.set_1 | apply IsS78.set_2 | refine IsS78.far ?_ NB0_439.out _ | refine IsS78.far ?_ NB0_440.out _) | exact HI0.out)) (ra_ HO_441000.out) (by decide)) hk (fun _ h => h.2)) (fun _ h => h.1)); have n1_ := Aside0.mk (KeepBut.blk hk (g' := gb439) (o := .cells #[.slice none 0 0, .slice none 0 0] 55 (0, 0)) (bk_ BK439.out) NB439_0.out (by simp)); have n2_ := Aside0.mk (KeepBut.blk hk (g' := gb440) (o := .cells #[.slice (some ad463) x441000_3.length co66, .slice none 0 0] 55 (0, 0)) (bk_ BK440.out) NB440_0.out (by simp)); have n3_ := Aside0.mk (KeepBut.trans (by repeat (first | (with_reducible first | exact HK.out | apply KeepBut.set_ | apply keep_drewN | apply keep_drew | apply keep_alloc | refine keep_far ?_ GW439.out _ | refine keep_far ?_ GW440.out _) | exact HK.out)) hk (.inl rfl)); have n4_ := Aside0.mk (hb); have n5_ := Aside0.mk (hi); clear HO_441000; clear BK439; clear BK440; clear HK; clear HB; clear HI0; have HO_441000 := n0_; have BK439 := n1_; have BK440 := n2_; have HK := n3_; have HB := n4_; have HI0 := n5_; clear n0_ n1_ n2_ n3_ n4_ n5_; (try clear hb); (try clear hb2); (try clear hk); (try clear hi); have hcz68_0 : w67.cell? ⟨gb440, 0, none⟩ = some (.slice (some ad463) x441000_3.length co66) := (blk_cell BK440.out 0).trans rfl; have hcz68_1 : w67.cell? ⟨gb440, 1, none⟩ = some (.slice none 0 0) := (blk_cell BK440.out 1).trans rfl; have hfz68_0 := blk_frozen BK440.out 0; have hfz68_1 := blk_frozen BK440.out 1; have p62 : 0 ≤ (((rd_T88 x441000_3 x7_3).f0) : Int) := of_decide_eq_true as_; have q62 : (((rd_T88 x441000_3 x7_3).f0) : Int) < ((x441000_3.length : Int) : Int) := of_decide_eq_true as_; obtain ⟨go62, co62, eo62, gb62, gl62, cl62, HG62⟩ := Kd.R_form HO_441000.out (by omega); (first | cases eo62 | (injection eo62 with ea_ en_ ec_; (first | subst ea_ | (injection ea_ with ea_; subst ea_)); subst ec_; clear en_)); have GB62 := Aside0.mk gb62; have GG62 := Aside0.mk HG62; clear gb62 gl62 HG62; (first | simp only [add_plain] at hx463_0 | skip); (first | simp only [add_plain] at hx463_1 | skip); (first | simp only [add_plain] at hx464_0 | skip); (first | simp only [add_plain] at hx464_1 | skip); obtain ⟨ce62, hcl62, hM62, hcc62, hfr62⟩ := Kd.R_elem HO_441000.out z88 (((rd_T88 x441000_3 x7_3).f0) : Int) p62 q62; obtain rfl := k88_openM hM62; have hx62_0 : w67.cell? ⟨go62, (((rd_T88 x441000_3 x7_3).f0) : Int).toNat * 2, none⟩ = some (.int .i64 ((rd_T88 x441000_3 ((rd_T88 x441000_3 x7_3).f0)).f0)) := hcc62 0 _ rfl; have hx62_1 : w67.cell? ⟨go62, (((rd_T88 x441000_3 x7_3).f0) : Int).toNat * 2 + 1, none⟩ = some (.int .i64 ((rd_T88 x441000_3 ((rd_T88 x441000_3 x7_3).f0)).f1)) := hcc62 1 _ rfl; have hf62_0 : w67.frozen? ⟨go62, (((rd_T88 x441000_3 x7_3).f0) : Int).toNat * 2, none⟩ = false := hfr62 0; have hf62_1 : w67.frozen? ⟨go62, (((rd_T88 x441000_3 x7_3).f0) : Int).toNat * 2 + 1, none⟩ = false := hfr62 1; clear hcl62 hcc62 hfr62; (try clear hM62); replace p62 := eq_true p62; replace q62 := eq_true q62; have HX69 := Aside0.mk (show Kd.R k88 88 w67 w.heap.size (fun _ => True) (.slice (some ⟨go62, 0, none⟩) x441000_3.length co66) x441000_3 from (ra_ HO_441000.out)); obtain ⟨ce69, hcl69, hM69, hcc69, hfr69⟩ := Kd.R_elem HX69.out z88 (((rd_T88 x441000_3 x7_3).f0) : Int) (of_decide_eq_true as_) (by have h_ : (((rd_T88 x441000_3 x7_3).f0) : Int) < ((x441000_3.length : Int) : Int) := of_decide_eq_true as_; first | exact h_ | (have e_ := (Kd.R_reads' HO_441000.out).1; omega) | simpa using h_); obtain rfl := k88_openM hM69; have HP69 := Kd.R_seg HX69.out (((rd_T88 x441000_3 x7_3).f0) : Int) (of_decide_eq_true as_) (by have h_ : (((rd_T88 x441000_3 x7_3).f0) : Int) < ((x441000_3.length : Int) : Int) := of_decide_eq_true as_; first | exact h_ | (have e_ := (Kd.R_reads' HO_441000.out).1; omega) | simpa using h_) (seg := [.int .i64 x7_3]) (j := 1) hcl69 hcc69 (show 2 ≤ 2 from by decide) (x' := (⟨(rd_T88 x441000_3 ((rd_T88 x441000_3 x7_3).f0)).f0, x7_3⟩ : S88)) (k88_mkM _ _ _ (⟨(rd_T88 x441000_3 ((rd_T88 x441000_3 x7_3).f0)).f0, x7_3⟩ : S88) ) (fun _ hk => hk); have hx69_1 := hcc69 1 _ rfl; (try simp only [show (k88).sz = 2 from rfl, Nat.mul_one, Nat.add_zero] at hx69_1); have hf69_1 := hfr69 1; (try simp only [show (k88).sz = 2 from rfl, Nat.mul_one, Nat.add_zero] at hf69_1); clear hcl69 hcc69 hfr69; (try clear hM69)) | ((with_reducible refine gate_store (t := 3) (p := 64) rfl ?_); refine store_event (t := 3) (p := 64) (v := ?vo_w70) (w1 := (w67.setCell ⟨go62, (((rd_T88 x441000_3 x7_3).f0) : Int).toNat * 2 + 1, none⟩ (.int .i64 x7_3))) ?hg ?ho ?hn ?hr ?_; (case ho => rfl); (case hg => rfl); (case hn => rfl); (case hr => first | (go_simp; done) | (go_simp; rfl)); intro w70 hw; have hg : w67.grownBy w70 (some go62) := (by rw [hw]; exact HP69.2); have hp_ : Kd.R k88 88 w70 w.heap.size (fun _ => True) (.slice (some ⟨go62, 0, none⟩) x441000_3.length co66) y469 := (by rw [hw, Ny469.out]; exact HP69.1); clear HP69; have n0_ := Aside0.mk (hp_); have n1_ := Aside0.mk (blk_grown (g := gb439) (o := .cells #[.slice none 0 0, .slice none 0 0] 55 (0, 0)) (bk_ BK439.out) hg (Kd.R_ne HO_441000.out BK439.out (by decide))); have n2_ := Aside0.mk (blk_grown (g := gb440) (o := .cells #[.slice (some ⟨go62, 0, none⟩) x441000_3.length co66, .slice none 0 0] 55 (0, 0)) (bk_ BK440.out) hg (Kd.R_ne HO_441000.out BK440.out (by decide))); have n3_ := Aside0.mk (IsS78.grown (by repeat (first | (with_reducible first | exact HI0.out | apply IsS78.alloc | apply IsS78.drewN | apply IsS78.drew | apply IsS78.set_1 | apply IsS78.set_2 | refine IsS78.far ?_ NB0_439.out _ | refine IsS78.far ?_ NB0_440.out _) | exact HI0.out)) hg (IsS78.own_ne HI0.out HO_441000.out (by decide))); have n4_ := Aside0.mk ((by rw [hw]; exact below_set (HB.out) (Nat.le_trans HL.out GB62.out) : Below w0.heap.size w0 w70)); have n5_ := Aside0.mk (KeepBut.trans (by repeat (first | (with_reducible first | exact HK.out | apply KeepBut.set_ | apply keep_drewN | apply keep_drew | apply keep_alloc | refine keep_far ?_ GW439.out _ | refine keep_far ?_ GW440.out _) | exact HK.out)) (KeepBut.of_grown hg g) (Kd.R_base2 HO_441000.out)); clear HO_441000; clear BK439; clear BK440; clear HI0; clear HB; clear HK; have HO_441000 := n0_; have BK439 := n1_; have BK440 := n2_; have HI0 := n3_; have HB := n4_; have HK := n5_; clear n0_ n1_ n2_ n3_ n4_ n5_; clear hg hw hp_))
                go_roundg k3
                case measure => have := HJ3.out; have := HK2.out; have := HK3.out; omega
                case rel => exact ⟨(wrap64 (x7_3 + 1)), (t467), (t468), (y469), (.slice (some ⟨go62, 0, none⟩) x441000_3.length co66), es_, H', ⟨by have := HJ3.out; have := HK2.out; have := HK3.out; omega⟩, ⟨ra_ HO_441000.out⟩, ⟨bk_ BK439.out⟩, ⟨bk_ BK440.out⟩, ⟨by repeat (first | (with_reducible first | exact HI0.out | apply IsS78.alloc | apply IsS78.drewN | apply IsS78.drew | apply IsS78.set_1 | apply IsS78.set_2 | refine IsS78.far ?_ NB0_439.out _ | refine IsS78.far ?_ NB0_440.out _) | exact HI0.out)⟩, ⟨by repeat (first | (with_reducible first | exact HK.out | apply KeepBut.set_ | apply keep_drewN | apply keep_drew | apply keep_alloc | refine keep_far ?_ GW439.out _ | refine keep_far ?_ GW440.out _) | exact HK.out)⟩, ⟨by repeat (first | (with_reducible first | exact HB.out | apply below_alloc | apply pw_below_drewN | apply below_drew1 | refine below_set ?_ (IsS78.ge HI0.out) | refine below_set ?_ GE439.out | refine below_set ?_ GE440.out) | exact HB.out)⟩⟩
               ·replace c61 := Bool.eq_false_iff.mpr c61
                subst c61
                rw [if_neg (show ¬ (false = true) by decide)] at H
                have H' := Aside0.mk H
                clear H
                have hnb71 := NB440_439.out
                have hnc71 := NB439_440.out
                have hnb72 := NB440_0.out
                have hnc72 := NB0_440.out
                have hcz73_0 : wr.cell? ⟨gb440, 0, none⟩ = some (u441000) := (blk_cell BK440.out 0).trans rfl
                have hcz73_1 : wr.cell? ⟨gb440, 1, none⟩ = some (.slice none 0 0) := (blk_cell BK440.out 1).trans rfl
                have hfz73_0 := blk_frozen BK440.out 0
                have hfz73_1 := blk_frozen BK440.out 1
                obtain ⟨Ao74, co74, eo74⟩ := Kd.R_slice HO_441000.out
                subst eo74
                have p463 : 0 ≤ (x7_3 : Int) := of_decide_eq_true as_
                have q463 : x7_3 < (x441000_3.length : Int) := of_decide_eq_true as_
                obtain ⟨ad463, e463, hx463_0, hx463_1⟩ := at_T88 (Kd.R_reads' HO_441000.out).2.2 x7_3 p463 q463
                cases e463
                replace p463 := eq_true p463
                replace q463 := eq_true q463
                have p464 : 0 ≤ (((rd_T88 x441000_3 x7_3).f0) : Int) := of_decide_eq_true as_
                have q464 : ((rd_T88 x441000_3 x7_3).f0) < (x441000_3.length : Int) := of_decide_eq_true as_
                obtain ⟨ad464, e464, hx464_0, hx464_1⟩ := at_T88 (Kd.R_reads' HO_441000.out).2.2 ((rd_T88 x441000_3 x7_3).f0) p464 q464
                obtain rfl : ad463 = ad464 := (by injection e464)
                replace p464 := eq_true p464
                replace q464 := eq_true q464
                go_wp2_with (first | (go_at_call 53; (with_reducible refine (spec_l1Cur_one.calls g s0_0 x1001_3 x1002_3 3 false t467 t468 w0 _ ?side1 ?side2 A60.out).mono ?_); (case side1 => repeat (first | (with_reducible first | exact HI0.out | apply IsS78.alloc | apply IsS78.drewN | apply IsS78.drew | apply IsS78.set_1 | apply IsS78.set_2 | refine IsS78.far ?_ NB0_439.out _ | refine IsS78.far ?_ NB0_440.out _) | exact HI0.out)); (case side2 => repeat (first | (with_reducible first | exact HB.out | apply below_alloc | apply pw_below_drewN | apply below_drew1 | refine below_set ?_ (IsS78.ge HI0.out) | refine below_set ?_ GE439.out | refine below_set ?_ GE440.out) | exact HB.out)); rintro e w75 ⟨rfl, hi, hb, hk⟩; have n0_ := Aside0.mk (Kd.R_mono (Kd.R_keep (IsS78.apart (show IsS78 w0 _ g s0_0 x1001_3 x1002_3 from by repeat (first | (with_reducible first | exact HI0.out | apply IsS78.alloc | apply IsS78.drewN | apply IsS78.drew | apply IsS78.set_1 | apply IsS78.set_2 | refine IsS78.far ?_ NB0_439.out _ | refine IsS78.far ?_ NB0_440.out _) | exact HI0.out)) (ra_ HO_441000.out) (by decide)) hk (fun _ h => h.2)) (fun _ h => h.1)); have n1_ := Aside0.mk (KeepBut.blk hk (g' := gb439) (o := .cells #[.slice none 0 0, .slice none 0 0] 55 (0, 0)) (bk_ BK439.out) NB439_0.out (by simp)); have n2_ := Aside0.mk (KeepBut.blk hk (g' := gb440) (o := .cells #[.slice (some ad463) x441000_3.length co74, .slice none 0 0] 55 (0, 0)) (bk_ BK440.out) NB440_0.out (by simp)); have n3_ := Aside0.mk (KeepBut.trans (by repeat (first | (with_reducible first | exact HK.out | apply KeepBut.set_ | apply keep_drewN | apply keep_drew | apply keep_alloc | refine keep_far ?_ GW439.out _ | refine keep_far ?_ GW440.out _) | exact HK.out)) hk (.inl rfl)); have n4_ := Aside0.mk (hb); have n5_ := Aside0.mk (hi); clear HO_441000; clear BK439; clear BK440; clear HK; clear HB; clear HI0; have HO_441000 := n0_; have BK439 := n1_; have BK440 := n2_; have HK := n3_; have HB := n4_; have HI0 := n5_; clear n0_ n1_ n2_ n3_ n4_ n5_; (try clear hb); (try clear hb2); (try clear hk); (try clear hi)))
                go_roundg k3
                case measure => have := HJ3.out; have := HK2.out; have := HK3.out; omega
                case rel => exact ⟨(wrap64 (x7_3 + 1)), (t467), (t468), (x441000_3), (.slice (some ad463) x441000_3.length co74), es_, H', ⟨by have := HJ3.out; have := HK2.out; have := HK3.out; omega⟩, ⟨ra_ HO_441000.out⟩, ⟨bk_ BK439.out⟩, ⟨bk_ BK440.out⟩, ⟨by repeat (first | (with_reducible first | exact HI0.out | apply IsS78.alloc | apply IsS78.drewN | apply IsS78.drew | apply IsS78.set_1 | apply IsS78.set_2 | refine IsS78.far ?_ NB0_439.out _ | refine IsS78.far ?_ NB0_440.out _) | exact HI0.out)⟩, ⟨by repeat (first | (with_reducible first | exact HK.out | apply KeepBut.set_ | apply keep_drewN | apply keep_drew | apply keep_alloc | refine keep_far ?_ GW439.out _ | refine keep_far ?_ GW440.out _) | exact HK.out)⟩, ⟨by repeat (first | (with_reducible first | exact HB.out | apply below_alloc | apply pw_below_drewN | apply below_drew1 | refine below_set ?_ (IsS78.ge HI0.out) | refine below_set ?_ GE439.out | refine below_set ?_ GE440.out) | exact HB.out)⟩⟩
             ·rw [if_neg c51] at H
              exact absurd H (by simp)
            ·rw [if_neg c50] at H
             exact absurd H (by simp)
           ·rw [if_neg c49] at H
            exact absurd H (by simp)
          ·rw [if_neg c48] at H
           exact absurd H (by simp)
         ·rw [if_neg c47] at H
          have c47b0 : decide (x7_3 < x4_3) = false := decide_eq_false c47
          clear c47
          by_cases c76 : x4_3 = 0
          ·rw [if_pos c76] at H
           have c76b0 : (x4_3 == 0) = true := beq_iff_eq.mpr c76
           have c76b1 : (x4_3 != 0) = false := bne_eq_false_iff_eq.mpr c76
           clear c76
           simp only [Option.some.injEq, Prod.mk.injEq] at H
           obtain ⟨rfl, rfl, rfl, rfl⟩ := H
           have hnb77 := NB440_439.out
           have hnc77 := NB439_440.out
           have hnb78 := NB440_0.out
           have hnc78 := NB0_440.out
           have hcz79_0 : wr.cell? ⟨gb440, 0, none⟩ = some (u441000) := (blk_cell BK440.out 0).trans rfl
           have hcz79_1 : wr.cell? ⟨gb440, 1, none⟩ = some (.slice none 0 0) := (blk_cell BK440.out 1).trans rfl
           have hfz79_0 := blk_frozen BK440.out 0
           have hfz79_1 := blk_frozen BK440.out 1
           obtain ⟨Ao80, co80, eo80⟩ := Kd.R_slice HO_441000.out
           subst eo80
           have hnb81 := NB439_0.out
           have hnc81 := NB0_439.out
           have hcz82_0 : wr.cell? ⟨gb439, 0, none⟩ = some (.slice none 0 0) := (blk_cell BK439.out 0).trans rfl
           have hcz82_1 : wr.cell? ⟨gb439, 1, none⟩ = some (.slice none 0 0) := (blk_cell BK439.out 1).trans rfl
           have hfz82_0 := blk_frozen BK439.out 0
           have hfz82_1 := blk_frozen BK439.out 1
           go_wp2
           refine bodyPost_ret (results_cell_row rfl _ _ gb439 55 #[.slice Ao80 x441000_3.length co80, .slice none 0 0] (0, 0) _ rfl (by (with_reducible repeat (first | refine blk_drewN ?_ _ | refine blk_drew ?_ | refine blk_alloc ?_ _)); refine blk_put (cs := #[.slice Ao80 x441000_3.length co80, .slice none 0 0]) ?_ 1 _ rfl; (with_reducible repeat (first | refine blk_drewN ?_ _ | refine blk_drew ?_ | refine blk_alloc ?_ _)); refine blk_put (cs := #[.slice none 0 0, .slice none 0 0]) ?_ 0 _ rfl; (with_reducible repeat (first | refine blk_drewN ?_ _ | refine blk_drew ?_ | refine blk_alloc ?_ _)); exact BK439.out) Try.underlying55 rfl (by kernel_rfl)) rfl ?_
           exact ⟨_, _, er_, by (with_reducible repeat (first | apply Kd.R_alloc | apply Kd.R_drewN | apply Kd.R_drew)); exact Kd.R_mono (Kd.R_far (p := ⟨gb439, 1, none⟩) (Kd.R_far (p := ⟨gb439, 0, none⟩) (Kd.R_types HO_441000.out BK439.out (by decide)) (fun _ hk => hk.2) (.slice Ao80 x441000_3.length co80)) (fun _ hk => hk.2) (.slice none 0 0)) (fun _ hk => trivial), by first | exact Kd.R_nil _ _ _ _ _ | exact Kd.N_nil _ _ _ _ _ | exact Kd.V_nil _ _ _ _ _ | exact Kd.Q_nil _ _ _ _ _ | exact Kd.S_nil _ _ _ _ _, by repeat (first | (with_reducible first | exact HI0.out | apply IsS78.alloc | apply IsS78.drewN | apply IsS78.drew | apply IsS78.set_1 | apply IsS78.set_2 | refine IsS78.far ?_ NB0_439.out _ | refine IsS78.far ?_ NB0_440.out _) | exact HI0.out), by repeat (first | (with_reducible first | exact HB.out | apply below_alloc | apply pw_below_drewN | apply below_drew1 | refine below_set ?_ (IsS78.ge HI0.out) | refine below_set ?_ GE439.out | refine below_set ?_ GE440.out) | exact HB.out), by repeat (first | (with_reducible first | exact HK.out | apply KeepBut.set_ | apply keep_drewN | apply keep_drew | apply keep_alloc | refine keep_far ?_ GW439.out _ | refine keep_far ?_ GW440.out _) | exact HK.out)⟩
          ·rw [if_neg c76] at H
           have c76b0 : (x4_3 == 0) = false := beq_eq_false_iff_ne.mpr c76
           have c76b1 : (x4_3 != 0) = true := bne_iff_ne.mpr c76
           replace H := Option.bind_eq_some_iff.mp H
           obtain ⟨⟨t470, t471, t472⟩, A830, H⟩ := H
           replace H : (spec_l1Cur_chart.l2 k3 x4_3 t470 s0_0 t471 t472 x441000_3 ([] : List (S90))) = some (r1, r2, r3, r4) := H
           have A83 := Aside0.mk A830
           clear A830
           have H' := Aside0.mk H
           clear H
           go_wp2_with (first | ((with_reducible refine gate_callee (f := 52) rfl ?_); refine goesL_ (some 69) rfl rfl Try.func52 (by kernel_rfl) rfl #[.pointer (some ⟨g, 0, none⟩), .int .i64 10] rfl ls_ ?_; (with_reducible refine (spec_l1Cur_pick.calls g s0_0 x1001_3 x1002_3 10 t470 t471 t472 w0 _ ?side1 ?side2 A83.out).mono ?_); (case side1 => repeat (first | (with_reducible first | exact HI0.out | apply IsS78.alloc | apply IsS78.drewN | apply IsS78.drew | apply IsS78.set_1 | apply IsS78.set_2 | refine IsS78.far ?_ NB0_439.out _ | refine IsS78.far ?_ NB0_440.out _) | exact HI0.out)); (case side2 => repeat (first | (with_reducible first | exact HB.out | apply below_alloc | apply pw_below_drewN | apply below_drew1 | refine below_set ?_ (IsS78.ge HI0.out) | refine below_set ?_ GE439.out | refine below_set ?_ GE440.out) | exact HB.out)); rintro e w84 ⟨rfl, hi, hb, hk⟩; refine ⟨_, rfl, ?_⟩; have n0_ := Aside0.mk (Kd.R_mono (Kd.R_keep (IsS78.apart (show IsS78 w0 _ g s0_0 x1001_3 x1002_3 from by repeat (first | (with_reducible first | exact HI0.out | apply IsS78.alloc | apply IsS78.drewN | apply IsS78.drew | apply IsS78.set_1 | apply IsS78.set_2 | refine IsS78.far ?_ NB0_439.out _ | refine IsS78.far ?_ NB0_440.out _) | exact HI0.out)) (ra_ HO_441000.out) (by decide)) hk (fun _ h => h.2)) (fun _ h => h.1)); have n1_ := Aside0.mk (KeepBut.blk hk (g' := gb439) (o := .cells #[.slice none 0 0, .slice none 0 0] 55 (0, 0)) (bk_ BK439.out) NB439_0.out (by simp)); have n2_ := Aside0.mk (KeepBut.blk hk (g' := gb440) (o := .cells #[u441000, .slice none 0 0] 55 (0, 0)) (bk_ BK440.out) NB440_0.out (by simp)); have n3_ := Aside0.mk (KeepBut.trans (by repeat (first | (with_reducible first | exact HK.out | apply KeepBut.set_ | apply keep_drewN | apply keep_drew | apply keep_alloc | refine keep_far ?_ GW439.out _ | refine keep_far ?_ GW440.out _) | exact HK.out)) hk (.inl rfl)); have n4_ := Aside0.mk (hb); have n5_ := Aside0.mk (hi); clear HO_441000; clear BK439; clear BK440; clear HK; clear HB; clear HI0; have HO_441000 := n0_; have BK439 := n1_; have BK440 := n2_; have HK := n3_; have HB := n4_; have HI0 := n5_; clear n0_ n1_ n2_ n3_ n4_ n5_; (try clear hb); (try clear hb2); (try clear hk); (try clear hi)))
           go_loopg [9] k3 (fun kq v9 w' => ∃ (x9_4 : Int) (x1001_4 : Int) (x1002_4 : Int) (x441001_4 : List (S90)) (u441001 : Value), v9 = .int .i64 x9_4 ∧ Aside0 (spec_l1Cur_chart.l2 kq x4_3 x9_4 s0_0 x1001_4 x1002_4 x441000_3 x441001_4 = some (r1, r2, r3, r4)) ∧ Aside0 (kq ≤ k3) ∧ Aside0 (Kd.R k88 88 w' w.heap.size (fun _ => True) u441000 x441000_3) ∧ Aside0 (Kd.R k90 90 w' w.heap.size (fun _ => True) u441001 x441001_4) ∧ Aside0 (w'.heap[gb439]? = some (.cells #[(.slice none 0 0), (.slice none 0 0)] 55 (0, 0))) ∧ Aside0 (w'.heap[gb440]? = some (.cells #[u441000, u441001] 55 (0, 0))) ∧ Aside0 (IsS78 w0 w' g s0_0 x1001_4 x1002_4) ∧ Aside0 (KeepBut w w' g none) ∧ Aside0 (Below w0.heap.size w0 w'))
           case atStart => exact ⟨(t470), (t471), (t472), (([] : List (S90))), (.slice none 0 0), es_, H', ⟨Nat.le_refl _⟩, ⟨ra_ HO_441000.out⟩, ⟨by first | exact Kd.R_nil _ _ _ _ _ | exact Kd.N_nil _ _ _ _ _ | exact Kd.V_nil _ _ _ _ _ | exact Kd.Q_nil _ _ _ _ _ | exact Kd.S_nil _ _ _ _ _⟩, ⟨bk_ BK439.out⟩, ⟨bk_ BK440.out⟩, ⟨by repeat (first | (with_reducible first | exact HI0.out | apply IsS78.alloc | apply IsS78.drewN | apply IsS78.drew | apply IsS78.set_1 | apply IsS78.set_2 | refine IsS78.far ?_ NB0_439.out _ | refine IsS78.far ?_ NB0_440.out _) | exact HI0.out)⟩, ⟨by repeat (first | (with_reducible first | exact HK.out | apply KeepBut.set_ | apply keep_drewN | apply keep_drew | apply keep_alloc | refine keep_far ?_ GW439.out _ | refine keep_far ?_ GW440.out _) | exact HK.out)⟩, ⟨by repeat (first | (with_reducible first | exact HB.out | apply below_alloc | apply pw_below_drewN | apply below_drew1 | refine below_set ?_ (IsS78.ge HI0.out) | refine below_set ?_ GE439.out | refine below_set ?_ GE440.out) | exact HB.out)⟩⟩
           case round =>
            clear H'
            try clear c1
            try clear c2
            try clear p2
            try clear c3
            try clear c4
            try clear p4
            try clear q4
            try clear hx4
            try clear c5
            try clear p5
            try clear q5
            try clear hx5
            try clear hf5
            try clear c6
            try clear p6
            try clear q6
            try clear hx6
            try clear hf6
            try clear c7
            try clear c8
            try clear c12
            try clear c18
            try clear c18b0
            try clear c19
            try clear c19b0
            try clear c21
            try clear c23
            try clear c24
            try clear c25
            try clear c29
            try clear c30
            try clear c35
            try clear c37
            try clear c38
            try clear c39
            try clear c41
            try clear c42
            try clear p46
            try clear q46
            try clear hx46
            try clear c47
            try clear c47b0
            try clear c48
            try clear c48b0
            try clear c49
            try clear c49b0
            try clear c50
            try clear c50b0
            try clear c51
            try clear c51b0
            try clear c52
            try clear c52b0
            try clear c53
            try clear p53
            try clear q53
            try clear hx53
            try clear hf53
            try clear c54
            try clear c55
            try clear c58
            try clear hx58
            try clear hf58
            try clear c61
            try clear c62
            try clear p62
            try clear q62
            try clear hx62
            try clear hf62
            try clear c63
            try clear c64
            try clear p64
            try clear c69
            try clear hx69
            try clear hf69
            try clear c71
            try clear c72
            try clear c75
            try clear c76
            try clear c76b0
            try clear c76b1
            try clear c77
            try clear c78
            try clear c81
            try clear hcz26_0
            try clear hcz26_1
            try clear hcz28_0
            try clear hcz28_1
            try clear hcz31_0
            try clear hcz31_1
            try clear hcz34_0
            try clear hcz34_1
            try clear hcz40_0
            try clear hcz40_1
            try clear hcz43_0
            try clear hcz43_1
            try clear hcz46_0
            try clear hcz46_1
            try clear hcz56_0
            try clear hcz56_1
            try clear hcz65_0
            try clear hcz65_1
            try clear hcz68_0
            try clear hcz68_1
            try clear hcz73_0
            try clear hcz73_1
            try clear hcz79_0
            try clear hcz79_1
            try clear hcz82_0
            try clear hcz82_1
            try clear hcz9_0
            try clear hcz9_1
            try clear hfz26_0
            try clear hfz26_1
            try clear hfz28_0
            try clear hfz28_1
            try clear hfz31_0
            try clear hfz31_1
            try clear hfz34_0
            try clear hfz34_1
            try clear hfz40_0
            try clear hfz40_1
            try clear hfz43_0
            try clear hfz43_1
            try clear hfz46_0
            try clear hfz46_1
            try clear hfz56_0
            try clear hfz56_1
            try clear hfz65_0
            try clear hfz65_1
            try clear hfz68_0
            try clear hfz68_1
            try clear hfz73_0
            try clear hfz73_1
            try clear hfz79_0
            try clear hfz79_1
            try clear hfz82_0
            try clear hfz82_1
            try clear hfz9_0
            try clear hfz9_1
            try clear hx463_0
            try clear hx463_1
            try clear hx464_0
            try clear hx464_1
            try clear hx53_0
            try clear hx53_1
            try clear hx58_1
            try clear hx62_0
            try clear hx62_1
            try clear hx69_1
            try clear p2
            try clear p463
            try clear p464
            try clear p53
            try clear p6
            try clear p62
            try clear q463
            try clear q464
            try clear q53
            try clear q62
            obtain ⟨x9_4, x1001_4, x1002_4, x441001_4, u441001, rfl, HA, HK4, HO_441000, HO_441001, BK439, BK440, HI0, HK, HB⟩ := hrel
            cases gk with
            | zero => exact absurd HA.out (by simp [spec_l1Cur_chart.l2])
            | succ k4 =>
             have H := HA.out
             clear HA
             simp only [spec_l1Cur_chart.l2] at H
             by_cases c85 : x9_4 > 0
             ·rw [if_pos c85] at H
              have c85b0 : decide (0 < x9_4) = true := decide_eq_true c85
              clear c85
              replace H := Option.bind_eq_some_iff.mp H
              obtain ⟨⟨t473, t474, t475⟩, A860, H⟩ := H
              replace H : ((spec_l1Cur_pick.f s0_0 t474 t475 6).bind fun bt476 => ((spec_l1Cur_pick.f s0_0 bt476.2.1 bt476.2.2 x4_3).bind fun bt479 => (if x441001_4.length < 5864062014805 then (spec_l1Cur_chart.l2 k4 x4_3 (wrap64 (x9_4 - 1)) s0_0 bt479.2.1 bt479.2.2 x441000_3 (x441001_4 ++ [(⟨t473, bt476.1, bt479.1⟩ : S90)])) else (none)))) = some (r1, r2, r3, r4) := H
              have A86 := Aside0.mk A860
              clear A860
              replace H := Option.bind_eq_some_iff.mp H
              obtain ⟨⟨t476, t477, t478⟩, A870, H⟩ := H
              replace H : ((spec_l1Cur_pick.f s0_0 t477 t478 x4_3).bind fun bt479 => (if x441001_4.length < 5864062014805 then (spec_l1Cur_chart.l2 k4 x4_3 (wrap64 (x9_4 - 1)) s0_0 bt479.2.1 bt479.2.2 x441000_3 (x441001_4 ++ [(⟨t473, t476, bt479.1⟩ : S90)])) else (none))) = some (r1, r2, r3, r4) := H
              have A87 := Aside0.mk A870
              clear A870
              replace H := Option.bind_eq_some_iff.mp H
              obtain ⟨⟨t479, t480, t481⟩, A880, H⟩ := H
              replace H : (if x441001_4.length < 5864062014805 then (spec_l1Cur_chart.l2 k4 x4_3 (wrap64 (x9_4 - 1)) s0_0 t480 t481 x441000_3 (x441001_4 ++ [(⟨t473, t476, t479⟩ : S90)])) else (none)) = some (r1, r2, r3, r4) := H
              have A88 := Aside0.mk A880
              clear A880
              by_cases c89 : x441001_4.length < 5864062014805
              ·rw [if_pos c89] at H
               have LMc89 := Aside0.mk c89
               clear c89
               obtain ⟨y482, hy482⟩ : ∃ y_ : List (S90), y_ = (x441001_4 ++ [(⟨t473, t476, t479⟩ : S90)]) := ⟨_, rfl⟩
               replace H : (spec_l1Cur_chart.l2 k4 x4_3 (wrap64 (x9_4 - 1)) s0_0 t480 t481 x441000_3 y482) = some (r1, r2, r3, r4) := by first | (rw [hy482]; with_reducible exact H) | (have H2_ := (Option.bind_some _ _).symm.trans H; rw [hy482]; with_reducible exact H2_) | (have H2_ := (Option.bind_some _ _).symm.trans H; with_reducible exact H2_) | with_reducible exact H | (rw [hy482]; exact H) | exact H
               have Ny482 := Aside0.mk hy482
               clear hy482
               have H' := Aside0.mk H
               clear H
               try go_wp2
               have n0_ := Aside0.mk (Kd.R_drew HO_441000.out)
               have n1_ := Aside0.mk (Kd.R_drew HO_441001.out)
               have n2_ := Aside0.mk (blk_drew BK439.out)
               have n3_ := Aside0.mk (blk_drew BK440.out)
               have n4_ := Aside0.mk (IsS78.drew HI0.out)
               have n5_ := Aside0.mk (keep_drew HK.out)
               have n6_ := Aside0.mk (below_drew1 HB.out)
               clear HO_441000
               clear HO_441001
               clear BK439
               clear BK440
               clear HI0
               clear HK
               clear HB
               have HO_441000 := n0_
               have HO_441001 := n1_
               have BK439 := n2_
               have BK440 := n3_
               have HI0 := n4_
               have HK := n5_
               have HB := n6_
               clear n0_ n1_ n2_ n3_ n4_ n5_ n6_
               refine start_ (n := 15) (S := fun w' => w'.cell? ⟨gb440, 0, none⟩ = some (u441000) ∧ w'.cell? ⟨gb440, 1, none⟩ = some (u441001)) (ds := [14]) #[false, false, false, false, false, false, false, false, false, false, false, false, false, false, false] (by kernel_rfl) rfl rfl ⟨(blk_cell BK440.out 0).trans rfl, (blk_cell BK440.out 1).trans rfl⟩ (fun hHeld => ?_); refine with_tabW spec_l1Cur_chart.tab23 spec_l1Cur_chart.bits23 (fun HT_ HW_ => ?_)
               generalize wr.drew = w90 at HO_441000 HO_441001 BK439 BK440 HI0 HK HB hHeld ⊢
               refine pure_ (i := 0) (N := some 74) (v := ?_) (a' := ?_) #[true, false, false, false, false, false, false, false, false, false, false, false, false, false, false] rfl rfl (any_of HT_.out (by kernel_rfl)) (fun _ _ _ h => h) (Or.inl ⟨by rfl, ?_⟩) ?_ ?_
               rotate_left
               ·intro w'
                go_simp
                with_reducible rfl
               rotate_left
               ·simp only [Act.put, List.setIfInBounds_toArray, List.set_cons_zero, List.set_cons_succ, i64_w, i32_w]
                rfl
               refine pure_ (i := 2) (N := some 76) (v := ?_) (a' := ?_) #[true, false, true, false, false, false, false, false, false, false, false, false, false, false, false] rfl rfl (any_of HT_.out (by kernel_rfl)) (fun _ _ _ h => h) (Or.inl ⟨by rfl, ?_⟩) ?_ ?_
               rotate_left
               ·intro w'
                go_simp
                with_reducible rfl
               rotate_left
               ·simp only [Act.put, List.setIfInBounds_toArray, List.set_cons_zero, List.set_cons_succ, i64_w, i32_w]
                rfl
               refine pure_ (i := 3) (N := some 77) (v := ?_) (a' := ?_) #[true, false, true, true, false, false, false, false, false, false, false, false, false, false, false] rfl rfl (any_of HT_.out (by kernel_rfl)) (fun _ _ _ h => h) (Or.inl ⟨by rfl, ?_⟩) ?_ ?_
               rotate_left
               ·intro w'
                go_simp
                with_reducible rfl
               rotate_left
               ·simp only [Act.put, List.setIfInBounds_toArray, List.set_cons_zero, List.set_cons_succ, i64_w, i32_w]
                rfl
               refine pure_ (i := 5) (N := some 79) (v := ?_) (a' := ?_) #[true, false, true, true, false, true, false, false, false, false, false, false, false, false, false] rfl rfl (any_of HT_.out (by kernel_rfl)) (fun _ _ _ h => h) (Or.inl ⟨by rfl, ?_⟩) ?_ ?_
               rotate_left
               ·intro w'
                go_simp
                with_reducible rfl
               rotate_left
               ·simp only [Act.put, List.setIfInBounds_toArray, List.set_cons_zero, List.set_cons_succ, i64_w, i32_w]
                rfl
               refine pure_ (i := 7) (N := some 81) (v := ?_) (a' := ?_) #[true, false, true, true, false, true, false, true, false, false, false, false, false, false, false] rfl rfl (any_of HT_.out (by kernel_rfl)) (fun _ _ _ h => h) (Or.inl ⟨by rfl, ?_⟩) ?_ ?_
               rotate_left
               ·intro w'
                go_simp
                with_reducible rfl
               rotate_left
               ·simp only [Act.put, List.setIfInBounds_toArray, List.set_cons_zero, List.set_cons_succ, i64_w, i32_w]
                rfl
               refine pure_ (i := 8) (N := some 82) (v := ?_) (a' := ?_) #[true, false, true, true, false, true, false, true, true, false, false, false, false, false, false] rfl rfl (any_of HT_.out (by kernel_rfl)) (fun _ _ _ h => h) (Or.inl ⟨by rfl, ?_⟩) ?_ ?_
               rotate_left
               ·intro w'
                go_simp
                with_reducible rfl
               rotate_left
               ·simp only [Act.put, List.setIfInBounds_toArray, List.set_cons_zero, List.set_cons_succ, i64_w, i32_w]
                rfl
               refine take_ (i := 1) (N := some 75) (v := ?_) (a' := ?_) #[true, true, true, true, false, true, false, true, true, false, false, false, false, false, false] rfl rfl (take_ofW HT_.out HW_.out (by kernel_rfl)) (fun _ _ _ h => h) (Or.inl ⟨by rfl, ?_⟩) hHeld ?_ ?_
               rotate_left
               ·rintro w' ⟨s0, s1⟩
                go_simp
                with_reducible rfl
               rotate_left
               ·simp only [Act.put, List.setIfInBounds_toArray, List.set_cons_zero, List.set_cons_succ, i64_w, i32_w]
                rfl
               refine one_ (i := 4) (N := some 78) #[true, true, true, true, true, true, false, true, true, false, false, false, false, false, false] rfl rfl (one_of HT_.out (by kernel_rfl)) (by decide) (fun K hK => ?_)
               refine goes_ Try.func52 (by kernel_rfl) rfl #[.pointer (some ⟨g, 0, none⟩), .int .i64 x4_3] (by rfl) rfl rfl ls_ ?_
               with_reducible refine (spec_l1Cur_pick.calls g s0_0 x1001_4 x1002_4 x4_3 t473 t474 t475 w0 _ ?side1 ?side2 A86.out).mono ?_
               (case side1 => repeat (first | (with_reducible first | exact HI0.out | apply IsS78.alloc | apply IsS78.drewN | apply IsS78.drew | apply IsS78.set_1 | apply IsS78.set_2 | refine IsS78.far ?_ NB0_439.out _ | refine IsS78.far ?_ NB0_440.out _) | exact HI0.out))
               (case side2 => repeat (first | (with_reducible first | exact HB.out | apply below_alloc | apply pw_below_drewN | apply below_drew1 | refine below_set ?_ (IsS78.ge HI0.out) | refine below_set ?_ GE439.out | refine below_set ?_ GE440.out) | exact HB.out))
               rintro e w91 ⟨rfl, hi, hb, hk⟩
               refine ⟨_, rfl, ?_⟩
               have n0_ := Aside0.mk (Kd.R_mono (Kd.R_keep (IsS78.apart (show IsS78 w0 _ g s0_0 x1001_4 x1002_4 from by repeat (first | (with_reducible first | exact HI0.out | apply IsS78.alloc | apply IsS78.drewN | apply IsS78.drew | apply IsS78.set_1 | apply IsS78.set_2 | refine IsS78.far ?_ NB0_439.out _ | refine IsS78.far ?_ NB0_440.out _) | exact HI0.out)) (ra_ HO_441000.out) (by decide)) hk (fun _ h => h.2)) (fun _ h => h.1))
               have n1_ := Aside0.mk (Kd.R_mono (Kd.R_keep (IsS78.apart (show IsS78 w0 _ g s0_0 x1001_4 x1002_4 from by repeat (first | (with_reducible first | exact HI0.out | apply IsS78.alloc | apply IsS78.drewN | apply IsS78.drew | apply IsS78.set_1 | apply IsS78.set_2 | refine IsS78.far ?_ NB0_439.out _ | refine IsS78.far ?_ NB0_440.out _) | exact HI0.out)) (ra_ HO_441001.out) (by decide)) hk (fun _ h => h.2)) (fun _ h => h.1))
               have n2_ := Aside0.mk (KeepBut.blk hk (g' := gb439) (o := .cells #[.slice none 0 0, .slice none 0 0] 55 (0, 0)) (bk_ BK439.out) NB439_0.out (by simp))
               have n3_ := Aside0.mk (KeepBut.blk hk (g' := gb440) (o := .cells #[u441000, u441001] 55 (0, 0)) (bk_ BK440.out) NB440_0.out (by simp))
               have n4_ := Aside0.mk (KeepBut.trans (by repeat (first | (with_reducible first | exact HK.out | apply KeepBut.set_ | apply keep_drewN | apply keep_drew | apply keep_alloc | refine keep_far ?_ GW439.out _ | refine keep_far ?_ GW440.out _) | exact HK.out)) hk (.inl rfl))
               have n5_ := Aside0.mk (hb)
               have n6_ := Aside0.mk (hi)
               clear HO_441000
               clear HO_441001
               clear BK439
               clear BK440
               clear HK
               clear HB
               clear HI0
               have HO_441000 := n0_
               have HO_441001 := n1_
               have BK439 := n2_
               have BK440 := n3_
               have HK := n4_
               have HB := n5_
               have HI0 := n6_
               clear n0_ n1_ n2_ n3_ n4_ n5_ n6_
               (try clear hb)
               (try clear hb2)
               (try clear hk)
               (try clear hi)
               refine hK.out _ _ ⟨(blk_cell BK440.out 0).trans rfl, (blk_cell BK440.out 1).trans rfl⟩ (fun hHeld => ?_)
               clear hK K
               refine norm_ (a' := ?_) ?_ ?_
               rotate_left
               ·show Act.put _ (some 78) _ = _
                simp only [Act.put, List.setIfInBounds_toArray, List.set_cons_zero, List.set_cons_succ, i64_w, i32_w]
                rfl
               refine one_ (i := 6) (N := some 80) #[true, true, true, true, true, true, true, true, true, false, false, false, false, false, false] rfl rfl (one_of HT_.out (by kernel_rfl)) (by decide) (fun K hK => ?_)
               refine goes_ Try.func52 (by kernel_rfl) rfl #[.pointer (some ⟨g, 0, none⟩), .int .i64 6] (by rfl) rfl rfl ls_ ?_
               with_reducible refine (spec_l1Cur_pick.calls g s0_0 t474 t475 6 t476 t477 t478 w0 _ ?side1 ?side2 A87.out).mono ?_
               (case side1 => repeat (first | (with_reducible first | exact HI0.out | apply IsS78.alloc | apply IsS78.drewN | apply IsS78.drew | apply IsS78.set_1 | apply IsS78.set_2 | refine IsS78.far ?_ NB0_439.out _ | refine IsS78.far ?_ NB0_440.out _) | exact HI0.out))
               (case side2 => repeat (first | (with_reducible first | exact HB.out | apply below_alloc | apply pw_below_drewN | apply below_drew1 | refine below_set ?_ (IsS78.ge HI0.out) | refine below_set ?_ GE439.out | refine below_set ?_ GE440.out) | exact HB.out))
               rintro e w92 ⟨rfl, hi, hb, hk⟩
               refine ⟨_, rfl, ?_⟩
               have n0_ := Aside0.mk (Kd.R_mono (Kd.R_keep (IsS78.apart (show IsS78 w0 _ g s0_0 t474 t475 from by repeat (first | (with_reducible first | exact HI0.out | apply IsS78.alloc | apply IsS78.drewN | apply IsS78.drew | apply IsS78.set_1 | apply IsS78.set_2 | refine IsS78.far ?_ NB0_439.out _ | refine IsS78.far ?_ NB0_440.out _) | exact HI0.out)) (ra_ HO_441000.out) (by decide)) hk (fun _ h => h.2)) (fun _ h => h.1))
               have n1_ := Aside0.mk (Kd.R_mono (Kd.R_keep (IsS78.apart (show IsS78 w0 _ g s0_0 t474 t475 from by repeat (first | (with_reducible first | exact HI0.out | apply IsS78.alloc | apply IsS78.drewN | apply IsS78.drew | apply IsS78.set_1 | apply IsS78.set_2 | refine IsS78.far ?_ NB0_439.out _ | refine IsS78.far ?_ NB0_440.out _) | exact HI0.out)) (ra_ HO_441001.out) (by decide)) hk (fun _ h => h.2)) (fun _ h => h.1))
               have n2_ := Aside0.mk (KeepBut.blk hk (g' := gb439) (o := .cells #[.slice none 0 0, .slice none 0 0] 55 (0, 0)) (bk_ BK439.out) NB439_0.out (by simp))
               have n3_ := Aside0.mk (KeepBut.blk hk (g' := gb440) (o := .cells #[u441000, u441001] 55 (0, 0)) (bk_ BK440.out) NB440_0.out (by simp))
               have n4_ := Aside0.mk (KeepBut.trans (by repeat (first | (with_reducible first | exact HK.out | apply KeepBut.set_ | apply keep_drewN | apply keep_drew | apply keep_alloc | refine keep_far ?_ GW439.out _ | refine keep_far ?_ GW440.out _) | exact HK.out)) hk (.inl rfl))
               have n5_ := Aside0.mk (hb)
               have n6_ := Aside0.mk (hi)
               clear HO_441000
               clear HO_441001
               clear BK439
               clear BK440
               clear HK
               clear HB
               clear HI0
               have HO_441000 := n0_
               have HO_441001 := n1_
               have BK439 := n2_
               have BK440 := n3_
               have HK := n4_
               have HB := n5_
               have HI0 := n6_
               clear n0_ n1_ n2_ n3_ n4_ n5_ n6_
               (try clear hb)
               (try clear hb2)
               (try clear hk)
               (try clear hi)
               refine hK.out _ _ ⟨(blk_cell BK440.out 0).trans rfl, (blk_cell BK440.out 1).trans rfl⟩ (fun hHeld => ?_)
               clear hK K
               refine norm_ (a' := ?_) ?_ ?_
               rotate_left
               ·show Act.put _ (some 80) _ = _
                simp only [Act.put, List.setIfInBounds_toArray, List.set_cons_zero, List.set_cons_succ, i64_w, i32_w]
                rfl
               refine one_ (i := 9) (N := some 83) #[true, true, true, true, true, true, true, true, true, true, false, false, false, false, false] rfl rfl (one_of HT_.out (by kernel_rfl)) (by decide) (fun K hK => ?_)
               refine goes_ Try.func52 (by kernel_rfl) rfl #[.pointer (some ⟨g, 0, none⟩), .int .i64 x4_3] (by rfl) rfl rfl ls_ ?_
               with_reducible refine (spec_l1Cur_pick.calls g s0_0 t477 t478 x4_3 t479 t480 t481 w0 _ ?side1 ?side2 A88.out).mono ?_
               (case side1 => repeat (first | (with_reducible first | exact HI0.out | apply IsS78.alloc | apply IsS78.drewN | apply IsS78.drew | apply IsS78.set_1 | apply IsS78.set_2 | refine IsS78.far ?_ NB0_439.out _ | refine IsS78.far ?_ NB0_440.out _) | exact HI0.out))
               (case side2 => repeat (first | (with_reducible first | exact HB.out | apply below_alloc | apply pw_below_drewN | apply below_drew1 | refine below_set ?_ (IsS78.ge HI0.out) | refine below_set ?_ GE439.out | refine below_set ?_ GE440.out) | exact HB.out))
               rintro e w93 ⟨rfl, hi, hb, hk⟩
               refine ⟨_, rfl, ?_⟩
               have n0_ := Aside0.mk (Kd.R_mono (Kd.R_keep (IsS78.apart (show IsS78 w0 _ g s0_0 t477 t478 from by repeat (first | (with_reducible first | exact HI0.out | apply IsS78.alloc | apply IsS78.drewN | apply IsS78.drew | apply IsS78.set_1 | apply IsS78.set_2 | refine IsS78.far ?_ NB0_439.out _ | refine IsS78.far ?_ NB0_440.out _) | exact HI0.out)) (ra_ HO_441000.out) (by decide)) hk (fun _ h => h.2)) (fun _ h => h.1))
               have n1_ := Aside0.mk (Kd.R_mono (Kd.R_keep (IsS78.apart (show IsS78 w0 _ g s0_0 t477 t478 from by repeat (first | (with_reducible first | exact HI0.out | apply IsS78.alloc | apply IsS78.drewN | apply IsS78.drew | apply IsS78.set_1 | apply IsS78.set_2 | refine IsS78.far ?_ NB0_439.out _ | refine IsS78.far ?_ NB0_440.out _) | exact HI0.out)) (ra_ HO_441001.out) (by decide)) hk (fun _ h => h.2)) (fun _ h => h.1))
               have n2_ := Aside0.mk (KeepBut.blk hk (g' := gb439) (o := .cells #[.slice none 0 0, .slice none 0 0] 55 (0, 0)) (bk_ BK439.out) NB439_0.out (by simp))
               have n3_ := Aside0.mk (KeepBut.blk hk (g' := gb440) (o := .cells #[u441000, u441001] 55 (0, 0)) (bk_ BK440.out) NB440_0.out (by simp))
               have n4_ := Aside0.mk (KeepBut.trans (by repeat (first | (with_reducible first | exact HK.out | apply KeepBut.set_ | apply keep_drewN | apply keep_drew | apply keep_alloc | refine keep_far ?_ GW439.out _ | refine keep_far ?_ GW440.out _) | exact HK.out)) hk (.inl rfl))
               have n5_ := Aside0.mk (hb)
               have n6_ := Aside0.mk (hi)
               clear HO_441000
               clear HO_441001
               clear BK439
               clear BK440
               clear HK
               clear HB
               clear HI0
               have HO_441000 := n0_
               have HO_441001 := n1_
               have BK439 := n2_
               have BK440 := n3_
               have HK := n4_
               have HB := n5_
               have HI0 := n6_
               clear n0_ n1_ n2_ n3_ n4_ n5_ n6_
               (try clear hb)
               (try clear hb2)
               (try clear hk)
               (try clear hi)
               refine hK.out _ _ ⟨(blk_cell BK440.out 0).trans rfl, (blk_cell BK440.out 1).trans rfl⟩ (fun hHeld => ?_)
               clear hK K
               refine norm_ (a' := ?_) ?_ ?_
               rotate_left
               ·show Act.put _ (some 83) _ = _
                simp only [Act.put, List.setIfInBounds_toArray, List.set_cons_zero, List.set_cons_succ, i64_w, i32_w]
                rfl
               refine pure_ (i := 10) (N := some 84) (v := ?_) (a' := ?_) #[true, true, true, true, true, true, true, true, true, true, true, false, false, false, false] rfl rfl (any_of HT_.out (by kernel_rfl)) (fun _ _ _ h => h) (Or.inl ⟨by rfl, ?_⟩) ?_ ?_
               rotate_left
               ·intro w'
                go_simp
                with_reducible rfl
               rotate_left
               ·simp only [Act.put, List.setIfInBounds_toArray, List.set_cons_zero, List.set_cons_succ, i64_w, i32_w]
                rfl
               refine one_ (i := 11) (N := some 85) #[true, true, true, true, true, true, true, true, true, true, true, true, false, false, false] rfl rfl (one_of HT_.out (by kernel_rfl)) (by decide) (fun K hK => ?_)
               refine value_ (w1 := ?_) (v := ?_) (by rfl) rfl ?_ ?_
               rotate_left 2
               ·go_simp
                constructor
                ·rfl
                ·rfl
               refine hK.out _ _ ⟨(blk_cell (blk_alloc BK440.out _) 0).trans rfl, (blk_cell (blk_alloc BK440.out _) 1).trans rfl⟩ (fun hHeld => ?_)
               clear hK K
               refine norm_ (a' := ?_) ?_ ?_
               rotate_left
               ·show Act.put _ (some 85) _ = _
                simp only [Act.put, List.setIfInBounds_toArray, List.set_cons_zero, List.set_cons_succ, i64_w, i32_w]
                rfl
               refine one_ (i := 12) (N := some 86) #[true, true, true, true, true, true, true, true, true, true, true, true, true, false, false] rfl rfl (one_of HT_.out (by kernel_rfl)) (by decide) (fun K hK => ?_)
               refine Kd.R_append_step k90 w.heap.size (by rfl) (.tmp 75) (.tmp 85) 53 90 (.agg #[(.int .i64 0), (.int .i64 0), (.int .i64 0)]) 24 rfl Try.underlying53 info90 rfl (by decide) (by omega) u441001 x441001_4 (⟨t473, t476, t479⟩ : S90) [.int .i64 t473, .int .i64 t476, .int .i64 t479] (fun _ => True) (fun _ => False) rfl rfl ?aP (fun _ hk => hk.elim) ?aF ?aO (Below.refl _ _) ?aS ?aL ?_
               (case aP => exact k90_mkM _ _ _ (⟨t473, t476, t479⟩ : S90))
               (case aF => exact (fun _ _ => trivial))
               (case aO => exact (ra_ HO_441001.out))
               (case aS => exact (keep_size (w := w) (g := g) (row := none) (by repeat (first | (with_reducible first | exact HK.out | apply KeepBut.set_ | apply keep_drewN | apply keep_drew | apply keep_alloc | refine keep_far ?_ GW439.out _ | refine keep_far ?_ GW440.out _) | exact HK.out))))
               (case aL => have := LMc89.out; omega)
               intro v483 w94 ho hb hg hat
               rw [← Ny482.out] at ho
               have n0_ := Aside0.mk (Kd.R_over' (ra_ HO_441000.out) (Kd.R_typed (ra_ HO_441001.out)) (by decide) hg)
               have n1_ := Aside0.mk (blk_grown (g := gb439) (o := .cells #[.slice none 0 0, .slice none 0 0] 55 (0, 0)) (bk_ BK439.out) hg (Kd.R_ne HO_441001.out BK439.out (by decide)))
               have n2_ := Aside0.mk (blk_grown (g := gb440) (o := .cells #[u441000, u441001] 55 (0, 0)) (bk_ BK440.out) hg (Kd.R_ne HO_441001.out BK440.out (by decide)))
               have n3_ := Aside0.mk (IsS78.grown (by repeat (first | (with_reducible first | exact HI0.out | apply IsS78.alloc | apply IsS78.drewN | apply IsS78.drew | apply IsS78.set_1 | apply IsS78.set_2 | refine IsS78.far ?_ NB0_439.out _ | refine IsS78.far ?_ NB0_440.out _) | exact HI0.out)) hg (IsS78.own_ne HI0.out HO_441001.out (by decide)))
               have n4_ := Aside0.mk (below_weaken (by repeat (first | (with_reducible first | exact HB.out | apply below_alloc | apply pw_below_drewN | apply below_drew1 | refine below_set ?_ (IsS78.ge HI0.out) | refine below_set ?_ GE439.out | refine below_set ?_ GE440.out) | exact HB.out)) HL.out hb)
               have n5_ := Aside0.mk (KeepBut.trans (by repeat (first | (with_reducible first | exact HK.out | apply KeepBut.set_ | apply keep_drewN | apply keep_drew | apply keep_alloc | refine keep_far ?_ GW439.out _ | refine keep_far ?_ GW440.out _) | exact HK.out)) (KeepBut.of_grown hg g) (Kd.R_base2 HO_441001.out))
               have n6_ := Aside0.mk (ho)
               clear HO_441000
               clear BK439
               clear BK440
               clear HI0
               clear HB
               clear HK
               clear HO_441001
               have HO_441000 := n0_
               have BK439 := n1_
               have BK440 := n2_
               have HI0 := n3_
               have HB := n4_
               have HK := n5_
               have HO484 := n6_
               clear n0_ n1_ n2_ n3_ n4_ n5_ n6_
               clear ho hb hg hat
               obtain ⟨Ao95, co95, eo95⟩ := Kd.R_slice HO484.out
               (first | subst eo95 | (injection eo95 with f1_ f2_ f3_; have f4_ := f1_.symm; have f5_ := f3_.symm; clear f1_ f2_ f3_; subst f4_; subst f5_))
               refine hK.out _ _ ⟨(blk_cell BK440.out 0).trans rfl, (blk_cell BK440.out 1).trans rfl⟩ (fun hHeld => ?_)
               clear hK K
               refine norm_ (a' := ?_) ?_ ?_
               rotate_left
               ·show Act.put _ (some 86) _ = _
                simp only [Act.put, List.setIfInBounds_toArray, List.set_cons_zero, List.set_cons_succ, i64_w, i32_w]
                rfl
               refine pure_ (i := 13) (N := some 87) (v := ?_) (a' := ?_) #[true, true, true, true, true, true, true, true, true, true, true, true, true, true, false] rfl rfl (any_of HT_.out (by kernel_rfl)) (fun _ _ _ h => h) (Or.inl ⟨by rfl, ?_⟩) ?_ ?_
               rotate_left
               ·intro w'
                go_simp
                with_reducible rfl
               rotate_left
               ·simp only [Act.put, List.setIfInBounds_toArray, List.set_cons_zero, List.set_cons_succ, i64_w, i32_w]
                rfl
               refine last_ (i := 14) (N := none) #[true, true, true, true, true, true, true, true, true, true, true, true, true, true, true] rfl rfl (one_of HT_.out (by kernel_rfl)) (by decide) (fun K hK => ?_)
               have hs96 : w94.cell? ⟨gb440, 1, none⟩ = some (u441001) := (blk_cell BK440.out 1).trans rfl
               have hfs96 := blk_frozen BK440.out 1
               have hns96_0 := NB439_440.out
               have hms96_0 := NB440_439.out
               refine skip_ (w1 := ?_) (by rfl) rfl ?_ ?_
               rotate_left
               ·go_simp
                rfl
               refine hK.out _ _ ?_
               clear hK K
               refine done_ (done_of HT_.out (by kernel_rfl)) ?_
               try go_wp2
               go_roundg k4
               case measure => have := HJ3.out; have := HK2.out; have := HK3.out; have := HK4.out; omega
               case rel => exact ⟨(wrap64 (x9_4 - 1)), (t480), (t481), (y482), (.slice Ao95 y482.length co95), es_, H', ⟨by have := HJ3.out; have := HK2.out; have := HK3.out; have := HK4.out; omega⟩, ⟨by (with_reducible repeat (first | apply Kd.R_alloc | apply Kd.R_drewN | apply Kd.R_drew)); exact Kd.R_mono (Kd.R_far (p := ⟨gb440, 1, none⟩) (Kd.R_types HO_441000.out BK440.out (by decide)) (fun _ hk => hk.2) (.slice Ao95 y482.length co95)) (fun _ hk => trivial)⟩, ⟨by (with_reducible repeat (first | apply Kd.R_alloc | apply Kd.R_drewN | apply Kd.R_drew)); exact Kd.R_mono (Kd.R_far (p := ⟨gb440, 1, none⟩) (Kd.R_types HO484.out BK440.out (by decide)) (fun _ hk => hk.2) (.slice Ao95 y482.length co95)) (fun _ hk => trivial)⟩, ⟨by (with_reducible repeat (first | refine blk_drewN ?_ _ | refine blk_drew ?_ | refine blk_alloc ?_ _)); refine blk_far ?_ NB439_440.out _; (with_reducible repeat (first | refine blk_drewN ?_ _ | refine blk_drew ?_ | refine blk_alloc ?_ _)); exact BK439.out⟩, ⟨by (with_reducible repeat (first | refine blk_drewN ?_ _ | refine blk_drew ?_ | refine blk_alloc ?_ _)); refine blk_put (cs := #[u441000, u441001]) ?_ 1 _ rfl; (with_reducible repeat (first | refine blk_drewN ?_ _ | refine blk_drew ?_ | refine blk_alloc ?_ _)); exact BK440.out⟩, ⟨by repeat (first | (with_reducible first | exact HI0.out | apply IsS78.alloc | apply IsS78.drewN | apply IsS78.drew | apply IsS78.set_1 | apply IsS78.set_2 | refine IsS78.far ?_ NB0_439.out _ | refine IsS78.far ?_ NB0_440.out _) | exact HI0.out)⟩, ⟨by repeat (first | (with_reducible first | exact HK.out | apply KeepBut.set_ | apply keep_drewN | apply keep_drew | apply keep_alloc | refine keep_far ?_ GW439.out _ | refine keep_far ?_ GW440.out _) | exact HK.out)⟩, ⟨by repeat (first | (with_reducible first | exact HB.out | apply below_alloc | apply pw_below_drewN | apply below_drew1 | refine below_set ?_ (IsS78.ge HI0.out) | refine below_set ?_ GE439.out | refine below_set ?_ GE440.out) | exact HB.out)⟩⟩
              ·rw [if_neg c89] at H
               exact absurd H (by simp)
             ·rw [if_neg c85] at H
              have c85b0 : decide (0 < x9_4) = false := decide_eq_false c85
              clear c85
              replace H := Option.bind_eq_some_iff.mp H
              obtain ⟨⟨t485, t486, t487⟩, A970, H⟩ := H
              replace H : (if t485 = 0 then ((spec_l1Cur_pick.f s0_0 t486 t487 x4_3).bind fun bt488 => ((spec_l1Cur_pick.f s0_0 bt488.2.1 bt488.2.2 x4_3).bind fun bt491 => (if 0 ≤ bt488.1 then (if bt488.1 < (x441000_3.length : Int) then (some ((x441000_3.set (bt488.1 : Int).toNat (⟨(rd_T88 x441000_3 bt488.1).f0, bt491.1⟩ : S88)), x441001_4, bt491.2.1, bt491.2.2)) else (none)) else (none)))) else (if t485 = 1 then (if x441001_4.length < 5864062014805 then (some (x441000_3, (x441001_4 ++ [(⟨x4_3, 0, 0⟩ : S90)]), t486, t487)) else (none)) else (if t485 = 2 then (if 0 ≤ (wrap64 (x4_3 - 1)) then (if (wrap64 (x4_3 - 1)) < (x441000_3.length : Int) then (some ((x441000_3.set ((wrap64 (x4_3 - 1)) : Int).toNat (⟨wrap64 (x4_3 - 1), (rd_T88 x441000_3 (wrap64 (x4_3 - 1))).f1⟩ : S88)), x441001_4, t486, t487)) else (none)) else (none)) else (some (x441000_3, x441001_4, t486, t487))))) = some (r1, r2, r3, r4) := H
              have A97 := Aside0.mk A970
              clear A970
              by_cases c98 : t485 = 0
              ·rw [if_pos c98] at H
               have c98b0 : (t485 == 0) = true := beq_iff_eq.mpr c98
               have c98b1 : (t485 != 0) = false := bne_eq_false_iff_eq.mpr c98
               clear c98
               replace H := Option.bind_eq_some_iff.mp H
               obtain ⟨⟨t488, t489, t490⟩, A990, H⟩ := H
               replace H : ((spec_l1Cur_pick.f s0_0 t489 t490 x4_3).bind fun bt491 => (if 0 ≤ t488 then (if t488 < (x441000_3.length : Int) then (some ((x441000_3.set (t488 : Int).toNat (⟨(rd_T88 x441000_3 t488).f0, bt491.1⟩ : S88)), x441001_4, bt491.2.1, bt491.2.2)) else (none)) else (none))) = some (r1, r2, r3, r4) := H
               have A99 := Aside0.mk A990
               clear A990
               replace H := Option.bind_eq_some_iff.mp H
               obtain ⟨⟨t491, t492, t493⟩, A1000, H⟩ := H
               replace H : (if 0 ≤ t488 then (if t488 < (x441000_3.length : Int) then (some ((x441000_3.set (t488 : Int).toNat (⟨(rd_T88 x441000_3 t488).f0, t491⟩ : S88)), x441001_4, t492, t493)) else (none)) else (none)) = some (r1, r2, r3, r4) := H
               have A100 := Aside0.mk A1000
               clear A1000
               by_cases c101 : 0 ≤ t488
               ·rw [if_pos c101] at H
                have c101b0 : decide (0 ≤ t488) = true := decide_eq_true c101
                clear c101
                by_cases c102 : t488 < (x441000_3.length : Int)
                ·rw [if_pos c102] at H
                 have c102b0 : decide (t488 < (x441000_3.length : Int)) = true := decide_eq_true c102
                 clear c102
                 obtain ⟨y494, hy494⟩ : ∃ y_ : List (S88), y_ = (x441000_3.set (t488 : Int).toNat (⟨(rd_T88 x441000_3 t488).f0, t491⟩ : S88)) := ⟨_, rfl⟩
                 replace H : (some (y494, x441001_4, t492, t493)) = some (r1, r2, r3, r4) := by first | (rw [hy494]; with_reducible exact H) | (have H2_ := (Option.bind_some _ _).symm.trans H; rw [hy494]; with_reducible exact H2_) | (have H2_ := (Option.bind_some _ _).symm.trans H; with_reducible exact H2_) | with_reducible exact H | (rw [hy494]; exact H) | exact H
                 have Ny494 := Aside0.mk hy494
                 clear hy494
                 simp only [Option.some.injEq, Prod.mk.injEq] at H
                 obtain ⟨rfl, rfl, rfl, rfl⟩ := H
                 try go_wp2_with (first | ((with_reducible refine gate_callee (f := 52) rfl ?_); refine goesL_ (some 89) rfl rfl Try.func52 (by kernel_rfl) rfl #[.pointer (some ⟨g, 0, none⟩), .int .i64 24] rfl ls_ ?_; (with_reducible refine (spec_l1Cur_pick.calls g s0_0 x1001_4 x1002_4 24 t485 t486 t487 w0 _ ?side1 ?side2 A97.out).mono ?_); (case side1 => repeat (first | (with_reducible first | exact HI0.out | apply IsS78.alloc | apply IsS78.drewN | apply IsS78.drew | apply IsS78.set_1 | apply IsS78.set_2 | refine IsS78.far ?_ NB0_439.out _ | refine IsS78.far ?_ NB0_440.out _) | exact HI0.out)); (case side2 => repeat (first | (with_reducible first | exact HB.out | apply below_alloc | apply pw_below_drewN | apply below_drew1 | refine below_set ?_ (IsS78.ge HI0.out) | refine below_set ?_ GE439.out | refine below_set ?_ GE440.out) | exact HB.out)); rintro e w104 ⟨rfl, hi, hb, hk⟩; refine ⟨_, rfl, ?_⟩; have n0_ := Aside0.mk (Kd.R_mono (Kd.R_keep (IsS78.apart (show IsS78 w0 _ g s0_0 x1001_4 x1002_4 from by repeat (first | (with_reducible first | exact HI0.out | apply IsS78.alloc | apply IsS78.drewN | apply IsS78.drew | apply IsS78.set_1 | apply IsS78.set_2 | refine IsS78.far ?_ NB0_439.out _ | refine IsS78.far ?_ NB0_440.out _) | exact HI0.out)) (ra_ HO_441000.out) (by decide)) hk (fun _ h => h.2)) (fun _ h => h.1)); have n1_ := Aside0.mk (Kd.R_mono (Kd.R_keep (IsS78.apart (show IsS78 w0 _ g s0_0 x1001_4 x1002_4 from by repeat (first | (with_reducible first | exact HI0.out | apply IsS78.alloc | apply IsS78.drewN | apply IsS78.drew | apply IsS78.set_1 | apply IsS78.set_2 | refine IsS78.far ?_ NB0_439.out _ | refine IsS78.far ?_ NB0_440.out _) | exact HI0.out)) (ra_ HO_441001.out) (by decide)) hk (fun _ h => h.2)) (fun _ h => h.1)); have n2_ := Aside0.mk (KeepBut.blk hk (g' := gb439) (o := .cells #[.slice none 0 0, .slice none 0 0] 55 (0, 0)) (bk_ BK439.out) NB439_0.out (by simp)); have n3_ := Aside0.mk (KeepBut.blk hk (g' := gb440) (o := .cells #[u441000, u441001] 55 (0, 0)) (bk_ BK440.out) NB440_0.out (by simp)); have n4_ := Aside0.mk (KeepBut.trans (by repeat (first | (with_reducible first | exact HK.out | apply KeepBut.set_ | apply keep_drewN | apply keep_drew | apply keep_alloc | refine keep_far ?_ GW439.out _ | refine keep_far ?_ GW440.out _) | exact HK.out)) hk (.inl rfl)); have n5_ := Aside0.mk (hb); have n6_ := Aside0.mk (hi); clear HO_441000; clear HO_441001; clear BK439; clear BK440; clear HK; clear HB; clear HI0; have HO_441000 := n0_; have HO_441001 := n1_; have BK439 := n2_; have BK440 := n3_; have HK := n4_; have HB := n5_; have HI0 := n6_; clear n0_ n1_ n2_ n3_ n4_ n5_ n6_; (try clear hb); (try clear hb2); (try clear hk); (try clear hi)))
                 have n0_ := Aside0.mk (Kd.R_drew HO_441000.out)
                 have n1_ := Aside0.mk (Kd.R_drew HO_441001.out)
                 have n2_ := Aside0.mk (blk_drew BK439.out)
                 have n3_ := Aside0.mk (blk_drew BK440.out)
                 have n4_ := Aside0.mk (IsS78.drew HI0.out)
                 have n5_ := Aside0.mk (keep_drew HK.out)
                 have n6_ := Aside0.mk (below_drew1 HB.out)
                 clear HO_441000
                 clear HO_441001
                 clear BK439
                 clear BK440
                 clear HI0
                 clear HK
                 clear HB
                 have HO_441000 := n0_
                 have HO_441001 := n1_
                 have BK439 := n2_
                 have BK440 := n3_
                 have HI0 := n4_
                 have HK := n5_
                 have HB := n6_
                 clear n0_ n1_ n2_ n3_ n4_ n5_ n6_
                 refine start_ (n := 11) (S := fun w' => w'.cell? ⟨gb440, 0, none⟩ = some (u441000) ∧ w'.cell? ⟨gb440, 1, none⟩ = some (u441001)) (ds := [10]) #[false, false, false, false, false, false, false, false, false, false, false] (by kernel_rfl) rfl rfl ⟨(blk_cell BK440.out 0).trans rfl, (blk_cell BK440.out 1).trans rfl⟩ (fun hHeld => ?_); refine with_tabW spec_l1Cur_chart.tab26 spec_l1Cur_chart.bits26 (fun HT_ HW_ => ?_)
                 generalize w104.drew = w105 at HO_441000 HO_441001 BK439 BK440 HI0 HK HB hHeld ⊢
                 refine pure_ (i := 0) (N := some 92) (v := ?_) (a' := ?_) #[true, false, false, false, false, false, false, false, false, false, false] rfl rfl (any_of HT_.out (by kernel_rfl)) (fun _ _ _ h => h) (Or.inl ⟨by rfl, ?_⟩) ?_ ?_
                 rotate_left
                 ·intro w'
                  go_simp
                  with_reducible rfl
                 rotate_left
                 ·simp only [Act.put, List.setIfInBounds_toArray, List.set_cons_zero, List.set_cons_succ, i64_w, i32_w]
                  rfl
                 refine pure_ (i := 2) (N := some 94) (v := ?_) (a' := ?_) #[true, false, true, false, false, false, false, false, false, false, false] rfl rfl (any_of HT_.out (by kernel_rfl)) (fun _ _ _ h => h) (Or.inl ⟨by rfl, ?_⟩) ?_ ?_
                 rotate_left
                 ·intro w'
                  go_simp
                  with_reducible rfl
                 rotate_left
                 ·simp only [Act.put, List.setIfInBounds_toArray, List.set_cons_zero, List.set_cons_succ, i64_w, i32_w]
                  rfl
                 refine pure_ (i := 3) (N := some 95) (v := ?_) (a' := ?_) #[true, false, true, true, false, false, false, false, false, false, false] rfl rfl (any_of HT_.out (by kernel_rfl)) (fun _ _ _ h => h) (Or.inl ⟨by rfl, ?_⟩) ?_ ?_
                 rotate_left
                 ·intro w'
                  go_simp
                  with_reducible rfl
                 rotate_left
                 ·simp only [Act.put, List.setIfInBounds_toArray, List.set_cons_zero, List.set_cons_succ, i64_w, i32_w]
                  rfl
                 refine pure_ (i := 5) (N := some 97) (v := ?_) (a' := ?_) #[true, false, true, true, false, true, false, false, false, false, false] rfl rfl (any_of HT_.out (by kernel_rfl)) (fun _ _ _ h => h) (Or.inl ⟨by rfl, ?_⟩) ?_ ?_
                 rotate_left
                 ·intro w'
                  go_simp
                  with_reducible rfl
                 rotate_left
                 ·simp only [Act.put, List.setIfInBounds_toArray, List.set_cons_zero, List.set_cons_succ, i64_w, i32_w]
                  rfl
                 refine pure_ (i := 6) (N := some 98) (v := ?_) (a' := ?_) #[true, false, true, true, false, true, true, false, false, false, false] rfl rfl (any_of HT_.out (by kernel_rfl)) (fun _ _ _ h => h) (Or.inl ⟨by rfl, ?_⟩) ?_ ?_
                 rotate_left
                 ·intro w'
                  go_simp
                  with_reducible rfl
                 rotate_left
                 ·simp only [Act.put, List.setIfInBounds_toArray, List.set_cons_zero, List.set_cons_succ, i64_w, i32_w]
                  rfl
                 refine take_ (i := 1) (N := some 93) (v := ?_) (a' := ?_) #[true, true, true, true, false, true, true, false, false, false, false] rfl rfl (take_ofW HT_.out HW_.out (by kernel_rfl)) (fun _ _ _ h => h) (Or.inl ⟨by rfl, ?_⟩) hHeld ?_ ?_
                 rotate_left
                 ·rintro w' ⟨s0, s1⟩
                  go_simp
                  with_reducible rfl
                 rotate_left
                 ·simp only [Act.put, List.setIfInBounds_toArray, List.set_cons_zero, List.set_cons_succ, i64_w, i32_w]
                  rfl
                 refine one_ (i := 4) (N := some 96) #[true, true, true, true, true, true, true, false, false, false, false] rfl rfl (one_of HT_.out (by kernel_rfl)) (by decide) (fun K hK => ?_)
                 refine goes_ Try.func52 (by kernel_rfl) rfl #[.pointer (some ⟨g, 0, none⟩), .int .i64 x4_3] (by rfl) rfl rfl ls_ ?_
                 with_reducible refine (spec_l1Cur_pick.calls g s0_0 t486 t487 x4_3 t488 t489 t490 w0 _ ?side1 ?side2 A99.out).mono ?_
                 (case side1 => repeat (first | (with_reducible first | exact HI0.out | apply IsS78.alloc | apply IsS78.drewN | apply IsS78.drew | apply IsS78.set_1 | apply IsS78.set_2 | refine IsS78.far ?_ NB0_439.out _ | refine IsS78.far ?_ NB0_440.out _) | exact HI0.out))
                 (case side2 => repeat (first | (with_reducible first | exact HB.out | apply below_alloc | apply pw_below_drewN | apply below_drew1 | refine below_set ?_ (IsS78.ge HI0.out) | refine below_set ?_ GE439.out | refine below_set ?_ GE440.out) | exact HB.out))
                 rintro e w106 ⟨rfl, hi, hb, hk⟩
                 refine ⟨_, rfl, ?_⟩
                 have n0_ := Aside0.mk (Kd.R_mono (Kd.R_keep (IsS78.apart (show IsS78 w0 _ g s0_0 t486 t487 from by repeat (first | (with_reducible first | exact HI0.out | apply IsS78.alloc | apply IsS78.drewN | apply IsS78.drew | apply IsS78.set_1 | apply IsS78.set_2 | refine IsS78.far ?_ NB0_439.out _ | refine IsS78.far ?_ NB0_440.out _) | exact HI0.out)) (ra_ HO_441000.out) (by decide)) hk (fun _ h => h.2)) (fun _ h => h.1))
                 have n1_ := Aside0.mk (Kd.R_mono (Kd.R_keep (IsS78.apart (show IsS78 w0 _ g s0_0 t486 t487 from by repeat (first | (with_reducible first | exact HI0.out | apply IsS78.alloc | apply IsS78.drewN | apply IsS78.drew | apply IsS78.set_1 | apply IsS78.set_2 | refine IsS78.far ?_ NB0_439.out _ | refine IsS78.far ?_ NB0_440.out _) | exact HI0.out)) (ra_ HO_441001.out) (by decide)) hk (fun _ h => h.2)) (fun _ h => h.1))
                 have n2_ := Aside0.mk (KeepBut.blk hk (g' := gb439) (o := .cells #[.slice none 0 0, .slice none 0 0] 55 (0, 0)) (bk_ BK439.out) NB439_0.out (by simp))
                 have n3_ := Aside0.mk (KeepBut.blk hk (g' := gb440) (o := .cells #[u441000, u441001] 55 (0, 0)) (bk_ BK440.out) NB440_0.out (by simp))
                 have n4_ := Aside0.mk (KeepBut.trans (by repeat (first | (with_reducible first | exact HK.out | apply KeepBut.set_ | apply keep_drewN | apply keep_drew | apply keep_alloc | refine keep_far ?_ GW439.out _ | refine keep_far ?_ GW440.out _) | exact HK.out)) hk (.inl rfl))
                 have n5_ := Aside0.mk (hb)
                 have n6_ := Aside0.mk (hi)
                 clear HO_441000
                 clear HO_441001
                 clear BK439
                 clear BK440
                 clear HK
                 clear HB
                 clear HI0
                 have HO_441000 := n0_
                 have HO_441001 := n1_
                 have BK439 := n2_
                 have BK440 := n3_
                 have HK := n4_
                 have HB := n5_
                 have HI0 := n6_
                 clear n0_ n1_ n2_ n3_ n4_ n5_ n6_
                 (try clear hb)
                 (try clear hb2)
                 (try clear hk)
                 (try clear hi)
                 refine hK.out _ _ ⟨(blk_cell BK440.out 0).trans rfl, (blk_cell BK440.out 1).trans rfl⟩ (fun hHeld => ?_)
                 clear hK K
                 refine norm_ (a' := ?_) ?_ ?_
                 rotate_left
                 ·show Act.put _ (some 96) _ = _
                  simp only [Act.put, List.setIfInBounds_toArray, List.set_cons_zero, List.set_cons_succ, i64_w, i32_w]
                  rfl
                 refine one_ (i := 7) (N := some 99) #[true, true, true, true, true, true, true, true, false, false, false] rfl rfl (one_of HT_.out (by kernel_rfl)) (by decide) (fun K hK => ?_)
                 refine goes_ Try.func52 (by kernel_rfl) rfl #[.pointer (some ⟨g, 0, none⟩), .int .i64 x4_3] (by rfl) rfl rfl ls_ ?_
                 with_reducible refine (spec_l1Cur_pick.calls g s0_0 t489 t490 x4_3 t491 t492 t493 w0 _ ?side1 ?side2 A100.out).mono ?_
                 (case side1 => repeat (first | (with_reducible first | exact HI0.out | apply IsS78.alloc | apply IsS78.drewN | apply IsS78.drew | apply IsS78.set_1 | apply IsS78.set_2 | refine IsS78.far ?_ NB0_439.out _ | refine IsS78.far ?_ NB0_440.out _) | exact HI0.out))
                 (case side2 => repeat (first | (with_reducible first | exact HB.out | apply below_alloc | apply pw_below_drewN | apply below_drew1 | refine below_set ?_ (IsS78.ge HI0.out) | refine below_set ?_ GE439.out | refine below_set ?_ GE440.out) | exact HB.out))
                 rintro e w107 ⟨rfl, hi, hb, hk⟩
                 refine ⟨_, rfl, ?_⟩
                 have n0_ := Aside0.mk (Kd.R_mono (Kd.R_keep (IsS78.apart (show IsS78 w0 _ g s0_0 t489 t490 from by repeat (first | (with_reducible first | exact HI0.out | apply IsS78.alloc | apply IsS78.drewN | apply IsS78.drew | apply IsS78.set_1 | apply IsS78.set_2 | refine IsS78.far ?_ NB0_439.out _ | refine IsS78.far ?_ NB0_440.out _) | exact HI0.out)) (ra_ HO_441000.out) (by decide)) hk (fun _ h => h.2)) (fun _ h => h.1))
                 have n1_ := Aside0.mk (Kd.R_mono (Kd.R_keep (IsS78.apart (show IsS78 w0 _ g s0_0 t489 t490 from by repeat (first | (with_reducible first | exact HI0.out | apply IsS78.alloc | apply IsS78.drewN | apply IsS78.drew | apply IsS78.set_1 | apply IsS78.set_2 | refine IsS78.far ?_ NB0_439.out _ | refine IsS78.far ?_ NB0_440.out _) | exact HI0.out)) (ra_ HO_441001.out) (by decide)) hk (fun _ h => h.2)) (fun _ h => h.1))
                 have n2_ := Aside0.mk (KeepBut.blk hk (g' := gb439) (o := .cells #[.slice none 0 0, .slice none 0 0] 55 (0, 0)) (bk_ BK439.out) NB439_0.out (by simp))
                 have n3_ := Aside0.mk (KeepBut.blk hk (g' := gb440) (o := .cells #[u441000, u441001] 55 (0, 0)) (bk_ BK440.out) NB440_0.out (by simp))
                 have n4_ := Aside0.mk (KeepBut.trans (by repeat (first | (with_reducible first | exact HK.out | apply KeepBut.set_ | apply keep_drewN | apply keep_drew | apply keep_alloc | refine keep_far ?_ GW439.out _ | refine keep_far ?_ GW440.out _) | exact HK.out)) hk (.inl rfl))
                 have n5_ := Aside0.mk (hb)
                 have n6_ := Aside0.mk (hi)
                 clear HO_441000
                 clear HO_441001
                 clear BK439
                 clear BK440
                 clear HK
                 clear HB
                 clear HI0
                 have HO_441000 := n0_
                 have HO_441001 := n1_
                 have BK439 := n2_
                 have BK440 := n3_
                 have HK := n4_
                 have HB := n5_
                 have HI0 := n6_
                 clear n0_ n1_ n2_ n3_ n4_ n5_ n6_
                 (try clear hb)
                 (try clear hb2)
                 (try clear hk)
                 (try clear hi)
                 have p103 : 0 ≤ (t488 : Int) := of_decide_eq_true as_
                 have q103 : (t488 : Int) < ((x441000_3.length : Int) : Int) := of_decide_eq_true as_
                 obtain ⟨go103, co103, eo103, gb103, gl103, cl103, HG103⟩ := Kd.R_form HO_441000.out (by omega)
                 (first | cases eo103 | (injection eo103 with ea_ en_ ec_; (first | subst ea_ | (injection ea_ with ea_; subst ea_)); subst ec_; clear en_))
                 have GB103 := Aside0.mk gb103
                 have GG103 := Aside0.mk HG103
                 clear gb103 gl103 HG103
                 obtain ⟨ce103, hcl103, hM103, hcc103, hfr103⟩ := Kd.R_elem HO_441000.out z88 (t488 : Int) p103 q103
                 obtain rfl := k88_openM hM103
                 have hx103_0 : World.cell? _ ⟨go103, (t488 : Int).toNat * 2, none⟩ = some (.int .i64 ((rd_T88 x441000_3 t488).f0)) := hcc103 0 _ rfl
                 have hx103_1 : World.cell? _ ⟨go103, (t488 : Int).toNat * 2 + 1, none⟩ = some (.int .i64 ((rd_T88 x441000_3 t488).f1)) := hcc103 1 _ rfl
                 have hf103_0 : World.frozen? _ ⟨go103, (t488 : Int).toNat * 2, none⟩ = false := hfr103 0
                 have hf103_1 : World.frozen? _ ⟨go103, (t488 : Int).toNat * 2 + 1, none⟩ = false := hfr103 1
                 clear hcl103 hcc103 hfr103; (try clear hM103)
                 replace p103 := eq_true p103
                 replace q103 := eq_true q103
                 have HN0_go103 := Aside0.mk (show g ≠ go103 from by have h_ := IsS78.own_ne HI0.out HO_441000.out (by decide); intro e_; exact h_ (by rw [e_]; rfl))
                 obtain ⟨ce108, hcl108, hM108, hcc108, hfr108⟩ := Kd.R_elem HO_441000.out z88 (t488 : Int) (of_decide_eq_true as_) (by have h_ : (t488 : Int) < ((x441000_3.length : Int) : Int) := of_decide_eq_true as_; first | exact h_ | (have e_ := (Kd.R_reads' HO_441000.out).1; omega) | simpa using h_)
                 obtain rfl := k88_openM hM108
                 have HP108 := (Kd.R_seg HO_441000.out (t488 : Int) (of_decide_eq_true as_) (by have h_ : (t488 : Int) < ((x441000_3.length : Int) : Int) := of_decide_eq_true as_; first | exact h_ | (have e_ := (Kd.R_reads' HO_441000.out).1; omega) | simpa using h_) (seg := [.int .i64 t491]) (j := 1) hcl108 hcc108 (show 2 ≤ 2 from by decide) (x' := (⟨(rd_T88 x441000_3 t488).f0, t491⟩ : S88)) (k88_mkM _ _ _ (⟨(rd_T88 x441000_3 t488).f0, t491⟩ : S88) ) (fun _ hk => hk)).1
                 rw [← Ny494.out] at HP108
                 have HQ108 := Aside0.mk HP108
                 clear hcl108 hcc108 hfr108; (try clear hM108); clear HP108
                 refine hK.out _ _ ⟨(blk_cell BK440.out 0).trans rfl, (blk_cell BK440.out 1).trans rfl⟩ (fun hHeld => ?_)
                 clear hK K
                 refine norm_ (a' := ?_) ?_ ?_
                 rotate_left
                 ·show Act.put _ (some 99) _ = _
                  simp only [Act.put, List.setIfInBounds_toArray, List.set_cons_zero, List.set_cons_succ, i64_w, i32_w]
                  rfl
                 refine pure_ (i := 8) (N := some 100) (v := ?_) (a' := ?_) #[true, true, true, true, true, true, true, true, true, false, false] rfl rfl (any_of HT_.out (by kernel_rfl)) (fun _ _ _ h => h) (Or.inl ⟨by rfl, ?_⟩) ?_ ?_
                 rotate_left
                 ·intro w'
                  go_simp
                  with_reducible rfl
                 rotate_left
                 ·simp only [Act.put, List.setIfInBounds_toArray, List.set_cons_zero, List.set_cons_succ, i64_w, i32_w]
                  rfl
                 refine pure_ (i := 9) (N := some 101) (v := ?_) (a' := ?_) #[true, true, true, true, true, true, true, true, true, true, false] rfl rfl (any_of HT_.out (by kernel_rfl)) (fun _ _ _ h => h) (Or.inl ⟨by rfl, ?_⟩) ?_ ?_
                 rotate_left
                 ·intro w'
                  go_simp
                  with_reducible rfl
                 rotate_left
                 ·simp only [Act.put, List.setIfInBounds_toArray, List.set_cons_zero, List.set_cons_succ, i64_w, i32_w]
                  rfl
                 refine last_ (i := 10) (N := none) #[true, true, true, true, true, true, true, true, true, true, true] rfl rfl (one_of HT_.out (by kernel_rfl)) (by decide) (fun K hK => ?_)
                 refine skip_ (w1 := ?_) (by rfl) rfl ?_ ?_
                 rotate_left
                 ·go_simp
                  rfl
                 refine hK.out _ _ ?_
                 clear hK K
                 refine done_ (done_of HT_.out (by kernel_rfl)) ?_
                 have n0_ : Aside0 (Kd.R k88 88 (w107.setCell ⟨go103, (t488 : Int).toNat * 2 + 1, none⟩ (.int .i64 t491)) w.heap.size (fun _ => True) (.slice (some ⟨go103, 0, none⟩) x441000_3.length co103) y494) := ⟨ra_ HQ108.out⟩
                 have n1_ : Aside0 (Kd.R k90 90 (w107.setCell ⟨go103, (t488 : Int).toNat * 2 + 1, none⟩ (.int .i64 t491)) w.heap.size (fun _ => True) u441001 x441001_4) := ⟨by (with_reducible repeat (first | apply Kd.R_alloc | apply Kd.R_drewN | apply Kd.R_drew)); exact Kd.R_mono (Kd.R_far (p := ⟨go103, (t488 : Int).toNat * 2 + 1, none⟩) (Kd.R_types HO_441001.out GG103.out (by decide)) (fun _ hk => hk.2) (.int .i64 t491)) (fun _ hk => trivial)⟩
                 have n2_ : Aside0 ((w107.setCell ⟨go103, (t488 : Int).toNat * 2 + 1, none⟩ (.int .i64 t491)).heap[gb439]? = some (.cells #[.slice none 0 0, .slice none 0 0] 55 (0, 0))) := ⟨by (with_reducible repeat (first | refine blk_drewN ?_ _ | refine blk_drew ?_ | refine blk_alloc ?_ _)); refine blk_far ?_ (by have h_ := Kd.R_ne HO_441000.out BK439.out (by decide); intro e_; exact h_ (by rw [e_]; rfl)) _; (with_reducible repeat (first | refine blk_drewN ?_ _ | refine blk_drew ?_ | refine blk_alloc ?_ _)); exact BK439.out⟩
                 have n3_ : Aside0 ((w107.setCell ⟨go103, (t488 : Int).toNat * 2 + 1, none⟩ (.int .i64 t491)).heap[gb440]? = some (.cells #[.slice (some ⟨go103, 0, none⟩) x441000_3.length co103, u441001] 55 (0, 0))) := ⟨by (with_reducible repeat (first | refine blk_drewN ?_ _ | refine blk_drew ?_ | refine blk_alloc ?_ _)); refine blk_far ?_ (by have h_ := Kd.R_ne HO_441000.out BK440.out (by decide); intro e_; exact h_ (by rw [e_]; rfl)) _; (with_reducible repeat (first | refine blk_drewN ?_ _ | refine blk_drew ?_ | refine blk_alloc ?_ _)); exact BK440.out⟩
                 have n4_ : Aside0 (IsS78 w0 (w107.setCell ⟨go103, (t488 : Int).toNat * 2 + 1, none⟩ (.int .i64 t491)) g s0_0 t492 t493) := ⟨by repeat (first | (with_reducible first | exact HI0.out | apply IsS78.alloc | apply IsS78.drewN | apply IsS78.drew | apply IsS78.set_1 | apply IsS78.set_2 | refine IsS78.far ?_ HN0_go103.out _ | refine IsS78.far ?_ NB0_439.out _ | refine IsS78.far ?_ NB0_440.out _) | exact HI0.out)⟩
                 have n5_ : Aside0 (KeepBut w (w107.setCell ⟨go103, (t488 : Int).toNat * 2 + 1, none⟩ (.int .i64 t491)) g none) := ⟨by repeat (first | (with_reducible first | exact HK.out | apply KeepBut.set_ | apply keep_drewN | apply keep_drew | apply keep_alloc | refine keep_far ?_ GB103.out _ | refine keep_far ?_ GW439.out _ | refine keep_far ?_ GW440.out _) | exact HK.out)⟩
                 have n6_ : Aside0 (Below w0.heap.size w0 (w107.setCell ⟨go103, (t488 : Int).toNat * 2 + 1, none⟩ (.int .i64 t491))) := ⟨by repeat (first | (with_reducible first | exact HB.out | apply below_alloc | apply pw_below_drewN | apply below_drew1 | refine below_set ?_ (Nat.le_trans HL.out GB103.out) | refine below_set ?_ (IsS78.ge HI0.out) | refine below_set ?_ GE439.out | refine below_set ?_ GE440.out) | exact HB.out)⟩
                 (try clear HO_441000)
                 (try clear HO_441001)
                 (try clear BK439)
                 (try clear BK440)
                 (try clear HI0)
                 (try clear HK)
                 (try clear HB)
                 generalize (w107.setCell ⟨go103, (t488 : Int).toNat * 2 + 1, none⟩ (.int .i64 t491)) = w109 at n0_ n1_ n2_ n3_ n4_ n5_ n6_ ⊢
                 have HO_441000 := n0_
                 have HO_441001 := n1_
                 have BK439 := n2_
                 have BK440 := n3_
                 have HI0 := n4_
                 have HK := n5_
                 have HB := n6_
                 clear n0_ n1_ n2_ n3_ n4_ n5_ n6_
                 have hnb110 := NB440_439.out
                 have hnc110 := NB439_440.out
                 have hnb111 := NB440_0.out
                 have hnc111 := NB0_440.out
                 have hcz112_0 : w109.cell? ⟨gb440, 0, none⟩ = some (.slice (some ⟨go103, 0, none⟩) x441000_3.length co103) := (blk_cell BK440.out 0).trans rfl
                 have hcz112_1 : w109.cell? ⟨gb440, 1, none⟩ = some (u441001) := (blk_cell BK440.out 1).trans rfl
                 have hfz112_0 := blk_frozen BK440.out 0
                 have hfz112_1 := blk_frozen BK440.out 1
                 have hnb113 := NB439_0.out
                 have hnc113 := NB0_439.out
                 have hcz114_0 : w109.cell? ⟨gb439, 0, none⟩ = some (.slice none 0 0) := (blk_cell BK439.out 0).trans rfl
                 have hcz114_1 : w109.cell? ⟨gb439, 1, none⟩ = some (.slice none 0 0) := (blk_cell BK439.out 1).trans rfl
                 have hfz114_0 := blk_frozen BK439.out 0
                 have hfz114_1 := blk_frozen BK439.out 1
                 obtain ⟨Ao115, co115, eo115⟩ := Kd.R_slice HO_441001.out
                 subst eo115
                 try go_wp2
                 refine bodyPost_ret (results_cell_row rfl _ _ gb439 55 #[.slice (some ⟨go103, 0, none⟩) x441000_3.length co103, .slice Ao115 x441001_4.length co115] (0, 0) _ rfl (by (with_reducible repeat (first | refine blk_drewN ?_ _ | refine blk_drew ?_ | refine blk_alloc ?_ _)); refine blk_put (cs := #[.slice (some ⟨go103, 0, none⟩) x441000_3.length co103, .slice none 0 0]) ?_ 1 _ rfl; (with_reducible repeat (first | refine blk_drewN ?_ _ | refine blk_drew ?_ | refine blk_alloc ?_ _)); refine blk_put (cs := #[.slice none 0 0, .slice none 0 0]) ?_ 0 _ rfl; (with_reducible repeat (first | refine blk_drewN ?_ _ | refine blk_drew ?_ | refine blk_alloc ?_ _)); exact BK439.out) Try.underlying55 rfl (by kernel_rfl)) rfl ?_
                 exact ⟨_, _, er_, by (with_reducible repeat (first | apply Kd.R_alloc | apply Kd.R_drewN | apply Kd.R_drew)); exact Kd.R_mono (Kd.R_far (p := ⟨gb439, 1, none⟩) (Kd.R_far (p := ⟨gb439, 0, none⟩) (Kd.R_types HO_441000.out BK439.out (by decide)) (fun _ hk => hk.2) (.slice (some ⟨go103, 0, none⟩) x441000_3.length co103)) (fun _ hk => hk.2) (.slice Ao115 x441001_4.length co115)) (fun _ hk => trivial), by (with_reducible repeat (first | apply Kd.R_alloc | apply Kd.R_drewN | apply Kd.R_drew)); exact Kd.R_mono (Kd.R_far (p := ⟨gb439, 1, none⟩) (Kd.R_far (p := ⟨gb439, 0, none⟩) (Kd.R_types HO_441001.out BK439.out (by decide)) (fun _ hk => hk.2) (.slice (some ⟨go103, 0, none⟩) x441000_3.length co103)) (fun _ hk => hk.2) (.slice Ao115 x441001_4.length co115)) (fun _ hk => trivial), by repeat (first | (with_reducible first | exact HI0.out | apply IsS78.alloc | apply IsS78.drewN | apply IsS78.drew | apply IsS78.set_1 | apply IsS78.set_2 | refine IsS78.far ?_ NB0_439.out _ | refine IsS78.far ?_ NB0_440.out _) | exact HI0.out), by repeat (first | (with_reducible first | exact HB.out | apply below_alloc | apply pw_below_drewN | apply below_drew1 | refine below_set ?_ (IsS78.ge HI0.out) | refine below_set ?_ GE439.out | refine below_set ?_ GE440.out) | exact HB.out), by repeat (first | (with_reducible first | exact HK.out | apply KeepBut.set_ | apply keep_drewN | apply keep_drew | apply keep_alloc | refine keep_far ?_ GW439.out _ | refine keep_far ?_ GW440.out _) | exact HK.out)⟩
                ·rw [if_neg c102] at H
                 exact absurd H (by simp)
               ·rw [if_neg c101] at H
                exact absurd H (by simp)
              ·rw [if_neg c98] at H
               have c98b0 : (t485 == 0) = false := beq_eq_false_iff_ne.mpr c98
               have c98b1 : (t485 != 0) = true := bne_iff_ne.mpr c98
               by_cases c116 : t485 = 1
               ·rw [if_pos c116] at H
                have c116b0 : (t485 == 1) = true := beq_iff_eq.mpr c116
                have c116b1 : (t485 != 1) = false := bne_eq_false_iff_eq.mpr c116
                clear c116
                by_cases c117 : x441001_4.length < 5864062014805
                ·rw [if_pos c117] at H
                 have LMc117 := Aside0.mk c117
                 clear c117
                 obtain ⟨y495, hy495⟩ : ∃ y_ : List (S90), y_ = (x441001_4 ++ [(⟨x4_3, 0, 0⟩ : S90)]) := ⟨_, rfl⟩
                 replace H : (some (x441000_3, y495, t486, t487)) = some (r1, r2, r3, r4) := by first | (rw [hy495]; with_reducible exact H) | (have H2_ := (Option.bind_some _ _).symm.trans H; rw [hy495]; with_reducible exact H2_) | (have H2_ := (Option.bind_some _ _).symm.trans H; with_reducible exact H2_) | with_reducible exact H | (rw [hy495]; exact H) | exact H
                 have Ny495 := Aside0.mk hy495
                 clear hy495
                 simp only [Option.some.injEq, Prod.mk.injEq] at H
                 obtain ⟨rfl, rfl, rfl, rfl⟩ := H
                 go_wp2_with (first | ((with_reducible refine gate_callee (f := 52) rfl ?_); refine goesL_ (some 89) rfl rfl Try.func52 (by kernel_rfl) rfl #[.pointer (some ⟨g, 0, none⟩), .int .i64 24] rfl ls_ ?_; (with_reducible refine (spec_l1Cur_pick.calls g s0_0 x1001_4 x1002_4 24 t485 t486 t487 w0 _ ?side1 ?side2 A97.out).mono ?_); (case side1 => repeat (first | (with_reducible first | exact HI0.out | apply IsS78.alloc | apply IsS78.drewN | apply IsS78.drew | apply IsS78.set_1 | apply IsS78.set_2 | refine IsS78.far ?_ NB0_439.out _ | refine IsS78.far ?_ NB0_440.out _) | exact HI0.out)); (case side2 => repeat (first | (with_reducible first | exact HB.out | apply below_alloc | apply pw_below_drewN | apply below_drew1 | refine below_set ?_ (IsS78.ge HI0.out) | refine below_set ?_ GE439.out | refine below_set ?_ GE440.out) | exact HB.out)); rintro e w118 ⟨rfl, hi, hb, hk⟩; refine ⟨_, rfl, ?_⟩; have n0_ := Aside0.mk (Kd.R_mono (Kd.R_keep (IsS78.apart (show IsS78 w0 _ g s0_0 x1001_4 x1002_4 from by repeat (first | (with_reducible first | exact HI0.out | apply IsS78.alloc | apply IsS78.drewN | apply IsS78.drew | apply IsS78.set_1 | apply IsS78.set_2 | refine IsS78.far ?_ NB0_439.out _ | refine IsS78.far ?_ NB0_440.out _) | exact HI0.out)) (ra_ HO_441000.out) (by decide)) hk (fun _ h => h.2)) (fun _ h => h.1)); have n1_ := Aside0.mk (Kd.R_mono (Kd.R_keep (IsS78.apart (show IsS78 w0 _ g s0_0 x1001_4 x1002_4 from by repeat (first | (with_reducible first | exact HI0.out | apply IsS78.alloc | apply IsS78.drewN | apply IsS78.drew | apply IsS78.set_1 | apply IsS78.set_2 | refine IsS78.far ?_ NB0_439.out _ | refine IsS78.far ?_ NB0_440.out _) | exact HI0.out)) (ra_ HO_441001.out) (by decide)) hk (fun _ h => h.2)) (fun _ h => h.1)); have n2_ := Aside0.mk (KeepBut.blk hk (g' := gb439) (o := .cells #[.slice none 0 0, .slice none 0 0] 55 (0, 0)) (bk_ BK439.out) NB439_0.out (by simp)); have n3_ := Aside0.mk (KeepBut.blk hk (g' := gb440) (o := .cells #[u441000, u441001] 55 (0, 0)) (bk_ BK440.out) NB440_0.out (by simp)); have n4_ := Aside0.mk (KeepBut.trans (by repeat (first | (with_reducible first | exact HK.out | apply KeepBut.set_ | apply keep_drewN | apply keep_drew | apply keep_alloc | refine keep_far ?_ GW439.out _ | refine keep_far ?_ GW440.out _) | exact HK.out)) hk (.inl rfl)); have n5_ := Aside0.mk (hb); have n6_ := Aside0.mk (hi); clear HO_441000; clear HO_441001; clear BK439; clear BK440; clear HK; clear HB; clear HI0; have HO_441000 := n0_; have HO_441001 := n1_; have BK439 := n2_; have BK440 := n3_; have HK := n4_; have HB := n5_; have HI0 := n6_; clear n0_ n1_ n2_ n3_ n4_ n5_ n6_; (try clear hb); (try clear hb2); (try clear hk); (try clear hi); have hnb119 := NB440_439.out; have hnc119 := NB439_440.out; have hnb120 := NB440_0.out; have hnc120 := NB0_440.out; have hcz121_0 : w118.cell? ⟨gb440, 0, none⟩ = some (u441000) := (blk_cell BK440.out 0).trans rfl; have hcz121_1 : w118.cell? ⟨gb440, 1, none⟩ = some (u441001) := (blk_cell BK440.out 1).trans rfl; have hfz121_0 := blk_frozen BK440.out 0; have hfz121_1 := blk_frozen BK440.out 1) | ((with_reducible refine gate_builtin (b := .append) (xs := #[.tmp 105, .tmp 108]) rfl ?_); at_builtin; refine Kd.R_append k90 w.heap.size rfl (.tmp 105) (.tmp 108) 53 90 (.agg #[(.int .i64 0), (.int .i64 0), (.int .i64 0)]) 24 rfl Try.underlying53 info90 rfl (by decide) (by omega) u441001 x441001_4 (⟨x4_3, 0, 0⟩ : S90) [.int .i64 x4_3, .int .i64 0, .int .i64 0] (fun _ => True) (fun _ => False) rfl rfl ?aP (fun _ hk => hk.elim) ?aF ?aO (Below.refl _ _) ?aS ?aL ?_; (case aP => exact k90_mkM _ _ _ (⟨x4_3, 0, 0⟩ : S90)); (case aF => exact (fun _ _ => trivial)); (case aO => exact (ra_ HO_441001.out)); (case aS => exact (keep_size (w := w) (g := g) (row := none) (by repeat (first | (with_reducible first | exact HK.out | apply KeepBut.set_ | apply keep_drewN | apply keep_drew | apply keep_alloc | refine keep_far ?_ GW439.out _ | refine keep_far ?_ GW440.out _) | exact HK.out)))); (case aL => have := LMc117.out; omega); intro v496 w122 ho hb hg hat; rw [← Ny495.out] at ho; have n0_ := Aside0.mk (Kd.R_over' (ra_ HO_441000.out) (Kd.R_typed (ra_ HO_441001.out)) (by decide) hg); have n1_ := Aside0.mk (blk_grown (g := gb439) (o := .cells #[.slice none 0 0, .slice none 0 0] 55 (0, 0)) (bk_ BK439.out) hg (Kd.R_ne HO_441001.out BK439.out (by decide))); have n2_ := Aside0.mk (blk_grown (g := gb440) (o := .cells #[u441000, u441001] 55 (0, 0)) (bk_ BK440.out) hg (Kd.R_ne HO_441001.out BK440.out (by decide))); have n3_ := Aside0.mk (IsS78.grown (by repeat (first | (with_reducible first | exact HI0.out | apply IsS78.alloc | apply IsS78.drewN | apply IsS78.drew | apply IsS78.set_1 | apply IsS78.set_2 | refine IsS78.far ?_ NB0_439.out _ | refine IsS78.far ?_ NB0_440.out _) | exact HI0.out)) hg (IsS78.own_ne HI0.out HO_441001.out (by decide))); have n4_ := Aside0.mk (below_weaken (by repeat (first | (with_reducible first | exact HB.out | apply below_alloc | apply pw_below_drewN | apply below_drew1 | refine below_set ?_ (IsS78.ge HI0.out) | refine below_set ?_ GE439.out | refine below_set ?_ GE440.out) | exact HB.out)) HL.out hb); have n5_ := Aside0.mk (KeepBut.trans (by repeat (first | (with_reducible first | exact HK.out | apply KeepBut.set_ | apply keep_drewN | apply keep_drew | apply keep_alloc | refine keep_far ?_ GW439.out _ | refine keep_far ?_ GW440.out _) | exact HK.out)) (KeepBut.of_grown hg g) (Kd.R_base2 HO_441001.out)); have n6_ := Aside0.mk (ho); clear HO_441000; clear BK439; clear BK440; clear HI0; clear HB; clear HK; clear HO_441001; have HO_441000 := n0_; have BK439 := n1_; have BK440 := n2_; have HI0 := n3_; have HB := n4_; have HK := n5_; have HO497 := n6_; clear n0_ n1_ n2_ n3_ n4_ n5_ n6_; clear ho hb hg hat; obtain ⟨Ao123, co123, eo123⟩ := Kd.R_slice HO497.out; subst eo123; have hcz124_0 : w122.cell? ⟨gb440, 0, none⟩ = some (u441000) := (blk_cell BK440.out 0).trans rfl; have hcz124_1 : w122.cell? ⟨gb440, 1, none⟩ = some (u441001) := (blk_cell BK440.out 1).trans rfl; have hfz124_0 := blk_frozen BK440.out 0; have hfz124_1 := blk_frozen BK440.out 1; obtain ⟨Ao125, co125, eo125⟩ := Kd.R_slice HO_441000.out; subst eo125; have hnb126 := NB439_0.out; have hnc126 := NB0_439.out; have hcz127_0 : w122.cell? ⟨gb439, 0, none⟩ = some (.slice none 0 0) := (blk_cell BK439.out 0).trans rfl; have hcz127_1 : w122.cell? ⟨gb439, 1, none⟩ = some (.slice none 0 0) := (blk_cell BK439.out 1).trans rfl; have hfz127_0 := blk_frozen BK439.out 0; have hfz127_1 := blk_frozen BK439.out 1))
                 refine bodyPost_ret (results_cell_row rfl _ _ gb439 55 #[.slice Ao125 x441000_3.length co125, .slice Ao123 y495.length co123] (0, 0) _ rfl (by (with_reducible repeat (first | refine blk_drewN ?_ _ | refine blk_drew ?_ | refine blk_alloc ?_ _)); refine blk_put (cs := #[.slice Ao125 x441000_3.length co125, .slice none 0 0]) ?_ 1 _ rfl; (with_reducible repeat (first | refine blk_drewN ?_ _ | refine blk_drew ?_ | refine blk_alloc ?_ _)); refine blk_put (cs := #[.slice none 0 0, .slice none 0 0]) ?_ 0 _ rfl; (with_reducible repeat (first | refine blk_drewN ?_ _ | refine blk_drew ?_ | refine blk_alloc ?_ _)); refine blk_far ?_ NB439_440.out _; (with_reducible repeat (first | refine blk_drewN ?_ _ | refine blk_drew ?_ | refine blk_alloc ?_ _)); exact BK439.out) Try.underlying55 rfl (by kernel_rfl)) rfl ?_
                 exact ⟨_, _, er_, by (with_reducible repeat (first | apply Kd.R_alloc | apply Kd.R_drewN | apply Kd.R_drew)); exact Kd.R_mono (Kd.R_far (p := ⟨gb439, 1, none⟩) (Kd.R_far (p := ⟨gb439, 0, none⟩) (Kd.R_far (p := ⟨gb440, 1, none⟩) (Kd.R_types (Kd.R_types HO_441000.out BK440.out (by decide)) BK439.out (by decide)) (fun _ hk => hk.1.2) (.slice Ao123 y495.length co123)) (fun _ hk => hk.2) (.slice Ao125 x441000_3.length co125)) (fun _ hk => hk.2) (.slice Ao123 y495.length co123)) (fun _ hk => trivial), by (with_reducible repeat (first | apply Kd.R_alloc | apply Kd.R_drewN | apply Kd.R_drew)); exact Kd.R_mono (Kd.R_far (p := ⟨gb439, 1, none⟩) (Kd.R_far (p := ⟨gb439, 0, none⟩) (Kd.R_far (p := ⟨gb440, 1, none⟩) (Kd.R_types (Kd.R_types HO497.out BK440.out (by decide)) BK439.out (by decide)) (fun _ hk => hk.1.2) (.slice Ao123 y495.length co123)) (fun _ hk => hk.2) (.slice Ao125 x441000_3.length co125)) (fun _ hk => hk.2) (.slice Ao123 y495.length co123)) (fun _ hk => trivial), by repeat (first | (with_reducible first | exact HI0.out | apply IsS78.alloc | apply IsS78.drewN | apply IsS78.drew | apply IsS78.set_1 | apply IsS78.set_2 | refine IsS78.far ?_ NB0_439.out _ | refine IsS78.far ?_ NB0_440.out _) | exact HI0.out), by repeat (first | (with_reducible first | exact HB.out | apply below_alloc | apply pw_below_drewN | apply below_drew1 | refine below_set ?_ (IsS78.ge HI0.out) | refine below_set ?_ GE439.out | refine below_set ?_ GE440.out) | exact HB.out), by repeat (first | (with_reducible first | exact HK.out | apply KeepBut.set_ | apply keep_drewN | apply keep_drew | apply keep_alloc | refine keep_far ?_ GW439.out _ | refine keep_far ?_ GW440.out _) | exact HK.out)⟩
                ·rw [if_neg c117] at H
                 exact absurd H (by simp)
               ·rw [if_neg c116] at H
                have c116b0 : (t485 == 1) = false := beq_eq_false_iff_ne.mpr c116
                have c116b1 : (t485 != 1) = true := bne_iff_ne.mpr c116
                by_cases c128 : t485 = 2
                ·rw [if_pos c128] at H
                 have c128b0 : (t485 == 2) = true := beq_iff_eq.mpr c128
                 have c128b1 : (t485 != 2) = false := bne_eq_false_iff_eq.mpr c128
                 clear c128
                 obtain ⟨ji129, hji129⟩ : ∃ j_ : Int, (wrap64 (x4_3 - 1)) = j_ := ⟨_, rfl⟩
                 replace H : (if 0 ≤ (ji129) then (if (ji129) < (x441000_3.length : Int) then (some ((x441000_3.set ((ji129) : Int).toNat (⟨ji129, (rd_T88 x441000_3 (ji129)).f1⟩ : S88)), x441001_4, t486, t487)) else (none)) else (none)) = some (r1, r2, r3, r4) := by first | (rw [hji129] at H; exact H) | (simp only [hji129] at H ⊢; exact H)
                 (try rw [hji129] at A97)
                 have hji129w : (IntKind.i64.wrap (x4_3 - 1)) = ji129 := (i64_w _).trans hji129
                 by_cases c130 : 0 ≤ (ji129)
                 ·rw [if_pos c130] at H
                  have c130b0 : decide (0 ≤ (ji129)) = true := decide_eq_true c130
                  clear c130
                  by_cases c131 : (ji129) < (x441000_3.length : Int)
                  ·rw [if_pos c131] at H
                   have c131b0 : decide ((ji129) < (x441000_3.length : Int)) = true := decide_eq_true c131
                   clear c131
                   obtain ⟨y498, hy498⟩ : ∃ y_ : List (S88), y_ = (x441000_3.set ((ji129) : Int).toNat (⟨ji129, (rd_T88 x441000_3 (ji129)).f1⟩ : S88)) := ⟨_, rfl⟩
                   replace H : (some (y498, x441001_4, t486, t487)) = some (r1, r2, r3, r4) := by first | (rw [hy498]; with_reducible exact H) | (have H2_ := (Option.bind_some _ _).symm.trans H; rw [hy498]; with_reducible exact H2_) | (have H2_ := (Option.bind_some _ _).symm.trans H; with_reducible exact H2_) | with_reducible exact H | (rw [hy498]; exact H) | exact H
                   have Ny498 := Aside0.mk hy498
                   clear hy498
                   simp only [Option.some.injEq, Prod.mk.injEq] at H
                   obtain ⟨rfl, rfl, rfl, rfl⟩ := H
                   go_wp2_with (first | ((with_reducible refine gate_callee (f := 52) rfl ?_); refine goesL_ (some 89) rfl rfl Try.func52 (by kernel_rfl) rfl #[.pointer (some ⟨g, 0, none⟩), .int .i64 24] rfl ls_ ?_; (with_reducible refine (spec_l1Cur_pick.calls g s0_0 x1001_4 x1002_4 24 t485 t486 t487 w0 _ ?side1 ?side2 A97.out).mono ?_); (case side1 => repeat (first | (with_reducible first | exact HI0.out | apply IsS78.alloc | apply IsS78.drewN | apply IsS78.drew | apply IsS78.set_1 | apply IsS78.set_2 | refine IsS78.far ?_ NB0_439.out _ | refine IsS78.far ?_ NB0_440.out _) | exact HI0.out)); (case side2 => repeat (first | (with_reducible first | exact HB.out | apply below_alloc | apply pw_below_drewN | apply below_drew1 | refine below_set ?_ (IsS78.ge HI0.out) | refine below_set ?_ GE439.out | refine below_set ?_ GE440.out) | exact HB.out)); rintro e w133 ⟨rfl, hi, hb, hk⟩; refine ⟨_, rfl, ?_⟩; have n0_ := Aside0.mk (Kd.R_mono (Kd.R_keep (IsS78.apart (show IsS78 w0 _ g s0_0 x1001_4 x1002_4 from by repeat (first | (with_reducible first | exact HI0.out | apply IsS78.alloc | apply IsS78.drewN | apply IsS78.drew | apply IsS78.set_1 | apply IsS78.set_2 | refine IsS78.far ?_ NB0_439.out _ | refine IsS78.far ?_ NB0_440.out _) | exact HI0.out)) (ra_ HO_441000.out) (by decide)) hk (fun _ h => h.2)) (fun _ h => h.1)); have n1_ := Aside0.mk (Kd.R_mono (Kd.R_keep (IsS78.apart (show IsS78 w0 _ g s0_0 x1001_4 x1002_4 from by repeat (first | (with_reducible first | exact HI0.out | apply IsS78.alloc | apply IsS78.drewN | apply IsS78.drew | apply IsS78.set_1 | apply IsS78.set_2 | refine IsS78.far ?_ NB0_439.out _ | refine IsS78.far ?_ NB0_440.out _) | exact HI0.out)) (ra_ HO_441001.out) (by decide)) hk (fun _ h => h.2)) (fun _ h => h.1)); have n2_ := Aside0.mk (KeepBut.blk hk (g' := gb439) (o := .cells #[.slice none 0 0, .slice none 0 0] 55 (0, 0)) (bk_ BK439.out) NB439_0.out (by simp)); have n3_ := Aside0.mk (KeepBut.blk hk (g' := gb440) (o := .cells #[u441000, u441001] 55 (0, 0)) (bk_ BK440.out) NB440_0.out (by simp)); have n4_ := Aside0.mk (KeepBut.trans (by repeat (first | (with_reducible first | exact HK.out | apply KeepBut.set_ | apply keep_drewN | apply keep_drew | apply keep_alloc | refine keep_far ?_ GW439.out _ | refine keep_far ?_ GW440.out _) | exact HK.out)) hk (.inl rfl)); have n5_ := Aside0.mk (hb); have n6_ := Aside0.mk (hi); clear HO_441000; clear HO_441001; clear BK439; clear BK440; clear HK; clear HB; clear HI0; have HO_441000 := n0_; have HO_441001 := n1_; have BK439 := n2_; have BK440 := n3_; have HK := n4_; have HB := n5_; have HI0 := n6_; clear n0_ n1_ n2_ n3_ n4_ n5_ n6_; (try clear hb); (try clear hb2); (try clear hk); (try clear hi); have hnb134 := NB440_439.out; have hnc134 := NB439_440.out; have hnb135 := NB440_0.out; have hnc135 := NB0_440.out; have hcz136_0 : w133.cell? ⟨gb440, 0, none⟩ = some (u441000) := (blk_cell BK440.out 0).trans rfl; have hcz136_1 : w133.cell? ⟨gb440, 1, none⟩ = some (u441001) := (blk_cell BK440.out 1).trans rfl; have hfz136_0 := blk_frozen BK440.out 0; have hfz136_1 := blk_frozen BK440.out 1; have p132 : 0 ≤ ((ji129) : Int) := of_decide_eq_true as_; have q132 : ((ji129) : Int) < ((x441000_3.length : Int) : Int) := of_decide_eq_true as_; obtain ⟨go132, co132, eo132, gb132, gl132, cl132, HG132⟩ := Kd.R_form HO_441000.out (by omega); (first | cases eo132 | (injection eo132 with ea_ en_ ec_; (first | subst ea_ | (injection ea_ with ea_; subst ea_)); subst ec_; clear en_)); have GB132 := Aside0.mk gb132; have GG132 := Aside0.mk HG132; clear gb132 gl132 HG132; obtain ⟨ce132, hcl132, hM132, hcc132, hfr132⟩ := Kd.R_elem HO_441000.out z88 ((ji129) : Int) p132 q132; obtain rfl := k88_openM hM132; have hx132_0 : w133.cell? ⟨go132, ((ji129) : Int).toNat * 2, none⟩ = some (.int .i64 ((rd_T88 x441000_3 (ji129)).f0)) := hcc132 0 _ rfl; have hx132_1 : w133.cell? ⟨go132, ((ji129) : Int).toNat * 2 + 1, none⟩ = some (.int .i64 ((rd_T88 x441000_3 (ji129)).f1)) := hcc132 1 _ rfl; have hf132_0 : w133.frozen? ⟨go132, ((ji129) : Int).toNat * 2, none⟩ = false := hfr132 0; have hf132_1 : w133.frozen? ⟨go132, ((ji129) : Int).toNat * 2 + 1, none⟩ = false := hfr132 1; clear hcl132 hcc132 hfr132; (try clear hM132); replace p132 := eq_true p132; replace q132 := eq_true q132; have HX137 := Aside0.mk (show Kd.R k88 88 w133 w.heap.size (fun _ => True) (.slice (some ⟨go132, 0, none⟩) x441000_3.length co132) x441000_3 from (ra_ HO_441000.out)); obtain ⟨ce137, hcl137, hM137, hcc137, hfr137⟩ := Kd.R_elem HX137.out z88 ((ji129) : Int) (of_decide_eq_true as_) (by have h_ : ((ji129) : Int) < ((x441000_3.length : Int) : Int) := of_decide_eq_true as_; first | exact h_ | (have e_ := (Kd.R_reads' HO_441000.out).1; omega) | simpa using h_); obtain rfl := k88_openM hM137; have HP137 := Kd.R_seg HX137.out ((ji129) : Int) (of_decide_eq_true as_) (by have h_ : ((ji129) : Int) < ((x441000_3.length : Int) : Int) := of_decide_eq_true as_; first | exact h_ | (have e_ := (Kd.R_reads' HO_441000.out).1; omega) | simpa using h_) (seg := [.int .i64 ji129]) (j := 0) hcl137 hcc137 (show 1 ≤ 2 from by decide) (x' := (⟨ji129, (rd_T88 x441000_3 (ji129)).f1⟩ : S88)) (k88_mkM _ _ _ (⟨ji129, (rd_T88 x441000_3 (ji129)).f1⟩ : S88) ) (fun _ hk => hk); have hx137_0 := hcc137 0 _ rfl; (try simp only [show (k88).sz = 2 from rfl, Nat.mul_one, Nat.add_zero] at hx137_0); have hf137_0 := hfr137 0; (try simp only [show (k88).sz = 2 from rfl, Nat.mul_one, Nat.add_zero] at hf137_0); clear hcl137 hcc137 hfr137; (try clear hM137)) | ((with_reducible refine gate_store (t := 3) (p := 120) rfl ?_); refine store_event (t := 3) (p := 120) (v := ?vo_w138) (w1 := (w133.setCell ⟨go132, ((ji129) : Int).toNat * 2, none⟩ (.int .i64 ji129))) ?hg ?ho ?hn ?hr ?_; (case ho => rfl); (case hg => rfl); (case hn => rfl); (case hr => first | (go_simp; done) | (go_simp; rfl)); intro w138 hw; have hg : w133.grownBy w138 (some go132) := (by rw [hw]; exact HP137.2); have hp_ : Kd.R k88 88 w138 w.heap.size (fun _ => True) (.slice (some ⟨go132, 0, none⟩) x441000_3.length co132) y498 := (by rw [hw, Ny498.out]; exact HP137.1); clear HP137; have n0_ := Aside0.mk (hp_); have n1_ := Aside0.mk (Kd.R_over' (v := (.slice (some ⟨go132, 0, none⟩) x441000_3.length co132)) (ra_ HO_441001.out) (Kd.R_typed HO_441000.out) (by decide) hg); have n2_ := Aside0.mk (blk_grown (g := gb439) (o := .cells #[.slice none 0 0, .slice none 0 0] 55 (0, 0)) (bk_ BK439.out) hg (Kd.R_ne HO_441000.out BK439.out (by decide))); have n3_ := Aside0.mk (blk_grown (g := gb440) (o := .cells #[.slice (some ⟨go132, 0, none⟩) x441000_3.length co132, u441001] 55 (0, 0)) (bk_ BK440.out) hg (Kd.R_ne HO_441000.out BK440.out (by decide))); have n4_ := Aside0.mk (IsS78.grown (by repeat (first | (with_reducible first | exact HI0.out | apply IsS78.alloc | apply IsS78.drewN | apply IsS78.drew | apply IsS78.set_1 | apply IsS78.set_2 | refine IsS78.far ?_ NB0_439.out _ | refine IsS78.far ?_ NB0_440.out _) | exact HI0.out)) hg (IsS78.own_ne HI0.out HO_441000.out (by decide))); have n5_ := Aside0.mk ((by rw [hw]; exact below_set (HB.out) (Nat.le_trans HL.out GB132.out) : Below w0.heap.size w0 w138)); have n6_ := Aside0.mk (KeepBut.trans (by repeat (first | (with_reducible first | exact HK.out | apply KeepBut.set_ | apply keep_drewN | apply keep_drew | apply keep_alloc | refine keep_far ?_ GW439.out _ | refine keep_far ?_ GW440.out _) | exact HK.out)) (KeepBut.of_grown hg g) (Kd.R_base2 HO_441000.out)); clear HO_441000; clear HO_441001; clear BK439; clear BK440; clear HI0; clear HB; clear HK; have HO_441000 := n0_; have HO_441001 := n1_; have BK439 := n2_; have BK440 := n3_; have HI0 := n4_; have HB := n5_; have HK := n6_; clear n0_ n1_ n2_ n3_ n4_ n5_ n6_; clear hg hw hp_; have hcz139_0 : w138.cell? ⟨gb440, 0, none⟩ = some (.slice (some ⟨go132, 0, none⟩) x441000_3.length co132) := (blk_cell BK440.out 0).trans rfl; have hcz139_1 : w138.cell? ⟨gb440, 1, none⟩ = some (u441001) := (blk_cell BK440.out 1).trans rfl; have hfz139_0 := blk_frozen BK440.out 0; have hfz139_1 := blk_frozen BK440.out 1; have hnb140 := NB439_0.out; have hnc140 := NB0_439.out; have hcz141_0 : w138.cell? ⟨gb439, 0, none⟩ = some (.slice none 0 0) := (blk_cell BK439.out 0).trans rfl; have hcz141_1 : w138.cell? ⟨gb439, 1, none⟩ = some (.slice none 0 0) := (blk_cell BK439.out 1).trans rfl; have hfz141_0 := blk_frozen BK439.out 0; have hfz141_1 := blk_frozen BK439.out 1; obtain ⟨Ao142, co142, eo142⟩ := Kd.R_slice HO_441001.out; subst eo142))
                   refine bodyPost_ret (results_cell_row rfl _ _ gb439 55 #[.slice (some ⟨go132, 0, none⟩) x441000_3.length co132, .slice Ao142 x441001_4.length co142] (0, 0) _ rfl (by (with_reducible repeat (first | refine blk_drewN ?_ _ | refine blk_drew ?_ | refine blk_alloc ?_ _)); refine blk_put (cs := #[.slice (some ⟨go132, 0, none⟩) x441000_3.length co132, .slice none 0 0]) ?_ 1 _ rfl; (with_reducible repeat (first | refine blk_drewN ?_ _ | refine blk_drew ?_ | refine blk_alloc ?_ _)); refine blk_put (cs := #[.slice none 0 0, .slice none 0 0]) ?_ 0 _ rfl; (with_reducible repeat (first | refine blk_drewN ?_ _ | refine blk_drew ?_ | refine blk_alloc ?_ _)); exact BK439.out) Try.underlying55 rfl (by kernel_rfl)) rfl ?_
                   exact ⟨_, _, by first | rfl | (simp [errW_none, errW_some] <;> rfl) | (simp only [← hji129]; first | rfl | (simp [errW_none, errW_some] <;> rfl)) | (simp [*, errW_none, errW_some] <;> rfl), by (with_reducible repeat (first | apply Kd.R_alloc | apply Kd.R_drewN | apply Kd.R_drew)); exact Kd.R_mono (Kd.R_far (p := ⟨gb439, 1, none⟩) (Kd.R_far (p := ⟨gb439, 0, none⟩) (Kd.R_types HO_441000.out BK439.out (by decide)) (fun _ hk => hk.2) (.slice (some ⟨go132, 0, none⟩) x441000_3.length co132)) (fun _ hk => hk.2) (.slice Ao142 x441001_4.length co142)) (fun _ hk => trivial), by (with_reducible repeat (first | apply Kd.R_alloc | apply Kd.R_drewN | apply Kd.R_drew)); exact Kd.R_mono (Kd.R_far (p := ⟨gb439, 1, none⟩) (Kd.R_far (p := ⟨gb439, 0, none⟩) (Kd.R_types HO_441001.out BK439.out (by decide)) (fun _ hk => hk.2) (.slice (some ⟨go132, 0, none⟩) x441000_3.length co132)) (fun _ hk => hk.2) (.slice Ao142 x441001_4.length co142)) (fun _ hk => trivial), by repeat (first | (with_reducible first | exact HI0.out | apply IsS78.alloc | apply IsS78.drewN | apply IsS78.drew | apply IsS78.set_1 | apply IsS78.set_2 | refine IsS78.far ?_ NB0_439.out _ | refine IsS78.far ?_ NB0_440.out _) | exact HI0.out), by repeat (first | (with_reducible first | exact HB.out | apply below_alloc | apply pw_below_drewN | apply below_drew1 | refine below_set ?_ (IsS78.ge HI0.out) | refine below_set ?_ GE439.out | refine below_set ?_ GE440.out) | exact HB.out), by repeat (first | (with_reducible first | exact HK.out | apply KeepBut.set_ | apply keep_drewN | apply keep_drew | apply keep_alloc | refine keep_far ?_ GW439.out _ | refine keep_far ?_ GW440.out _) | exact HK.out)⟩
                  ·rw [if_neg c131] at H
                   exact absurd H (by simp)
                 ·rw [if_neg c130] at H
                  exact absurd H (by simp)
                ·rw [if_neg c128] at H
                 have c128b0 : (t485 == 2) = false := beq_eq_false_iff_ne.mpr c128
                 have c128b1 : (t485 != 2) = true := bne_iff_ne.mpr c128
                 simp only [Option.some.injEq, Prod.mk.injEq] at H
                 obtain ⟨rfl, rfl, rfl, rfl⟩ := H
                 go_wp2_with (first | ((with_reducible refine gate_callee (f := 52) rfl ?_); refine goesL_ (some 89) rfl rfl Try.func52 (by kernel_rfl) rfl #[.pointer (some ⟨g, 0, none⟩), .int .i64 24] rfl ls_ ?_; (with_reducible refine (spec_l1Cur_pick.calls g s0_0 x1001_4 x1002_4 24 t485 t486 t487 w0 _ ?side1 ?side2 A97.out).mono ?_); (case side1 => repeat (first | (with_reducible first | exact HI0.out | apply IsS78.alloc | apply IsS78.drewN | apply IsS78.drew | apply IsS78.set_1 | apply IsS78.set_2 | refine IsS78.far ?_ NB0_439.out _ | refine IsS78.far ?_ NB0_440.out _) | exact HI0.out)); (case side2 => repeat (first | (with_reducible first | exact HB.out | apply below_alloc | apply pw_below_drewN | apply below_drew1 | refine below_set ?_ (IsS78.ge HI0.out) | refine below_set ?_ GE439.out | refine below_set ?_ GE440.out) | exact HB.out)); rintro e w143 ⟨rfl, hi, hb, hk⟩; refine ⟨_, rfl, ?_⟩; have n0_ := Aside0.mk (Kd.R_mono (Kd.R_keep (IsS78.apart (show IsS78 w0 _ g s0_0 x1001_4 x1002_4 from by repeat (first | (with_reducible first | exact HI0.out | apply IsS78.alloc | apply IsS78.drewN | apply IsS78.drew | apply IsS78.set_1 | apply IsS78.set_2 | refine IsS78.far ?_ NB0_439.out _ | refine IsS78.far ?_ NB0_440.out _) | exact HI0.out)) (ra_ HO_441000.out) (by decide)) hk (fun _ h => h.2)) (fun _ h => h.1)); have n1_ := Aside0.mk (Kd.R_mono (Kd.R_keep (IsS78.apart (show IsS78 w0 _ g s0_0 x1001_4 x1002_4 from by repeat (first | (with_reducible first | exact HI0.out | apply IsS78.alloc | apply IsS78.drewN | apply IsS78.drew | apply IsS78.set_1 | apply IsS78.set_2 | refine IsS78.far ?_ NB0_439.out _ | refine IsS78.far ?_ NB0_440.out _) | exact HI0.out)) (ra_ HO_441001.out) (by decide)) hk (fun _ h => h.2)) (fun _ h => h.1)); have n2_ := Aside0.mk (KeepBut.blk hk (g' := gb439) (o := .cells #[.slice none 0 0, .slice none 0 0] 55 (0, 0)) (bk_ BK439.out) NB439_0.out (by simp)); have n3_ := Aside0.mk (KeepBut.blk hk (g' := gb440) (o := .cells #[u441000, u441001] 55 (0, 0)) (bk_ BK440.out) NB440_0.out (by simp)); have n4_ := Aside0.mk (KeepBut.trans (by repeat (first | (with_reducible first | exact HK.out | apply KeepBut.set_ | apply keep_drewN | apply keep_drew | apply keep_alloc | refine keep_far ?_ GW439.out _ | refine keep_far ?_ GW440.out _) | exact HK.out)) hk (.inl rfl)); have n5_ := Aside0.mk (hb); have n6_ := Aside0.mk (hi); clear HO_441000; clear HO_441001; clear BK439; clear BK440; clear HK; clear HB; clear HI0; have HO_441000 := n0_; have HO_441001 := n1_; have BK439 := n2_; have BK440 := n3_; have HK := n4_; have HB := n5_; have HI0 := n6_; clear n0_ n1_ n2_ n3_ n4_ n5_ n6_; (try clear hb); (try clear hb2); (try clear hk); (try clear hi); have hnb144 := NB440_439.out; have hnc144 := NB439_440.out; have hnb145 := NB440_0.out; have hnc145 := NB0_440.out; have hcz146_0 : w143.cell? ⟨gb440, 0, none⟩ = some (u441000) := (blk_cell BK440.out 0).trans rfl; have hcz146_1 : w143.cell? ⟨gb440, 1, none⟩ = some (u441001) := (blk_cell BK440.out 1).trans rfl; have hfz146_0 := blk_frozen BK440.out 0; have hfz146_1 := blk_frozen BK440.out 1; obtain ⟨Ao147, co147, eo147⟩ := Kd.R_slice HO_441000.out; subst eo147; have hnb148 := NB439_0.out; have hnc148 := NB0_439.out; have hcz149_0 : w143.cell? ⟨gb439, 0, none⟩ = some (.slice none 0 0) := (blk_cell BK439.out 0).trans rfl; have hcz149_1 : w143.cell? ⟨gb439, 1, none⟩ = some (.slice none 0 0) := (blk_cell BK439.out 1).trans rfl; have hfz149_0 := blk_frozen BK439.out 0; have hfz149_1 := blk_frozen BK439.out 1; obtain ⟨Ao150, co150, eo150⟩ := Kd.R_slice HO_441001.out; subst eo150))
                 refine bodyPost_ret (results_cell_row rfl _ _ gb439 55 #[.slice Ao147 x441000_3.length co147, .slice Ao150 x441001_4.length co150] (0, 0) _ rfl (by (with_reducible repeat (first | refine blk_drewN ?_ _ | refine blk_drew ?_ | refine blk_alloc ?_ _)); refine blk_put (cs := #[.slice Ao147 x441000_3.length co147, .slice none 0 0]) ?_ 1 _ rfl; (with_reducible repeat (first | refine blk_drewN ?_ _ | refine blk_drew ?_ | refine blk_alloc ?_ _)); refine blk_put (cs := #[.slice none 0 0, .slice none 0 0]) ?_ 0 _ rfl; (with_reducible repeat (first | refine blk_drewN ?_ _ | refine blk_drew ?_ | refine blk_alloc ?_ _)); exact BK439.out) Try.underlying55 rfl (by kernel_rfl)) rfl ?_
                 exact ⟨_, _, er_, by (with_reducible repeat (first | apply Kd.R_alloc | apply Kd.R_drewN | apply Kd.R_drew)); exact Kd.R_mono (Kd.R_far (p := ⟨gb439, 1, none⟩) (Kd.R_far (p := ⟨gb439, 0, none⟩) (Kd.R_types HO_441000.out BK439.out (by decide)) (fun _ hk => hk.2) (.slice Ao147 x441000_3.length co147)) (fun _ hk => hk.2) (.slice Ao150 x441001_4.length co150)) (fun _ hk => trivial), by (with_reducible repeat (first | apply Kd.R_alloc | apply Kd.R_drewN | apply Kd.R_drew)); exact Kd.R_mono (Kd.R_far (p := ⟨gb439, 1, none⟩) (Kd.R_far (p := ⟨gb439, 0, none⟩) (Kd.R_types HO_441001.out BK439.out (by decide)) (fun _ hk => hk.2) (.slice Ao147 x441000_3.length co147)) (fun _ hk => hk.2) (.slice Ao150 x441001_4.length co150)) (fun _ hk => trivial), by repeat (first | (with_reducible first | exact HI0.out | apply IsS78.alloc | apply IsS78.drewN | apply IsS78.drew | apply IsS78.set_1 | apply IsS78.set_2 | refine IsS78.far ?_ NB0_439.out _ | refine IsS78.far ?_ NB0_440.out _) | exact HI0.out), by repeat (first | (with_reducible first | exact HB.out | apply below_alloc | apply pw_below_drewN | apply below_drew1 | refine below_set ?_ (IsS78.ge HI0.out) | refine below_set ?_ GE439.out | refine below_set ?_ GE440.out) | exact HB.out), by repeat (first | (with_reducible first | exact HK.out | apply KeepBut.set_ | apply keep_drewN | apply keep_drew | apply keep_alloc | refine keep_far ?_ GW439.out _ | refine keep_far ?_ GW440.out _) | exact HK.out)⟩

end Go.Proofs.Ytkhkgfihodljmaa.Pr
