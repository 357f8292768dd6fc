-- Written by this session's own print (wip/tools/mkmp.py) out of the translation. Lean checks it.
import Derived.Test.YtkhkgfihodljmaaPr0
import Derived.Test.YtkhkgfihodljmaaPr8
import Derived.Test.YtkhkgfihodljmaaPr17
import Derived.Test.YtkhkgfihodljmaaPrd1
namespace Go.Proofs.Ytkhkgfihodljmaa.Pr
open Go.RowKit Go.Proofs.YtkhkgfihodljmaaW.PrintWords Go.Proofs.YtkhkgfihodljmaaW.PrintLast Go.Proofs.YtkhkgfihodljmaaW.PrintMore
attribute [local go_sem] max2_int min2_int max_two min_two max_three min_three max_four min_four   -- for this text's walks alone
set_option linter.unusedVariables false
set_option linter.unusedSimpArgs false

set_option maxHeartbeats 8000000 in
set_option maxRecDepth 100000 in
theorem spec_l21Event.calls (a0 : Int) (r : Bool) (w : World) (h : spec_l21Event.f a0 = some r) :
   Calls Try.prog 72 #[.int .i64 a0] w fun e w' => e = .returned (.bool r) ∧ Drawn0 w w' := by
  have H : (if a0 ≥ 0 then (some (decide (a0 < 6))) else (some false)) = some r := h
  clear h
  by_cases c2 : a0 ≥ 0
  ·rw [if_pos c2] at H
   have c2b0 : decide (0 ≤ a0) = true := decide_eq_true c2
   clear c2
   obtain rfl := Option.some.inj H
   go_enter Try.func72, Try.ntmps72
   go_wp2
   go_ret
   exact ⟨es_, by repeat (first | exact Drawn0.refl _ | apply Drawn0.step)⟩
  ·rw [if_neg c2] at H
   have c2b0 : decide (0 ≤ a0) = false := decide_eq_false c2
   clear c2
   obtain rfl := Option.some.inj H
   go_enter Try.func72, Try.ntmps72
   go_wp2
   go_ret
   exact ⟨es_, by repeat (first | exact Drawn0.refl _ | apply Drawn0.step)⟩

set_option maxHeartbeats 8000000 in
set_option maxRecDepth 100000 in
theorem spec_l21Step.calls (k : Nat) (A0_0 : Option Addr) (c0_0 : Nat) (l0_0 : List (S88)) (A0_1 : Option Addr) (c0_1 : Nat) (l0_1 : List (S90)) (a1 : Int) (a2 : Int) (r : Int) (w : World) (hr0_0 : Kd.C k88 w A0_0 l0_0.length l0_0) (hc0_0 : l0_0.length ≤ c0_0) (hr0_1 : Kd.C k90 w A0_1 l0_1.length l0_1) (hc0_1 : l0_1.length ≤ c0_1) (h : spec_l21Step.f k l0_0 l0_1 a1 a2 = some r) :
   Calls Try.prog 73 #[.agg #[.slice A0_0 l0_0.length c0_0, .slice A0_1 l0_1.length c0_1], .int .i64 a1, .int .i64 a2] w fun e w' => e = .returned (.int .i64 r) ∧ Below w.heap.size w w' := by
  have hu55 := Try.underlying55
  have hu90 := Try.underlying90
  have HR0_0 := Aside0.mk hr0_0
  have HC0_0 := Aside0.mk hc0_0
  clear hr0_0 hc0_0
  have HR0_1 := Aside0.mk hr0_1
  have HC0_1 := Aside0.mk hc0_1
  clear hr0_1 hc0_1
  have HB := Aside0.mk (Below.refl w.heap.size w)
  have H : (spec_l21Step.l0 k a1 a2 a1 l0_0 l0_1) = some r := h
  clear h
  have H' := Aside0.mk H
  clear H
  go_enter Try.func73, Try.ntmps73
  go_wp2_with (first | ((with_reducible refine gate_dst (N := 3) rfl ?_); refine box_event ?hg (N := 3) ?hd (cs := #[.slice A0_0 l0_0.length c0_0, .slice A0_1 l0_1.length c0_1]) (t := 55) ?hr ?_; (case hd => rfl); (case hg => rfl); (case hr => first | (go_simp; done) | (go_simp; rfl)); intro gb273 hg w4 hbox hb; have n0_ := Aside0.mk (below_step hb_ hb); have n1_ := Aside0.mk (hbox); have n2_ : Aside0 (w.heap.size ≤ gb273) := gz_; have n3_ : Aside0 (w.heap.size ≤ gb273) := gz_; clear HB; have HB := n0_; have BK273 := n1_; have GW273 := n2_; have GE273 := n3_; clear n0_ n1_ n2_ n3_; clear hb hbox hg))
  go_loopg [7] k (fun kq v7 w' => ∃ (x7_1 : Int), v7 = .int .i64 x7_1 ∧ Aside0 (spec_l21Step.l0 kq a1 a2 x7_1 l0_0 l0_1 = some r) ∧ Aside0 (kq ≤ k) ∧ Aside0 (w'.heap[gb273]? = some (.cells #[(.slice A0_0 l0_0.length c0_0), (.slice A0_1 l0_1.length c0_1)] 55 (0, 0))) ∧ Aside0 (Below w.heap.size w w'))
  case atStart => exact ⟨(a1), es_, H', ⟨Nat.le_refl _⟩, ⟨bk_ BK273.out⟩, ⟨hb_⟩⟩
  case round =>
   clear H'
   try clear p2
   obtain ⟨x7_1, rfl, HA, HK1, BK273, HB⟩ := hrel
   cases gk with
   | zero => exact absurd HA.out (by simp [spec_l21Step.l0])
   | succ k1 =>
    have H := HA.out
    clear HA
    simp only [spec_l21Step.l0] at H
    by_cases c5 : x7_1 ≥ 0
    ·rw [if_pos c5] at H
     have c5b0 : decide (0 ≤ x7_1) = true := decide_eq_true c5
     clear c5
     have H' := Aside0.mk H
     clear H
     have hcz6_0 : wr.cell? ⟨gb273, 0, none⟩ = some (.slice A0_0 l0_0.length c0_0) := (blk_cell BK273.out 0).trans rfl
     have hcz6_1 : wr.cell? ⟨gb273, 1, none⟩ = some (.slice A0_1 l0_1.length c0_1) := (blk_cell BK273.out 1).trans rfl
     have hfz6_0 := blk_frozen BK273.out 0
     have hfz6_1 := blk_frozen BK273.out 1
     go_wp2
     go_loopg [22] k1 (fun kq v22 w' => ∃ (x22_2 : Int), v22 = .int .i64 x22_2 ∧ Aside0 (spec_l21Step.l1 kq a1 a2 x7_1 l0_1 (l0_1.length : Int) x22_2 l0_0 l0_1 = some r) ∧ Aside0 (kq ≤ k1) ∧ Aside0 (w'.heap[gb273]? = some (.cells #[(.slice A0_0 l0_0.length c0_0), (.slice A0_1 l0_1.length c0_1)] 55 (0, 0))) ∧ Aside0 (Below w.heap.size w w'))
     case atStart => exact ⟨(0), es_, H', ⟨Nat.le_refl _⟩, ⟨bk_ BK273.out⟩, ⟨hb_⟩⟩
     case round =>
      clear H'
      try clear p2
      try clear c5
      try clear c5b0
      try clear hcz6_0
      try clear hcz6_1
      try clear hfz6_0
      try clear hfz6_1
      try clear p2
      obtain ⟨x22_2, rfl, HA, HK2, BK273, HB⟩ := hrel
      cases gk with
      | zero => exact absurd HA.out (by simp [spec_l21Step.l1])
      | succ k2 =>
       have H := HA.out
       clear HA
       simp only [spec_l21Step.l1] at H
       by_cases c7 : x22_2 < (l0_1.length : Int)
       ·rw [if_pos c7] at H
        have c7b0 : decide (x22_2 < (l0_1.length : Int)) = true := decide_eq_true c7
        clear c7
        by_cases c8 : 0 ≤ x22_2
        ·rw [if_pos c8] at H
         have c8b0 : decide (0 ≤ x22_2) = true := decide_eq_true c8
         clear c8
         by_cases c9 : x22_2 < (l0_1.length : Int)
         ·rw [if_pos c9] at H
          have c9b0 : decide (x22_2 < (l0_1.length : Int)) = true := decide_eq_true c9
          clear c9
          by_cases c10 : ((rd_T90 l0_1 x22_2).f0) = x7_1
          ·rw [if_pos c10] at H
           have c10b0 : (((rd_T90 l0_1 x22_2).f0) == x7_1) = true := beq_iff_eq.mpr c10
           have c10b1 : (((rd_T90 l0_1 x22_2).f0) != x7_1) = false := bne_eq_false_iff_eq.mpr c10
           clear c10
           by_cases c11 : ((rd_T90 l0_1 x22_2).f1) = a2
           ·rw [if_pos c11] at H
            have c11b0 : (((rd_T90 l0_1 x22_2).f1) == a2) = true := beq_iff_eq.mpr c11
            have c11b1 : (((rd_T90 l0_1 x22_2).f1) != a2) = false := bne_eq_false_iff_eq.mpr c11
            clear c11
            replace H := Option.bind_eq_some_iff.mp H
            obtain ⟨t276, A120, H⟩ := H
            replace H : (some t276) = some r := H
            have A12 := Aside0.mk A120
            clear A120
            obtain rfl := Option.some.inj H
            have p274 : 0 ≤ (x22_2 : Int) := of_decide_eq_true as_
            have q274 : x22_2 < (l0_1.length : Int) := of_decide_eq_true as_
            obtain ⟨ad274, e274, hx274_0, hx274_1, hx274_2⟩ := at_T90 HR0_1.out x22_2 p274 q274
            cases e274
            replace hx274_0 := hc_ HB hx274_0
            replace hx274_1 := hc_ HB hx274_1
            replace hx274_2 := hc_ HB hx274_2
            replace p274 := eq_true p274
            replace q274 := eq_true q274
            go_wp2_with (first | ((with_reducible refine gate_dst (N := 9) rfl ?_); refine box_event ?hg (N := 9) ?hd (cs := #[.int .i64 0, .int .i64 0, .int .i64 0]) (t := 90) ?hr ?_; (case hd => rfl); (case hg => rfl); (case hr => first | (go_simp; done) | (go_simp; rfl)); intro gb275 hg w13 hbox hb; have n0_ := bb_ BK273 hb; have n1_ := Aside0.mk (below_step hb_ hb); have n2_ := Aside0.mk (hbox); have n3_ : Aside0 (w.heap.size ≤ gb275) := gz_; have n4_ : Aside0 (w.heap.size ≤ gb275) := gz_; have n5_ := Aside0.mk ((by rw [hg]; exact Nat.ne_of_lt (blk_lt (g := gb273) (o := .cells #[.slice A0_0 l0_0.length c0_0, .slice (some ad274) l0_1.length c0_1] 55 (0, 0)) (bk_ BK273.out)) : gb273 ≠ gb275)); have n6_ := Aside0.mk ((by rw [hg]; exact Nat.ne_of_gt (blk_lt (g := gb273) (o := .cells #[.slice A0_0 l0_0.length c0_0, .slice (some ad274) l0_1.length c0_1] 55 (0, 0)) (bk_ BK273.out)) : gb275 ≠ gb273)); clear BK273; clear HB; have BK273 := n0_; have HB := n1_; have BK275 := n2_; have GW275 := n3_; have GE275 := n4_; have NB273_275 := n5_; have NB275_273 := n6_; clear n0_ n1_ n2_ n3_ n4_ n5_ n6_; clear hb hbox hg; have hnb14 := NB275_273.out; have hnc14 := NB273_275.out; have hcz15_0 : w13.cell? ⟨gb275, 0, none⟩ = some (.int .i64 0) := (blk_cell BK275.out 0).trans rfl; have hcz15_1 : w13.cell? ⟨gb275, 1, none⟩ = some (.int .i64 0) := (blk_cell BK275.out 1).trans rfl; have hcz15_2 : w13.cell? ⟨gb275, 2, none⟩ = some (.int .i64 0) := (blk_cell BK275.out 2).trans rfl; have hfz15_0 := blk_frozen BK275.out 0; have hfz15_1 := blk_frozen BK275.out 1; have hfz15_2 := blk_frozen BK275.out 2; have hcz16_0 : w13.cell? ⟨gb273, 0, none⟩ = some (.slice A0_0 l0_0.length c0_0) := (blk_cell BK273.out 0).trans rfl; have hcz16_1 : w13.cell? ⟨gb273, 1, none⟩ = some (.slice (some ad274) l0_1.length c0_1) := (blk_cell BK273.out 1).trans rfl; have hfz16_0 := blk_frozen BK273.out 0; have hfz16_1 := blk_frozen BK273.out 1) | ((with_reducible refine gate_callee (f := 70) rfl ?_); refine goesL_ (some 39) rfl rfl Try.func70 (by kernel_rfl) rfl #[.agg #[.slice A0_0 l0_0.length c0_0, .slice (some ad274) l0_1.length c0_1], .int .i64 ((rd_T90 l0_1 x22_2).f2)] rfl ls_ ?_; (with_reducible refine (spec_l21Enter.calls k2 _ _ l0_0 _ _ l0_1 ((rd_T90 l0_1 x22_2).f2) t276 _ ?side1 ?side2 ?side3 ?side4 A12.out).mono ?_); (case side1 => exact Kd.C_below HR0_0.out hb_); (case side2 => exact HC0_0.out); (case side3 => exact Kd.C_below HR0_1.out hb_); (case side4 => exact HC0_1.out); rintro e w17 ⟨rfl, hb⟩; refine ⟨_, rfl, ?_⟩; have n0_ := Aside0.mk (blk_below (g := gb273) (o := .cells #[.slice A0_0 l0_0.length c0_0, .slice (some ad274) l0_1.length c0_1] 55 (0, 0)) (by (with_reducible repeat (first | refine blk_drewN ?_ _ | refine blk_drew ?_ | refine blk_alloc ?_ _)); refine blk_far ?_ NB273_275.out _; (with_reducible repeat (first | refine blk_drewN ?_ _ | refine blk_drew ?_ | refine blk_alloc ?_ _)); refine blk_far ?_ NB273_275.out _; (with_reducible repeat (first | refine blk_drewN ?_ _ | refine blk_drew ?_ | refine blk_alloc ?_ _)); refine blk_far ?_ NB273_275.out _; (with_reducible repeat (first | refine blk_drewN ?_ _ | refine blk_drew ?_ | refine blk_alloc ?_ _)); exact BK273.out) hb); have n1_ := Aside0.mk (blk_below (g := gb275) (o := .cells #[.int .i64 ((rd_T90 l0_1 x22_2).f0), .int .i64 ((rd_T90 l0_1 x22_2).f1), .int .i64 ((rd_T90 l0_1 x22_2).f2)] 90 (0, 0)) (by (with_reducible repeat (first | refine blk_drewN ?_ _ | refine blk_drew ?_ | refine blk_alloc ?_ _)); refine blk_put (cs := #[.int .i64 ((rd_T90 l0_1 x22_2).f0), .int .i64 ((rd_T90 l0_1 x22_2).f1), .int .i64 0]) ?_ 2 _ rfl; (with_reducible repeat (first | refine blk_drewN ?_ _ | refine blk_drew ?_ | refine blk_alloc ?_ _)); refine blk_put (cs := #[.int .i64 ((rd_T90 l0_1 x22_2).f0), .int .i64 0, .int .i64 0]) ?_ 1 _ rfl; (with_reducible repeat (first | refine blk_drewN ?_ _ | refine blk_drew ?_ | refine blk_alloc ?_ _)); refine blk_put (cs := #[.int .i64 0, .int .i64 0, .int .i64 0]) ?_ 0 _ rfl; (with_reducible repeat (first | refine blk_drewN ?_ _ | refine blk_drew ?_ | refine blk_alloc ?_ _)); exact BK275.out) hb); have n2_ := Aside0.mk (below_step hb_ hb); clear BK273; clear BK275; clear HB; have BK273 := n0_; have BK275 := n1_; have HB := n2_; clear n0_ n1_ n2_; (try clear hb); (try clear hb2); (try clear hk); (try clear hi)))
            go_ret
            exact ⟨er_, hb_⟩
           ·rw [if_neg c11] at H
            have c11b0 : (((rd_T90 l0_1 x22_2).f1) == a2) = false := beq_eq_false_iff_ne.mpr c11
            have c11b1 : (((rd_T90 l0_1 x22_2).f1) != a2) = true := bne_iff_ne.mpr c11
            have H' := Aside0.mk H
            clear H
            have p274 : 0 ≤ (x22_2 : Int) := of_decide_eq_true as_
            have q274 : x22_2 < (l0_1.length : Int) := of_decide_eq_true as_
            obtain ⟨ad274, e274, hx274_0, hx274_1, hx274_2⟩ := at_T90 HR0_1.out x22_2 p274 q274
            cases e274
            replace hx274_0 := hc_ HB hx274_0
            replace hx274_1 := hc_ HB hx274_1
            replace hx274_2 := hc_ HB hx274_2
            replace p274 := eq_true p274
            replace q274 := eq_true q274
            go_wp2_with (first | ((with_reducible refine gate_dst (N := 9) rfl ?_); refine box_event ?hg (N := 9) ?hd (cs := #[.int .i64 0, .int .i64 0, .int .i64 0]) (t := 90) ?hr ?_; (case hd => rfl); (case hg => rfl); (case hr => first | (go_simp; done) | (go_simp; rfl)); intro gb275 hg w18 hbox hb; have n0_ := bb_ BK273 hb; have n1_ := Aside0.mk (below_step hb_ hb); have n2_ := Aside0.mk (hbox); have n3_ : Aside0 (w.heap.size ≤ gb275) := gz_; have n4_ : Aside0 (w.heap.size ≤ gb275) := gz_; have n5_ := Aside0.mk ((by rw [hg]; exact Nat.ne_of_lt (blk_lt (g := gb273) (o := .cells #[.slice A0_0 l0_0.length c0_0, .slice (some ad274) l0_1.length c0_1] 55 (0, 0)) (bk_ BK273.out)) : gb273 ≠ gb275)); have n6_ := Aside0.mk ((by rw [hg]; exact Nat.ne_of_gt (blk_lt (g := gb273) (o := .cells #[.slice A0_0 l0_0.length c0_0, .slice (some ad274) l0_1.length c0_1] 55 (0, 0)) (bk_ BK273.out)) : gb275 ≠ gb273)); clear BK273; clear HB; have BK273 := n0_; have HB := n1_; have BK275 := n2_; have GW275 := n3_; have GE275 := n4_; have NB273_275 := n5_; have NB275_273 := n6_; clear n0_ n1_ n2_ n3_ n4_ n5_ n6_; clear hb hbox hg; have hnb19 := NB275_273.out; have hnc19 := NB273_275.out; have hcz20_0 : w18.cell? ⟨gb275, 0, none⟩ = some (.int .i64 0) := (blk_cell BK275.out 0).trans rfl; have hcz20_1 : w18.cell? ⟨gb275, 1, none⟩ = some (.int .i64 0) := (blk_cell BK275.out 1).trans rfl; have hcz20_2 : w18.cell? ⟨gb275, 2, none⟩ = some (.int .i64 0) := (blk_cell BK275.out 2).trans rfl; have hfz20_0 := blk_frozen BK275.out 0; have hfz20_1 := blk_frozen BK275.out 1; have hfz20_2 := blk_frozen BK275.out 2))
            go_roundg k2
            case measure => have := HK1.out; have := HK2.out; omega
            case rel => exact ⟨(wrap64 (x22_2 + 1)), es_, H', ⟨by have := HK1.out; have := HK2.out; omega⟩, ⟨by (with_reducible repeat (first | refine blk_drewN ?_ _ | refine blk_drew ?_ | refine blk_alloc ?_ _)); refine blk_far ?_ NB273_275.out _; (with_reducible repeat (first | refine blk_drewN ?_ _ | refine blk_drew ?_ | refine blk_alloc ?_ _)); refine blk_far ?_ NB273_275.out _; (with_reducible repeat (first | refine blk_drewN ?_ _ | refine blk_drew ?_ | refine blk_alloc ?_ _)); refine blk_far ?_ NB273_275.out _; (with_reducible repeat (first | refine blk_drewN ?_ _ | refine blk_drew ?_ | refine blk_alloc ?_ _)); exact BK273.out⟩, ⟨hb_⟩⟩
          ·rw [if_neg c10] at H
           have c10b0 : (((rd_T90 l0_1 x22_2).f0) == x7_1) = false := beq_eq_false_iff_ne.mpr c10
           have c10b1 : (((rd_T90 l0_1 x22_2).f0) != x7_1) = true := bne_iff_ne.mpr c10
           have H' := Aside0.mk H
           clear H
           have p274 : 0 ≤ (x22_2 : Int) := of_decide_eq_true as_
           have q274 : x22_2 < (l0_1.length : Int) := of_decide_eq_true as_
           obtain ⟨ad274, e274, hx274_0, hx274_1, hx274_2⟩ := at_T90 HR0_1.out x22_2 p274 q274
           cases e274
           replace hx274_0 := hc_ HB hx274_0
           replace hx274_1 := hc_ HB hx274_1
           replace hx274_2 := hc_ HB hx274_2
           replace p274 := eq_true p274
           replace q274 := eq_true q274
           go_wp2_with (first | ((with_reducible refine gate_dst (N := 9) rfl ?_); refine box_event ?hg (N := 9) ?hd (cs := #[.int .i64 0, .int .i64 0, .int .i64 0]) (t := 90) ?hr ?_; (case hd => rfl); (case hg => rfl); (case hr => first | (go_simp; done) | (go_simp; rfl)); intro gb275 hg w21 hbox hb; have n0_ := bb_ BK273 hb; have n1_ := Aside0.mk (below_step hb_ hb); have n2_ := Aside0.mk (hbox); have n3_ : Aside0 (w.heap.size ≤ gb275) := gz_; have n4_ : Aside0 (w.heap.size ≤ gb275) := gz_; have n5_ := Aside0.mk ((by rw [hg]; exact Nat.ne_of_lt (blk_lt (g := gb273) (o := .cells #[.slice A0_0 l0_0.length c0_0, .slice (some ad274) l0_1.length c0_1] 55 (0, 0)) (bk_ BK273.out)) : gb273 ≠ gb275)); have n6_ := Aside0.mk ((by rw [hg]; exact Nat.ne_of_gt (blk_lt (g := gb273) (o := .cells #[.slice A0_0 l0_0.length c0_0, .slice (some ad274) l0_1.length c0_1] 55 (0, 0)) (bk_ BK273.out)) : gb275 ≠ gb273)); clear BK273; clear HB; have BK273 := n0_; have HB := n1_; have BK275 := n2_; have GW275 := n3_; have GE275 := n4_; have NB273_275 := n5_; have NB275_273 := n6_; clear n0_ n1_ n2_ n3_ n4_ n5_ n6_; clear hb hbox hg; have hnb22 := NB275_273.out; have hnc22 := NB273_275.out; have hcz23_0 : w21.cell? ⟨gb275, 0, none⟩ = some (.int .i64 0) := (blk_cell BK275.out 0).trans rfl; have hcz23_1 : w21.cell? ⟨gb275, 1, none⟩ = some (.int .i64 0) := (blk_cell BK275.out 1).trans rfl; have hcz23_2 : w21.cell? ⟨gb275, 2, none⟩ = some (.int .i64 0) := (blk_cell BK275.out 2).trans rfl; have hfz23_0 := blk_frozen BK275.out 0; have hfz23_1 := blk_frozen BK275.out 1; have hfz23_2 := blk_frozen BK275.out 2))
           go_roundg k2
           case measure => have := HK1.out; have := HK2.out; omega
           case rel => exact ⟨(wrap64 (x22_2 + 1)), es_, H', ⟨by have := HK1.out; have := HK2.out; omega⟩, ⟨by (with_reducible repeat (first | refine blk_drewN ?_ _ | refine blk_drew ?_ | refine blk_alloc ?_ _)); refine blk_far ?_ NB273_275.out _; (with_reducible repeat (first | refine blk_drewN ?_ _ | refine blk_drew ?_ | refine blk_alloc ?_ _)); refine blk_far ?_ NB273_275.out _; (with_reducible repeat (first | refine blk_drewN ?_ _ | refine blk_drew ?_ | refine blk_alloc ?_ _)); refine blk_far ?_ NB273_275.out _; (with_reducible repeat (first | refine blk_drewN ?_ _ | refine blk_drew ?_ | refine blk_alloc ?_ _)); exact BK273.out⟩, ⟨hb_⟩⟩
         ·rw [if_neg c9] at H
          exact absurd H (by simp)
        ·rw [if_neg c8] at H
         exact absurd H (by simp)
       ·rw [if_neg c7] at H
        have c7b0 : decide (x22_2 < (l0_1.length : Int)) = false := decide_eq_false c7
        clear c7
        by_cases c24 : 0 ≤ x7_1
        ·rw [if_pos c24] at H
         have c24b0 : decide (0 ≤ x7_1) = true := decide_eq_true c24
         clear c24
         by_cases c25 : x7_1 < (l0_0.length : Int)
         ·rw [if_pos c25] at H
          have c25b0 : decide (x7_1 < (l0_0.length : Int)) = true := decide_eq_true c25
          clear c25
          have H' := Aside0.mk H
          clear H
          have hcz26_0 : wr.cell? ⟨gb273, 0, none⟩ = some (.slice A0_0 l0_0.length c0_0) := (blk_cell BK273.out 0).trans rfl
          have hcz26_1 : wr.cell? ⟨gb273, 1, none⟩ = some (.slice A0_1 l0_1.length c0_1) := (blk_cell BK273.out 1).trans rfl
          have hfz26_0 := blk_frozen BK273.out 0
          have hfz26_1 := blk_frozen BK273.out 1
          have p277 : 0 ≤ (x7_1 : Int) := of_decide_eq_true as_
          have q277 : x7_1 < (l0_0.length : Int) := of_decide_eq_true as_
          obtain ⟨ad277, e277, hx277_0, hx277_1⟩ := at_T88 HR0_0.out x7_1 p277 q277
          cases e277
          replace hx277_0 := hc_ HB hx277_0
          replace hx277_1 := hc_ HB hx277_1
          replace p277 := eq_true p277
          replace q277 := eq_true q277
          go_wp2
          go_roundg k2
          case measure => have := HK1.out; have := HK2.out; omega
          case rel => exact ⟨((rd_T88 l0_0 x7_1).f0), es_, H', ⟨by have := HK1.out; have := HK2.out; omega⟩, ⟨bk_ BK273.out⟩, ⟨hb_⟩⟩
         ·rw [if_neg c25] at H
          exact absurd H (by simp)
        ·rw [if_neg c24] at H
         exact absurd H (by simp)
    ·rw [if_neg c5] at H
     have c5b0 : decide (0 ≤ x7_1) = false := decide_eq_false c5
     clear c5
     obtain rfl := Option.some.inj H
     go_wp2
     go_ret
     exact ⟨er_, hb_⟩

set_option maxHeartbeats 8000000 in
set_option maxRecDepth 100000 in
theorem spec_ChartStep.calls (k : Nat) (A0_0 : Option Addr) (c0_0 : Nat) (l0_0 : List (S88)) (A0_1 : Option Addr) (c0_1 : Nat) (l0_1 : List (S90)) (a1 : Int) (a2 : Int) (r : Int) (w : World) (hr0_0 : Kd.C k88 w A0_0 l0_0.length l0_0) (hc0_0 : l0_0.length ≤ c0_0) (hr0_1 : Kd.C k90 w A0_1 l0_1.length l0_1) (hc0_1 : l0_1.length ≤ c0_1) (h : spec_ChartStep.f k l0_0 l0_1 a1 a2 = some r) :
   Calls Try.prog 38 #[.agg #[.slice A0_0 l0_0.length c0_0, .slice A0_1 l0_1.length c0_1], .int .i64 a1, .int .i64 a2] w fun e w' => e = .returned (.int .i64 r) ∧ Below w.heap.size w w' := by
  have hu55 := Try.underlying55
  have HR0_0 := Aside0.mk hr0_0
  have HC0_0 := Aside0.mk hc0_0
  clear hr0_0 hc0_0
  have HR0_1 := Aside0.mk hr0_1
  have HC0_1 := Aside0.mk hc0_1
  clear hr0_1 hc0_1
  have HB := Aside0.mk (Below.refl w.heap.size w)
  have H : ((spec_GoodChart.f k l0_0 l0_1).bind fun t279 => (if t279 = true then (if a1 < 0 then (some (-1)) else (if a1 ≥ (l0_0.length : Int) then (some (-1)) else (if 0 ≤ a1 then (if a1 < (l0_0.length : Int) then (if ((rd_T88 l0_0 a1).f1) = (-1) then ((spec_l21Event.f a2).bind fun t281 => (if t281 = true then ((spec_l21Step.f k l0_0 l0_1 a1 a2).bind fun t282 => (some t282)) else (some (-1)))) else (some (-1))) else (none)) else (none)))) else (some (-1)))) = some r := h
  clear h
  replace H := Option.bind_eq_some_iff.mp H
  obtain ⟨t279, A40, H⟩ := H
  replace H : (if t279 = true then (if a1 < 0 then (some (-1)) else (if a1 ≥ (l0_0.length : Int) then (some (-1)) else (if 0 ≤ a1 then (if a1 < (l0_0.length : Int) then (if ((rd_T88 l0_0 a1).f1) = (-1) then ((spec_l21Event.f a2).bind fun t281 => (if t281 = true then ((spec_l21Step.f k l0_0 l0_1 a1 a2).bind fun t282 => (some t282)) else (some (-1)))) else (some (-1))) else (none)) else (none)))) else (some (-1))) = some r := H
  have A4 := Aside0.mk A40
  clear A40
  by_cases c5 : t279 = true
  ·subst c5
   rw [if_pos rfl] at H
   by_cases c6 : a1 < 0
   ·rw [if_pos c6] at H
    have c6b0 : decide (a1 < 0) = true := decide_eq_true c6
    clear c6
    obtain rfl := Option.some.inj H
    go_enter Try.func38, Try.ntmps38
    go_wp2_with (first | ((with_reducible refine gate_dst (N := 3) rfl ?_); (try (refine gate_guard (by rfl) ?_; dsimp only)); refine box_event ?hg (N := 3) ?hd (cs := #[.slice A0_0 l0_0.length c0_0, .slice A0_1 l0_1.length c0_1]) (t := 55) ?hr ?_; (case hd => rfl); (case hg => rfl); (case hr => first | (go_simp; done) | (go_simp; rfl)); intro gb278 hg w7 hbox hb; have n0_ := Aside0.mk (below_step hb_ hb); have n1_ := Aside0.mk (hbox); have n2_ : Aside0 (w.heap.size ≤ gb278) := gz_; have n3_ : Aside0 (w.heap.size ≤ gb278) := gz_; clear HB; have HB := n0_; have BK278 := n1_; have GW278 := n2_; have GE278 := n3_; clear n0_ n1_ n2_ n3_; clear hb hbox hg; have hcz8_0 : w7.cell? ⟨gb278, 0, none⟩ = some (.slice A0_0 l0_0.length c0_0) := (blk_cell BK278.out 0).trans rfl; have hcz8_1 : w7.cell? ⟨gb278, 1, none⟩ = some (.slice A0_1 l0_1.length c0_1) := (blk_cell BK278.out 1).trans rfl; have hfz8_0 := blk_frozen BK278.out 0; have hfz8_1 := blk_frozen BK278.out 1) | ((with_reducible refine gate_callee (f := 32) rfl ?_); refine goesL_ (some 8) rfl rfl Try.func32 (by kernel_rfl) rfl #[.agg #[.slice A0_0 l0_0.length c0_0, .slice A0_1 l0_1.length c0_1]] rfl ls_ ?_; (with_reducible refine (spec_GoodChart.calls k _ _ l0_0 _ _ l0_1 true _ ?side1 ?side2 ?side3 ?side4 A4.out).mono ?_); (case side1 => exact cb_ HR0_0.out); (case side2 => exact HC0_0.out); (case side3 => exact cb_ HR0_1.out); (case side4 => exact HC0_1.out); rintro e w9 ⟨rfl, hb⟩; refine ⟨_, rfl, ?_⟩; have n0_ := bb_ BK278 hb; have n1_ := Aside0.mk (below_step hb_ hb); clear BK278; clear HB; have BK278 := n0_; have HB := n1_; clear n0_ n1_; (try clear hb); (try clear hb2); (try clear hk); (try clear hi)))
    go_ret
    exact ⟨er_, hb_⟩
   ·rw [if_neg c6] at H
    have c6b0 : decide (a1 < 0) = false := decide_eq_false c6
    clear c6
    by_cases c10 : a1 ≥ (l0_0.length : Int)
    ·rw [if_pos c10] at H
     have c10b0 : decide ((l0_0.length : Int) ≤ a1) = true := decide_eq_true c10
     clear c10
     obtain rfl := Option.some.inj H
     go_enter Try.func38, Try.ntmps38
     go_wp2_with (first | ((with_reducible refine gate_dst (N := 3) rfl ?_); (try (refine gate_guard (by rfl) ?_; dsimp only)); refine box_event ?hg (N := 3) ?hd (cs := #[.slice A0_0 l0_0.length c0_0, .slice A0_1 l0_1.length c0_1]) (t := 55) ?hr ?_; (case hd => rfl); (case hg => rfl); (case hr => first | (go_simp; done) | (go_simp; rfl)); intro gb278 hg w11 hbox hb; have n0_ := Aside0.mk (below_step hb_ hb); have n1_ := Aside0.mk (hbox); have n2_ : Aside0 (w.heap.size ≤ gb278) := gz_; have n3_ : Aside0 (w.heap.size ≤ gb278) := gz_; clear HB; have HB := n0_; have BK278 := n1_; have GW278 := n2_; have GE278 := n3_; clear n0_ n1_ n2_ n3_; clear hb hbox hg; have hcz12_0 : w11.cell? ⟨gb278, 0, none⟩ = some (.slice A0_0 l0_0.length c0_0) := (blk_cell BK278.out 0).trans rfl; have hcz12_1 : w11.cell? ⟨gb278, 1, none⟩ = some (.slice A0_1 l0_1.length c0_1) := (blk_cell BK278.out 1).trans rfl; have hfz12_0 := blk_frozen BK278.out 0; have hfz12_1 := blk_frozen BK278.out 1) | ((with_reducible refine gate_callee (f := 32) rfl ?_); refine goesL_ (some 8) rfl rfl Try.func32 (by kernel_rfl) rfl #[.agg #[.slice A0_0 l0_0.length c0_0, .slice A0_1 l0_1.length c0_1]] rfl ls_ ?_; (with_reducible refine (spec_GoodChart.calls k _ _ l0_0 _ _ l0_1 true _ ?side1 ?side2 ?side3 ?side4 A4.out).mono ?_); (case side1 => exact cb_ HR0_0.out); (case side2 => exact HC0_0.out); (case side3 => exact cb_ HR0_1.out); (case side4 => exact HC0_1.out); rintro e w13 ⟨rfl, hb⟩; refine ⟨_, rfl, ?_⟩; have n0_ := bb_ BK278 hb; have n1_ := Aside0.mk (below_step hb_ hb); clear BK278; clear HB; have BK278 := n0_; have HB := n1_; clear n0_ n1_; (try clear hb); (try clear hb2); (try clear hk); (try clear hi); have hcz14_0 : w13.cell? ⟨gb278, 0, none⟩ = some (.slice A0_0 l0_0.length c0_0) := (blk_cell BK278.out 0).trans rfl; have hcz14_1 : w13.cell? ⟨gb278, 1, none⟩ = some (.slice A0_1 l0_1.length c0_1) := (blk_cell BK278.out 1).trans rfl; have hfz14_0 := blk_frozen BK278.out 0; have hfz14_1 := blk_frozen BK278.out 1))
     go_ret
     exact ⟨er_, hb_⟩
    ·rw [if_neg c10] at H
     have c10b0 : decide ((l0_0.length : Int) ≤ a1) = false := decide_eq_false c10
     clear c10
     by_cases c15 : 0 ≤ a1
     ·rw [if_pos c15] at H
      have c15b0 : decide (0 ≤ a1) = true := decide_eq_true c15
      clear c15
      by_cases c16 : a1 < (l0_0.length : Int)
      ·rw [if_pos c16] at H
       have c16b0 : decide (a1 < (l0_0.length : Int)) = true := decide_eq_true c16
       clear c16
       by_cases c17 : ((rd_T88 l0_0 a1).f1) = (-1)
       ·rw [if_pos c17] at H
        have c17b0 : (((rd_T88 l0_0 a1).f1) == (-1)) = true := beq_iff_eq.mpr c17
        have c17b1 : (((rd_T88 l0_0 a1).f1) != (-1)) = false := bne_eq_false_iff_eq.mpr c17
        clear c17
        replace H := Option.bind_eq_some_iff.mp H
        obtain ⟨t281, A180, H⟩ := H
        replace H : (if t281 = true then ((spec_l21Step.f k l0_0 l0_1 a1 a2).bind fun t282 => (some t282)) else (some (-1))) = some r := H
        have A18 := Aside0.mk A180
        clear A180
        by_cases c19 : t281 = true
        ·subst c19
         rw [if_pos rfl] at H
         replace H := Option.bind_eq_some_iff.mp H
         obtain ⟨t282, A200, H⟩ := H
         replace H : (some t282) = some r := H
         have A20 := Aside0.mk A200
         clear A200
         obtain rfl := Option.some.inj H
         go_enter Try.func38, Try.ntmps38
         go_wp2_with (first | ((with_reducible refine gate_dst (N := 3) rfl ?_); (try (refine gate_guard (by rfl) ?_; dsimp only)); refine box_event ?hg (N := 3) ?hd (cs := #[.slice A0_0 l0_0.length c0_0, .slice A0_1 l0_1.length c0_1]) (t := 55) ?hr ?_; (case hd => rfl); (case hg => rfl); (case hr => first | (go_simp; done) | (go_simp; rfl)); intro gb278 hg w21 hbox hb; have n0_ := Aside0.mk (below_step hb_ hb); have n1_ := Aside0.mk (hbox); have n2_ : Aside0 (w.heap.size ≤ gb278) := gz_; have n3_ : Aside0 (w.heap.size ≤ gb278) := gz_; clear HB; have HB := n0_; have BK278 := n1_; have GW278 := n2_; have GE278 := n3_; clear n0_ n1_ n2_ n3_; clear hb hbox hg; have hcz22_0 : w21.cell? ⟨gb278, 0, none⟩ = some (.slice A0_0 l0_0.length c0_0) := (blk_cell BK278.out 0).trans rfl; have hcz22_1 : w21.cell? ⟨gb278, 1, none⟩ = some (.slice A0_1 l0_1.length c0_1) := (blk_cell BK278.out 1).trans rfl; have hfz22_0 := blk_frozen BK278.out 0; have hfz22_1 := blk_frozen BK278.out 1) | ((with_reducible refine gate_callee (f := 32) rfl ?_); refine goesL_ (some 8) rfl rfl Try.func32 (by kernel_rfl) rfl #[.agg #[.slice A0_0 l0_0.length c0_0, .slice A0_1 l0_1.length c0_1]] rfl ls_ ?_; (with_reducible refine (spec_GoodChart.calls k _ _ l0_0 _ _ l0_1 true _ ?side1 ?side2 ?side3 ?side4 A4.out).mono ?_); (case side1 => exact cb_ HR0_0.out); (case side2 => exact HC0_0.out); (case side3 => exact cb_ HR0_1.out); (case side4 => exact HC0_1.out); rintro e w23 ⟨rfl, hb⟩; refine ⟨_, rfl, ?_⟩; have n0_ := bb_ BK278 hb; have n1_ := Aside0.mk (below_step hb_ hb); clear BK278; clear HB; have BK278 := n0_; have HB := n1_; clear n0_ n1_; (try clear hb); (try clear hb2); (try clear hk); (try clear hi); have hcz24_0 : w23.cell? ⟨gb278, 0, none⟩ = some (.slice A0_0 l0_0.length c0_0) := (blk_cell BK278.out 0).trans rfl; have hcz24_1 : w23.cell? ⟨gb278, 1, none⟩ = some (.slice A0_1 l0_1.length c0_1) := (blk_cell BK278.out 1).trans rfl; have hfz24_0 := blk_frozen BK278.out 0; have hfz24_1 := blk_frozen BK278.out 1; have p280 : 0 ≤ (a1 : Int) := of_decide_eq_true as_; have q280 : a1 < (l0_0.length : Int) := of_decide_eq_true as_; obtain ⟨ad280, e280, hx280_0, hx280_1⟩ := at_T88 HR0_0.out a1 p280 q280; cases e280; replace hx280_0 := hc_ HB hx280_0; replace hx280_1 := hc_ HB hx280_1; replace p280 := eq_true p280; replace q280 := eq_true q280) | (go_at_call 72; (with_reducible refine (spec_l21Event.calls a2 true _ A18.out).mono ?_); rintro e w' ⟨rfl, ⟨nd, rfl⟩⟩) | ((with_reducible refine gate_callee (f := 73) rfl ?_); refine goesL_ (some 38) rfl rfl Try.func73 (by kernel_rfl) rfl #[.agg #[.slice (some ad280) l0_0.length c0_0, .slice A0_1 l0_1.length c0_1], .int .i64 a1, .int .i64 a2] rfl ls_ ?_; (with_reducible refine (spec_l21Step.calls k _ _ l0_0 _ _ l0_1 a1 a2 t282 _ ?side1 ?side2 ?side3 ?side4 A20.out).mono ?_); (case side1 => repeat (first | exact (Kd.C_below HR0_0.out hb_) | (with_reducible refine Kd.C_alloc ?_ _) | (with_reducible refine Kd.C_drewN ?_ _) | (with_reducible refine Kd.C_drew ?_))); (case side2 => exact HC0_0.out); (case side3 => repeat (first | exact (Kd.C_below HR0_1.out hb_) | (with_reducible refine Kd.C_alloc ?_ _) | (with_reducible refine Kd.C_drewN ?_ _) | (with_reducible refine Kd.C_drew ?_))); (case side4 => exact HC0_1.out); rintro e w25 ⟨rfl, hb⟩; refine ⟨_, rfl, ?_⟩; have n0_ := bb_ BK278 hb; have n1_ := Aside0.mk (below_step hb_ hb); clear BK278; clear HB; have BK278 := n0_; have HB := n1_; clear n0_ n1_; (try clear hb); (try clear hb2); (try clear hk); (try clear hi)))
         go_ret
         exact ⟨er_, hb_⟩
        ·replace c19 := Bool.eq_false_iff.mpr c19
         subst c19
         rw [if_neg (show ¬ (false = true) by decide)] at H
         obtain rfl := Option.some.inj H
         go_enter Try.func38, Try.ntmps38
         go_wp2_with (first | ((with_reducible refine gate_dst (N := 3) rfl ?_); (try (refine gate_guard (by rfl) ?_; dsimp only)); refine box_event ?hg (N := 3) ?hd (cs := #[.slice A0_0 l0_0.length c0_0, .slice A0_1 l0_1.length c0_1]) (t := 55) ?hr ?_; (case hd => rfl); (case hg => rfl); (case hr => first | (go_simp; done) | (go_simp; rfl)); intro gb278 hg w26 hbox hb; have n0_ := Aside0.mk (below_step hb_ hb); have n1_ := Aside0.mk (hbox); have n2_ : Aside0 (w.heap.size ≤ gb278) := gz_; have n3_ : Aside0 (w.heap.size ≤ gb278) := gz_; clear HB; have HB := n0_; have BK278 := n1_; have GW278 := n2_; have GE278 := n3_; clear n0_ n1_ n2_ n3_; clear hb hbox hg; have hcz27_0 : w26.cell? ⟨gb278, 0, none⟩ = some (.slice A0_0 l0_0.length c0_0) := (blk_cell BK278.out 0).trans rfl; have hcz27_1 : w26.cell? ⟨gb278, 1, none⟩ = some (.slice A0_1 l0_1.length c0_1) := (blk_cell BK278.out 1).trans rfl; have hfz27_0 := blk_frozen BK278.out 0; have hfz27_1 := blk_frozen BK278.out 1) | ((with_reducible refine gate_callee (f := 32) rfl ?_); refine goesL_ (some 8) rfl rfl Try.func32 (by kernel_rfl) rfl #[.agg #[.slice A0_0 l0_0.length c0_0, .slice A0_1 l0_1.length c0_1]] rfl ls_ ?_; (with_reducible refine (spec_GoodChart.calls k _ _ l0_0 _ _ l0_1 true _ ?side1 ?side2 ?side3 ?side4 A4.out).mono ?_); (case side1 => exact cb_ HR0_0.out); (case side2 => exact HC0_0.out); (case side3 => exact cb_ HR0_1.out); (case side4 => exact HC0_1.out); rintro e w28 ⟨rfl, hb⟩; refine ⟨_, rfl, ?_⟩; have n0_ := bb_ BK278 hb; have n1_ := Aside0.mk (below_step hb_ hb); clear BK278; clear HB; have BK278 := n0_; have HB := n1_; clear n0_ n1_; (try clear hb); (try clear hb2); (try clear hk); (try clear hi); have hcz29_0 : w28.cell? ⟨gb278, 0, none⟩ = some (.slice A0_0 l0_0.length c0_0) := (blk_cell BK278.out 0).trans rfl; have hcz29_1 : w28.cell? ⟨gb278, 1, none⟩ = some (.slice A0_1 l0_1.length c0_1) := (blk_cell BK278.out 1).trans rfl; have hfz29_0 := blk_frozen BK278.out 0; have hfz29_1 := blk_frozen BK278.out 1; have p280 : 0 ≤ (a1 : Int) := of_decide_eq_true as_; have q280 : a1 < (l0_0.length : Int) := of_decide_eq_true as_; obtain ⟨ad280, e280, hx280_0, hx280_1⟩ := at_T88 HR0_0.out a1 p280 q280; cases e280; replace hx280_0 := hc_ HB hx280_0; replace hx280_1 := hc_ HB hx280_1; replace p280 := eq_true p280; replace q280 := eq_true q280) | (go_at_call 72; (with_reducible refine (spec_l21Event.calls a2 false _ A18.out).mono ?_); rintro e w' ⟨rfl, ⟨nd, rfl⟩⟩))
         go_ret
         exact ⟨er_, hb_⟩
       ·rw [if_neg c17] at H
        have c17b0 : (((rd_T88 l0_0 a1).f1) == (-1)) = false := beq_eq_false_iff_ne.mpr c17
        have c17b1 : (((rd_T88 l0_0 a1).f1) != (-1)) = true := bne_iff_ne.mpr c17
        obtain rfl := Option.some.inj H
        go_enter Try.func38, Try.ntmps38
        go_wp2_with (first | ((with_reducible refine gate_dst (N := 3) rfl ?_); (try (refine gate_guard (by rfl) ?_; dsimp only)); refine box_event ?hg (N := 3) ?hd (cs := #[.slice A0_0 l0_0.length c0_0, .slice A0_1 l0_1.length c0_1]) (t := 55) ?hr ?_; (case hd => rfl); (case hg => rfl); (case hr => first | (go_simp; done) | (go_simp; rfl)); intro gb278 hg w30 hbox hb; have n0_ := Aside0.mk (below_step hb_ hb); have n1_ := Aside0.mk (hbox); have n2_ : Aside0 (w.heap.size ≤ gb278) := gz_; have n3_ : Aside0 (w.heap.size ≤ gb278) := gz_; clear HB; have HB := n0_; have BK278 := n1_; have GW278 := n2_; have GE278 := n3_; clear n0_ n1_ n2_ n3_; clear hb hbox hg; have hcz31_0 : w30.cell? ⟨gb278, 0, none⟩ = some (.slice A0_0 l0_0.length c0_0) := (blk_cell BK278.out 0).trans rfl; have hcz31_1 : w30.cell? ⟨gb278, 1, none⟩ = some (.slice A0_1 l0_1.length c0_1) := (blk_cell BK278.out 1).trans rfl; have hfz31_0 := blk_frozen BK278.out 0; have hfz31_1 := blk_frozen BK278.out 1) | ((with_reducible refine gate_callee (f := 32) rfl ?_); refine goesL_ (some 8) rfl rfl Try.func32 (by kernel_rfl) rfl #[.agg #[.slice A0_0 l0_0.length c0_0, .slice A0_1 l0_1.length c0_1]] rfl ls_ ?_; (with_reducible refine (spec_GoodChart.calls k _ _ l0_0 _ _ l0_1 true _ ?side1 ?side2 ?side3 ?side4 A4.out).mono ?_); (case side1 => exact cb_ HR0_0.out); (case side2 => exact HC0_0.out); (case side3 => exact cb_ HR0_1.out); (case side4 => exact HC0_1.out); rintro e w32 ⟨rfl, hb⟩; refine ⟨_, rfl, ?_⟩; have n0_ := bb_ BK278 hb; have n1_ := Aside0.mk (below_step hb_ hb); clear BK278; clear HB; have BK278 := n0_; have HB := n1_; clear n0_ n1_; (try clear hb); (try clear hb2); (try clear hk); (try clear hi); have hcz33_0 : w32.cell? ⟨gb278, 0, none⟩ = some (.slice A0_0 l0_0.length c0_0) := (blk_cell BK278.out 0).trans rfl; have hcz33_1 : w32.cell? ⟨gb278, 1, none⟩ = some (.slice A0_1 l0_1.length c0_1) := (blk_cell BK278.out 1).trans rfl; have hfz33_0 := blk_frozen BK278.out 0; have hfz33_1 := blk_frozen BK278.out 1; have p280 : 0 ≤ (a1 : Int) := of_decide_eq_true as_; have q280 : a1 < (l0_0.length : Int) := of_decide_eq_true as_; obtain ⟨ad280, e280, hx280_0, hx280_1⟩ := at_T88 HR0_0.out a1 p280 q280; cases e280; replace hx280_0 := hc_ HB hx280_0; replace hx280_1 := hc_ HB hx280_1; replace p280 := eq_true p280; replace q280 := eq_true q280))
        go_ret
        exact ⟨er_, hb_⟩
      ·rw [if_neg c16] at H
       exact absurd H (by simp)
     ·rw [if_neg c15] at H
      exact absurd H (by simp)
  ·replace c5 := Bool.eq_false_iff.mpr c5
   subst c5
   rw [if_neg (show ¬ (false = true) by decide)] at H
   obtain rfl := Option.some.inj H
   go_enter Try.func38, Try.ntmps38
   go_wp2_with (first | ((with_reducible refine gate_dst (N := 3) rfl ?_); (try (refine gate_guard (by rfl) ?_; dsimp only)); refine box_event ?hg (N := 3) ?hd (cs := #[.slice A0_0 l0_0.length c0_0, .slice A0_1 l0_1.length c0_1]) (t := 55) ?hr ?_; (case hd => rfl); (case hg => rfl); (case hr => first | (go_simp; done) | (go_simp; rfl)); intro gb278 hg w34 hbox hb; have n0_ := Aside0.mk (below_step hb_ hb); have n1_ := Aside0.mk (hbox); have n2_ : Aside0 (w.heap.size ≤ gb278) := gz_; have n3_ : Aside0 (w.heap.size ≤ gb278) := gz_; clear HB; have HB := n0_; have BK278 := n1_; have GW278 := n2_; have GE278 := n3_; clear n0_ n1_ n2_ n3_; clear hb hbox hg; have hcz35_0 : w34.cell? ⟨gb278, 0, none⟩ = some (.slice A0_0 l0_0.length c0_0) := (blk_cell BK278.out 0).trans rfl; have hcz35_1 : w34.cell? ⟨gb278, 1, none⟩ = some (.slice A0_1 l0_1.length c0_1) := (blk_cell BK278.out 1).trans rfl; have hfz35_0 := blk_frozen BK278.out 0; have hfz35_1 := blk_frozen BK278.out 1) | ((with_reducible refine gate_callee (f := 32) rfl ?_); refine goesL_ (some 8) rfl rfl Try.func32 (by kernel_rfl) rfl #[.agg #[.slice A0_0 l0_0.length c0_0, .slice A0_1 l0_1.length c0_1]] rfl ls_ ?_; (with_reducible refine (spec_GoodChart.calls k _ _ l0_0 _ _ l0_1 false _ ?side1 ?side2 ?side3 ?side4 A4.out).mono ?_); (case side1 => exact cb_ HR0_0.out); (case side2 => exact HC0_0.out); (case side3 => exact cb_ HR0_1.out); (case side4 => exact HC0_1.out); rintro e w36 ⟨rfl, hb⟩; refine ⟨_, rfl, ?_⟩; have n0_ := bb_ BK278 hb; have n1_ := Aside0.mk (below_step hb_ hb); clear BK278; clear HB; have BK278 := n0_; have HB := n1_; clear n0_ n1_; (try clear hb); (try clear hb2); (try clear hk); (try clear hi)))
   go_ret
   exact ⟨er_, hb_⟩

end Go.Proofs.Ytkhkgfihodljmaa.Pr
