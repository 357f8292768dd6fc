-- Written by this session's own print (wip/tools/mkmp.py) out of the translation. Lean checks it.
import Derived.Test.YtkhkgfihodljmaaPr0
import Derived.Test.YtkhkgfihodljmaaPrd1
namespace Go.Proofs.Ytkhkgfihodljmaa.Pr
open Go.RowKit Go.Proofs.YtkhkgfihodljmaaW.PrintWords Go.Proofs.YtkhkgfihodljmaaW.PrintLast Go.Proofs.YtkhkgfihodljmaaW.PrintMore
attribute [local go_sem] max2_int min2_int max_two min_two max_three min_three max_four min_four   -- for this text's walks alone
set_option linter.unusedVariables false
set_option linter.unusedSimpArgs false

set_option maxHeartbeats 8000000 in
set_option maxRecDepth 100000 in
theorem spec_GoodChart.calls (k : Nat) (A0_0 : Option Addr) (c0_0 : Nat) (l0_0 : List (S88)) (A0_1 : Option Addr) (c0_1 : Nat) (l0_1 : List (S90)) (r : Bool) (w : World) (hr0_0 : Kd.C k88 w A0_0 l0_0.length l0_0) (hc0_0 : l0_0.length ≤ c0_0) (hr0_1 : Kd.C k90 w A0_1 l0_1.length l0_1) (hc0_1 : l0_1.length ≤ c0_1) (h : spec_GoodChart.f k l0_0 l0_1 = some r) :
   Calls Try.prog 32 #[.agg #[.slice A0_0 l0_0.length c0_0, .slice A0_1 l0_1.length c0_1]] w fun e w' => e = .returned (.bool r) ∧ Below w.heap.size w w' := by
  have hu55 := Try.underlying55
  have hu88 := Try.underlying88
  have hu90 := Try.underlying90
  have HR0_0 := Aside0.mk hr0_0
  have HC0_0 := Aside0.mk hc0_0
  clear hr0_0 hc0_0
  have HR0_1 := Aside0.mk hr0_1
  have HC0_1 := Aside0.mk hc0_1
  clear hr0_1 hc0_1
  have HB := Aside0.mk (Below.refl w.heap.size w)
  have H : (if (l0_0.length : Int) < 1 then (spec_GoodChart.j0 k (l0_0.length : Int) true l0_0 l0_1) else (if (l0_0.length : Int) > 12 then (spec_GoodChart.j0 k (l0_0.length : Int) true l0_0 l0_1) else (spec_GoodChart.j0 k (l0_0.length : Int) (decide ((l0_1.length : Int) > 24)) l0_0 l0_1))) = some r := h
  clear h
  have HC2 := Aside0.mk H
  clear H
  go_enter Try.func32, Try.ntmps32
  go_upto_region 2 with (first | ((with_reducible refine gate_dst (N := 1) rfl ?_); (try (refine gate_guard (by rfl) ?_; dsimp only)); refine box_event ?hg (N := 1) ?hd (cs := #[.slice A0_0 l0_0.length c0_0, .slice A0_1 l0_1.length c0_1]) (t := 55) ?hr ?_; (case hd => rfl); (case hg => rfl); (case hr => first | (go_simp; done) | (go_simp; rfl)); intro gb319 hg w3 hbox hb; have n0_ := Aside0.mk (below_step hb_ hb); have n1_ := Aside0.mk (hbox); have n2_ : Aside0 (w.heap.size ≤ gb319) := gz_; have n3_ : Aside0 (w.heap.size ≤ gb319) := gz_; clear HB; have HB := n0_; have BK319 := n1_; have GW319 := n2_; have GE319 := n3_; clear n0_ n1_ n2_ n3_; clear hb hbox hg; have hcz4_0 : w3.cell? ⟨gb319, 0, none⟩ = some (.slice A0_0 l0_0.length c0_0) := (blk_cell BK319.out 0).trans rfl; have hcz4_1 : w3.cell? ⟨gb319, 1, none⟩ = some (.slice A0_1 l0_1.length c0_1) := (blk_cell BK319.out 1).trans rfl; have hfz4_0 := blk_frozen BK319.out 0; have hfz4_1 := blk_frozen BK319.out 1))
  (try simp only [Act.put, List.setIfInBounds_toArray, List.set_cons_zero, List.set_cons_succ])
  go_cut [25] (fun v25 wc => ∃ (kq : Nat) (x25_1 : Bool), v25 = .bool x25_1 ∧ Aside0 (spec_GoodChart.j0 kq (l0_0.length : Int) x25_1 l0_0 l0_1 = some r) ∧ Aside0 (kq ≤ k) ∧ Aside0 (wc.heap[gb319]? = some (.cells #[(.slice A0_0 l0_0.length c0_0), (.slice A0_1 l0_1.length c0_1)] 55 (0, 0))) ∧ Aside0 (Below w.heap.size w wc))
  case first =>
   have H := HC2.out
   clear HC2
   by_cases c5 : (l0_0.length : Int) < 1
   ·rw [if_pos c5] at H
    have c5b0 : decide ((l0_0.length : Int) < 1) = true := decide_eq_true c5
    have c5b1 : decide (l0_0.length < 1) = true := decide_eq_true (by omega)
    clear c5
    (first | rw [c5b0] | (simp only [i64_w, i32_w]; rw [c5b0]) | skip)
    have H' := Aside0.mk H
    clear H
    go_wp2
    go_meet
    case rel => exact ⟨_, (true), es_, H', ⟨by first | omega | exact Nat.le_refl _⟩, ⟨bk_ BK319.out⟩, ⟨hb_⟩⟩
   ·rw [if_neg c5] at H
    have c5b0 : decide ((l0_0.length : Int) < 1) = false := decide_eq_false c5
    have c5b1 : decide (l0_0.length < 1) = false := decide_eq_false (by omega)
    clear c5
    (first | rw [c5b0] | (simp only [i64_w, i32_w]; rw [c5b0]) | skip)
    by_cases c6 : (l0_0.length : Int) > 12
    ·rw [if_pos c6] at H
     have c6b0 : decide (12 < (l0_0.length : Int)) = true := decide_eq_true c6
     have c6b1 : decide (12 < l0_0.length) = true := decide_eq_true (by omega)
     clear c6
     have H' := Aside0.mk H
     clear H
     go_wp2
     go_meet
     case rel => exact ⟨_, (true), es_, H', ⟨by first | omega | exact Nat.le_refl _⟩, ⟨bk_ BK319.out⟩, ⟨hb_⟩⟩
    ·rw [if_neg c6] at H
     have c6b0 : decide (12 < (l0_0.length : Int)) = false := decide_eq_false c6
     have c6b1 : decide (12 < l0_0.length) = false := decide_eq_false (by omega)
     clear c6
     have H' := Aside0.mk H
     clear H
     have hcz7_0 : w3.cell? ⟨gb319, 0, none⟩ = some (.slice A0_0 l0_0.length c0_0) := (blk_cell BK319.out 0).trans rfl
     have hcz7_1 : w3.cell? ⟨gb319, 1, none⟩ = some (.slice A0_1 l0_1.length c0_1) := (blk_cell BK319.out 1).trans rfl
     have hfz7_0 := blk_frozen BK319.out 0
     have hfz7_1 := blk_frozen BK319.out 1
     go_wp2
     go_meet
     case rel => exact ⟨_, (decide ((l0_1.length : Int) > 24)), es_, H', ⟨by first | omega | exact Nat.le_refl _⟩, ⟨bk_ BK319.out⟩, ⟨hb_⟩⟩
  case rest =>
   clear HC2
   try clear p2
   try clear c3
   try clear c5
   try clear c5b0
   try clear c5b1
   try clear c6
   try clear c6b0
   try clear c6b1
   try clear hcz4_0
   try clear hcz4_1
   try clear hcz7_0
   try clear hcz7_1
   try clear hfz4_0
   try clear hfz4_1
   try clear hfz7_0
   try clear hfz7_1
   obtain ⟨kq, x25_1, rfl, HA, HJ1, BK319, HB⟩ := hcut
   cases kq with
   | zero => exact absurd HA.out (by simp [spec_GoodChart.j0])
   | succ kj1 =>
    have H := HA.out
    clear HA
    simp only [spec_GoodChart.j0] at H
    by_cases c8 : x25_1 = true
    ·subst c8
     rw [if_pos rfl] at H
     obtain rfl := Option.some.inj H
     go_wp2
     go_ret
     exact ⟨er_, hb_⟩
    ·replace c8 := Bool.eq_false_iff.mpr c8
     subst c8
     rw [if_neg (show ¬ (false = true) by decide)] at H
     have H' := Aside0.mk H
     clear H
     have hcz9_0 : wc.cell? ⟨gb319, 0, none⟩ = some (.slice A0_0 l0_0.length c0_0) := (blk_cell BK319.out 0).trans rfl
     have hcz9_1 : wc.cell? ⟨gb319, 1, none⟩ = some (.slice A0_1 l0_1.length c0_1) := (blk_cell BK319.out 1).trans rfl
     have hfz9_0 := blk_frozen BK319.out 0
     have hfz9_1 := blk_frozen BK319.out 1
     go_wp2
     go_loopg [29] kj1 (fun kq v29 w' => ∃ (x29_2 : Int), v29 = .int .i64 x29_2 ∧ Aside0 (spec_GoodChart.l0 kq (l0_0.length : Int) l0_0 (l0_0.length : Int) x29_2 l0_0 l0_1 = some r) ∧ Aside0 (kq ≤ kj1) ∧ Aside0 (w'.heap[gb319]? = some (.cells #[(.slice A0_0 l0_0.length c0_0), (.slice A0_1 l0_1.length c0_1)] 55 (0, 0))) ∧ Aside0 (Below w.heap.size w w'))
     case atStart => exact ⟨(0), es_, H', ⟨Nat.le_refl _⟩, ⟨bk_ BK319.out⟩, ⟨hb_⟩⟩
     case round =>
      clear H'
      try clear p2
      try clear c3
      try clear c5
      try clear c5b0
      try clear c5b1
      try clear c6
      try clear c6b0
      try clear c6b1
      try clear c8
      try clear hcz4_0
      try clear hcz4_1
      try clear hcz7_0
      try clear hcz7_1
      try clear hcz9_0
      try clear hcz9_1
      try clear hfz4_0
      try clear hfz4_1
      try clear hfz7_0
      try clear hfz7_1
      try clear hfz9_0
      try clear hfz9_1
      try clear p2
      obtain ⟨x29_2, rfl, HA, HK2, BK319, HB⟩ := hrel
      cases gk with
      | zero => exact absurd HA.out (by simp [spec_GoodChart.l0])
      | succ k2 =>
       have H := HA.out
       clear HA
       simp only [spec_GoodChart.l0] at H
       by_cases c10 : x29_2 < (l0_0.length : Int)
       ·rw [if_pos c10] at H
        have c10b0 : decide (x29_2 < (l0_0.length : Int)) = true := decide_eq_true c10
        clear c10
        by_cases c11 : 0 ≤ x29_2
        ·rw [if_pos c11] at H
         have c11b0 : decide (0 ≤ x29_2) = true := decide_eq_true c11
         clear c11
         by_cases c12 : x29_2 < (l0_0.length : Int)
         ·rw [if_pos c12] at H
          have c12b0 : decide (x29_2 < (l0_0.length : Int)) = true := decide_eq_true c12
          clear c12
          have HC13 := Aside0.mk H
          clear H
          have p320 : 0 ≤ (x29_2 : Int) := of_decide_eq_true as_
          have q320 : x29_2 < (l0_0.length : Int) := of_decide_eq_true as_
          obtain ⟨ad320, e320, hx320_0, hx320_1⟩ := at_T88 HR0_0.out x29_2 p320 q320
          cases e320
          replace hx320_0 := hc_ HB hx320_0
          replace hx320_1 := hc_ HB hx320_1
          replace p320 := eq_true p320
          replace q320 := eq_true q320
          go_upto_region 7 with (first | ((with_reducible refine gate_dst (N := 5) rfl ?_); (try (refine gate_guard (by rfl) ?_; dsimp only)); refine box_event ?hg (N := 5) ?hd (cs := #[.int .i64 0, .int .i64 0]) (t := 88) ?hr ?_; (case hd => rfl); (case hg => rfl); (case hr => first | (go_simp; done) | (go_simp; rfl)); intro gb321 hg w14 hbox hb; have n0_ := bb_ BK319 hb; have n1_ := Aside0.mk (below_step hb_ hb); have n2_ := Aside0.mk (hbox); have n3_ : Aside0 (w.heap.size ≤ gb321) := gz_; have n4_ : Aside0 (w.heap.size ≤ gb321) := gz_; have n5_ := Aside0.mk ((by rw [hg]; exact Nat.ne_of_lt (blk_lt (g := gb319) (o := .cells #[.slice (some ad320) l0_0.length c0_0, .slice A0_1 l0_1.length c0_1] 55 (0, 0)) (bk_ BK319.out)) : gb319 ≠ gb321)); have n6_ := Aside0.mk ((by rw [hg]; exact Nat.ne_of_gt (blk_lt (g := gb319) (o := .cells #[.slice (some ad320) l0_0.length c0_0, .slice A0_1 l0_1.length c0_1] 55 (0, 0)) (bk_ BK319.out)) : gb321 ≠ gb319)); clear BK319; clear HB; have BK319 := n0_; have HB := n1_; have BK321 := n2_; have GW321 := n3_; have GE321 := n4_; have NB319_321 := n5_; have NB321_319 := n6_; clear n0_ n1_ n2_ n3_ n4_ n5_ n6_; clear hb hbox hg; have hnb15 := NB321_319.out; have hnc15 := NB319_321.out; have hcz16_0 : w14.cell? ⟨gb321, 0, none⟩ = some (.int .i64 0) := (blk_cell BK321.out 0).trans rfl; have hcz16_1 : w14.cell? ⟨gb321, 1, none⟩ = some (.int .i64 0) := (blk_cell BK321.out 1).trans rfl; have hfz16_0 := blk_frozen BK321.out 0; have hfz16_1 := blk_frozen BK321.out 1))
          (try simp only [Act.put, List.setIfInBounds_toArray, List.set_cons_zero, List.set_cons_succ])
          go_cut [55] (fun v55 wc => ∃ (kq : Nat) (x55_12 : Bool), v55 = .bool x55_12 ∧ Aside0 (spec_GoodChart.j2 kq (l0_0.length : Int) x29_2 l0_0 (l0_0.length : Int) x29_2 x55_12 l0_0 l0_1 ((rd_T88 l0_0 x29_2).f0) ((rd_T88 l0_0 x29_2).f1) = some r) ∧ Aside0 (kq ≤ k2) ∧ Aside0 (wc.heap[gb319]? = some (.cells #[(.slice (some ad320) l0_0.length c0_0), (.slice A0_1 l0_1.length c0_1)] 55 (0, 0))) ∧ Aside0 (wc.heap[gb321]? = some (.cells #[.int .i64 ((rd_T88 l0_0 x29_2).f0), .int .i64 ((rd_T88 l0_0 x29_2).f1)] 88 (0, 0))) ∧ Aside0 (Below w.heap.size w wc))
          case first =>
           have H := HC13.out
           clear HC13
           by_cases c17 : x29_2 = 0
           ·rw [if_pos c17] at H
            have c17b0 : (x29_2 == 0) = true := beq_iff_eq.mpr c17
            have c17b1 : (x29_2 != 0) = false := bne_eq_false_iff_eq.mpr c17
            clear c17
            (first | rw [c17b0] | (simp only [i64_w, i32_w]; rw [c17b0]) | skip)
            by_cases c18 : ((rd_T88 l0_0 x29_2).f0) = (-1)
            ·rw [if_pos c18] at H
             have c18b0 : (((rd_T88 l0_0 x29_2).f0) == (-1)) = true := beq_iff_eq.mpr c18
             have c18b1 : (((rd_T88 l0_0 x29_2).f0) != (-1)) = false := bne_eq_false_iff_eq.mpr c18
             clear c18
             by_cases c19 : x29_2 > 0
             ·rw [if_pos c19] at H
              have c19b0 : decide (0 < x29_2) = true := decide_eq_true c19
              clear c19
              by_cases c20 : ((rd_T88 l0_0 x29_2).f0) < 0
              ·rw [if_pos c20] at H
               have c20b0 : decide (((rd_T88 l0_0 x29_2).f0) < 0) = true := decide_eq_true c20
               clear c20
               have H' := Aside0.mk H
               clear H
               have hnb21 := NB321_319.out
               have hnc21 := NB319_321.out
               have hcz22_0 : w14.cell? ⟨gb321, 0, none⟩ = some (.int .i64 0) := (blk_cell BK321.out 0).trans rfl
               have hcz22_1 : w14.cell? ⟨gb321, 1, none⟩ = some (.int .i64 0) := (blk_cell BK321.out 1).trans rfl
               have hfz22_0 := blk_frozen BK321.out 0
               have hfz22_1 := blk_frozen BK321.out 1
               go_wp2
               go_meet
               case rel => exact ⟨_, (true), es_, H', ⟨by have := HJ1.out; have := HK2.out; first | omega | exact Nat.le_refl _⟩, ⟨by (with_reducible repeat (first | refine blk_drewN ?_ _ | refine blk_drew ?_ | refine blk_alloc ?_ _)); refine blk_far ?_ NB319_321.out _; (with_reducible repeat (first | refine blk_drewN ?_ _ | refine blk_drew ?_ | refine blk_alloc ?_ _)); refine blk_far ?_ NB319_321.out _; (with_reducible repeat (first | refine blk_drewN ?_ _ | refine blk_drew ?_ | refine blk_alloc ?_ _)); exact BK319.out⟩, ⟨by (with_reducible repeat (first | refine blk_drewN ?_ _ | refine blk_drew ?_ | refine blk_alloc ?_ _)); refine blk_put (cs := #[.int .i64 ((rd_T88 l0_0 x29_2).f0), .int .i64 0]) ?_ 1 _ rfl; (with_reducible repeat (first | refine blk_drewN ?_ _ | refine blk_drew ?_ | refine blk_alloc ?_ _)); refine blk_put (cs := #[.int .i64 0, .int .i64 0]) ?_ 0 _ rfl; (with_reducible repeat (first | refine blk_drewN ?_ _ | refine blk_drew ?_ | refine blk_alloc ?_ _)); exact BK321.out⟩, ⟨hb_⟩⟩
              ·rw [if_neg c20] at H
               have c20b0 : decide (((rd_T88 l0_0 x29_2).f0) < 0) = false := decide_eq_false c20
               clear c20
               have H' := Aside0.mk H
               clear H
               have hnb23 := NB321_319.out
               have hnc23 := NB319_321.out
               have hcz24_0 : w14.cell? ⟨gb321, 0, none⟩ = some (.int .i64 0) := (blk_cell BK321.out 0).trans rfl
               have hcz24_1 : w14.cell? ⟨gb321, 1, none⟩ = some (.int .i64 0) := (blk_cell BK321.out 1).trans rfl
               have hfz24_0 := blk_frozen BK321.out 0
               have hfz24_1 := blk_frozen BK321.out 1
               go_wp2
               go_meet
               case rel => exact ⟨_, (decide (((rd_T88 l0_0 x29_2).f0) ≥ x29_2)), es_, H', ⟨by have := HJ1.out; have := HK2.out; first | omega | exact Nat.le_refl _⟩, ⟨by (with_reducible repeat (first | refine blk_drewN ?_ _ | refine blk_drew ?_ | refine blk_alloc ?_ _)); refine blk_far ?_ NB319_321.out _; (with_reducible repeat (first | refine blk_drewN ?_ _ | refine blk_drew ?_ | refine blk_alloc ?_ _)); refine blk_far ?_ NB319_321.out _; (with_reducible repeat (first | refine blk_drewN ?_ _ | refine blk_drew ?_ | refine blk_alloc ?_ _)); exact BK319.out⟩, ⟨by (with_reducible repeat (first | refine blk_drewN ?_ _ | refine blk_drew ?_ | refine blk_alloc ?_ _)); refine blk_put (cs := #[.int .i64 ((rd_T88 l0_0 x29_2).f0), .int .i64 0]) ?_ 1 _ rfl; (with_reducible repeat (first | refine blk_drewN ?_ _ | refine blk_drew ?_ | refine blk_alloc ?_ _)); refine blk_put (cs := #[.int .i64 0, .int .i64 0]) ?_ 0 _ rfl; (with_reducible repeat (first | refine blk_drewN ?_ _ | refine blk_drew ?_ | refine blk_alloc ?_ _)); exact BK321.out⟩, ⟨hb_⟩⟩
             ·rw [if_neg c19] at H
              have c19b0 : decide (0 < x29_2) = false := decide_eq_false c19
              clear c19
              have H' := Aside0.mk H
              clear H
              have hnb25 := NB321_319.out
              have hnc25 := NB319_321.out
              have hcz26_0 : w14.cell? ⟨gb321, 0, none⟩ = some (.int .i64 0) := (blk_cell BK321.out 0).trans rfl
              have hcz26_1 : w14.cell? ⟨gb321, 1, none⟩ = some (.int .i64 0) := (blk_cell BK321.out 1).trans rfl
              have hfz26_0 := blk_frozen BK321.out 0
              have hfz26_1 := blk_frozen BK321.out 1
              go_wp2
              go_meet
              case rel => exact ⟨_, (false), es_, H', ⟨by have := HJ1.out; have := HK2.out; first | omega | exact Nat.le_refl _⟩, ⟨by (with_reducible repeat (first | refine blk_drewN ?_ _ | refine blk_drew ?_ | refine blk_alloc ?_ _)); refine blk_far ?_ NB319_321.out _; (with_reducible repeat (first | refine blk_drewN ?_ _ | refine blk_drew ?_ | refine blk_alloc ?_ _)); refine blk_far ?_ NB319_321.out _; (with_reducible repeat (first | refine blk_drewN ?_ _ | refine blk_drew ?_ | refine blk_alloc ?_ _)); exact BK319.out⟩, ⟨by (with_reducible repeat (first | refine blk_drewN ?_ _ | refine blk_drew ?_ | refine blk_alloc ?_ _)); refine blk_put (cs := #[.int .i64 ((rd_T88 l0_0 x29_2).f0), .int .i64 0]) ?_ 1 _ rfl; (with_reducible repeat (first | refine blk_drewN ?_ _ | refine blk_drew ?_ | refine blk_alloc ?_ _)); refine blk_put (cs := #[.int .i64 0, .int .i64 0]) ?_ 0 _ rfl; (with_reducible repeat (first | refine blk_drewN ?_ _ | refine blk_drew ?_ | refine blk_alloc ?_ _)); exact BK321.out⟩, ⟨hb_⟩⟩
            ·rw [if_neg c18] at H
             have c18b0 : (((rd_T88 l0_0 x29_2).f0) == (-1)) = false := beq_eq_false_iff_ne.mpr c18
             have c18b1 : (((rd_T88 l0_0 x29_2).f0) != (-1)) = true := bne_iff_ne.mpr c18
             have H' := Aside0.mk H
             clear H
             have hnb27 := NB321_319.out
             have hnc27 := NB319_321.out
             have hcz28_0 : w14.cell? ⟨gb321, 0, none⟩ = some (.int .i64 0) := (blk_cell BK321.out 0).trans rfl
             have hcz28_1 : w14.cell? ⟨gb321, 1, none⟩ = some (.int .i64 0) := (blk_cell BK321.out 1).trans rfl
             have hfz28_0 := blk_frozen BK321.out 0
             have hfz28_1 := blk_frozen BK321.out 1
             go_wp2
             go_meet
             case rel => exact ⟨_, (true), es_, H', ⟨by have := HJ1.out; have := HK2.out; first | omega | exact Nat.le_refl _⟩, ⟨by (with_reducible repeat (first | refine blk_drewN ?_ _ | refine blk_drew ?_ | refine blk_alloc ?_ _)); refine blk_far ?_ NB319_321.out _; (with_reducible repeat (first | refine blk_drewN ?_ _ | refine blk_drew ?_ | refine blk_alloc ?_ _)); refine blk_far ?_ NB319_321.out _; (with_reducible repeat (first | refine blk_drewN ?_ _ | refine blk_drew ?_ | refine blk_alloc ?_ _)); exact BK319.out⟩, ⟨by (with_reducible repeat (first | refine blk_drewN ?_ _ | refine blk_drew ?_ | refine blk_alloc ?_ _)); refine blk_put (cs := #[.int .i64 ((rd_T88 l0_0 x29_2).f0), .int .i64 0]) ?_ 1 _ rfl; (with_reducible repeat (first | refine blk_drewN ?_ _ | refine blk_drew ?_ | refine blk_alloc ?_ _)); refine blk_put (cs := #[.int .i64 0, .int .i64 0]) ?_ 0 _ rfl; (with_reducible repeat (first | refine blk_drewN ?_ _ | refine blk_drew ?_ | refine blk_alloc ?_ _)); exact BK321.out⟩, ⟨hb_⟩⟩
           ·rw [if_neg c17] at H
            have c17b0 : (x29_2 == 0) = false := beq_eq_false_iff_ne.mpr c17
            have c17b1 : (x29_2 != 0) = true := bne_iff_ne.mpr c17
            (first | rw [c17b0] | (simp only [i64_w, i32_w]; rw [c17b0]) | skip)
            by_cases c29 : x29_2 > 0
            ·rw [if_pos c29] at H
             have c29b0 : decide (0 < x29_2) = true := decide_eq_true c29
             clear c29
             by_cases c30 : ((rd_T88 l0_0 x29_2).f0) < 0
             ·rw [if_pos c30] at H
              have c30b0 : decide (((rd_T88 l0_0 x29_2).f0) < 0) = true := decide_eq_true c30
              clear c30
              have H' := Aside0.mk H
              clear H
              have hnb31 := NB321_319.out
              have hnc31 := NB319_321.out
              have hcz32_0 : w14.cell? ⟨gb321, 0, none⟩ = some (.int .i64 0) := (blk_cell BK321.out 0).trans rfl
              have hcz32_1 : w14.cell? ⟨gb321, 1, none⟩ = some (.int .i64 0) := (blk_cell BK321.out 1).trans rfl
              have hfz32_0 := blk_frozen BK321.out 0
              have hfz32_1 := blk_frozen BK321.out 1
              go_wp2
              go_meet
              case rel => exact ⟨_, (true), es_, H', ⟨by have := HJ1.out; have := HK2.out; first | omega | exact Nat.le_refl _⟩, ⟨by (with_reducible repeat (first | refine blk_drewN ?_ _ | refine blk_drew ?_ | refine blk_alloc ?_ _)); refine blk_far ?_ NB319_321.out _; (with_reducible repeat (first | refine blk_drewN ?_ _ | refine blk_drew ?_ | refine blk_alloc ?_ _)); refine blk_far ?_ NB319_321.out _; (with_reducible repeat (first | refine blk_drewN ?_ _ | refine blk_drew ?_ | refine blk_alloc ?_ _)); exact BK319.out⟩, ⟨by (with_reducible repeat (first | refine blk_drewN ?_ _ | refine blk_drew ?_ | refine blk_alloc ?_ _)); refine blk_put (cs := #[.int .i64 ((rd_T88 l0_0 x29_2).f0), .int .i64 0]) ?_ 1 _ rfl; (with_reducible repeat (first | refine blk_drewN ?_ _ | refine blk_drew ?_ | refine blk_alloc ?_ _)); refine blk_put (cs := #[.int .i64 0, .int .i64 0]) ?_ 0 _ rfl; (with_reducible repeat (first | refine blk_drewN ?_ _ | refine blk_drew ?_ | refine blk_alloc ?_ _)); exact BK321.out⟩, ⟨hb_⟩⟩
             ·rw [if_neg c30] at H
              have c30b0 : decide (((rd_T88 l0_0 x29_2).f0) < 0) = false := decide_eq_false c30
              clear c30
              have H' := Aside0.mk H
              clear H
              have hnb33 := NB321_319.out
              have hnc33 := NB319_321.out
              have hcz34_0 : w14.cell? ⟨gb321, 0, none⟩ = some (.int .i64 0) := (blk_cell BK321.out 0).trans rfl
              have hcz34_1 : w14.cell? ⟨gb321, 1, none⟩ = some (.int .i64 0) := (blk_cell BK321.out 1).trans rfl
              have hfz34_0 := blk_frozen BK321.out 0
              have hfz34_1 := blk_frozen BK321.out 1
              go_wp2
              go_meet
              case rel => exact ⟨_, (decide (((rd_T88 l0_0 x29_2).f0) ≥ x29_2)), es_, H', ⟨by have := HJ1.out; have := HK2.out; first | omega | exact Nat.le_refl _⟩, ⟨by (with_reducible repeat (first | refine blk_drewN ?_ _ | refine blk_drew ?_ | refine blk_alloc ?_ _)); refine blk_far ?_ NB319_321.out _; (with_reducible repeat (first | refine blk_drewN ?_ _ | refine blk_drew ?_ | refine blk_alloc ?_ _)); refine blk_far ?_ NB319_321.out _; (with_reducible repeat (first | refine blk_drewN ?_ _ | refine blk_drew ?_ | refine blk_alloc ?_ _)); exact BK319.out⟩, ⟨by (with_reducible repeat (first | refine blk_drewN ?_ _ | refine blk_drew ?_ | refine blk_alloc ?_ _)); refine blk_put (cs := #[.int .i64 ((rd_T88 l0_0 x29_2).f0), .int .i64 0]) ?_ 1 _ rfl; (with_reducible repeat (first | refine blk_drewN ?_ _ | refine blk_drew ?_ | refine blk_alloc ?_ _)); refine blk_put (cs := #[.int .i64 0, .int .i64 0]) ?_ 0 _ rfl; (with_reducible repeat (first | refine blk_drewN ?_ _ | refine blk_drew ?_ | refine blk_alloc ?_ _)); exact BK321.out⟩, ⟨hb_⟩⟩
            ·rw [if_neg c29] at H
             have c29b0 : decide (0 < x29_2) = false := decide_eq_false c29
             clear c29
             have H' := Aside0.mk H
             clear H
             go_wp2
             go_meet
             case rel => exact ⟨_, (false), es_, H', ⟨by have := HJ1.out; have := HK2.out; first | omega | exact Nat.le_refl _⟩, ⟨by (with_reducible repeat (first | refine blk_drewN ?_ _ | refine blk_drew ?_ | refine blk_alloc ?_ _)); refine blk_far ?_ NB319_321.out _; (with_reducible repeat (first | refine blk_drewN ?_ _ | refine blk_drew ?_ | refine blk_alloc ?_ _)); refine blk_far ?_ NB319_321.out _; (with_reducible repeat (first | refine blk_drewN ?_ _ | refine blk_drew ?_ | refine blk_alloc ?_ _)); exact BK319.out⟩, ⟨by (with_reducible repeat (first | refine blk_drewN ?_ _ | refine blk_drew ?_ | refine blk_alloc ?_ _)); refine blk_put (cs := #[.int .i64 ((rd_T88 l0_0 x29_2).f0), .int .i64 0]) ?_ 1 _ rfl; (with_reducible repeat (first | refine blk_drewN ?_ _ | refine blk_drew ?_ | refine blk_alloc ?_ _)); refine blk_put (cs := #[.int .i64 0, .int .i64 0]) ?_ 0 _ rfl; (with_reducible repeat (first | refine blk_drewN ?_ _ | refine blk_drew ?_ | refine blk_alloc ?_ _)); exact BK321.out⟩, ⟨hb_⟩⟩
          case rest =>
           clear HC13
           try clear c1
           try clear c2
           try clear p2
           try clear c3
           try clear p3
           try clear q3
           try clear hx3
           try clear c5
           try clear c5b0
           try clear c5b1
           try clear c6
           try clear c6b0
           try clear c6b1
           try clear c8
           try clear c10
           try clear c10b0
           try clear c11
           try clear c11b0
           try clear c12
           try clear c12b0
           try clear c15
           try clear c17
           try clear c17b0
           try clear c17b1
           try clear c18
           try clear c18b0
           try clear c18b1
           try clear c19
           try clear c19b0
           try clear c20
           try clear c20b0
           try clear c21
           try clear c23
           try clear c25
           try clear c27
           try clear c29
           try clear c29b0
           try clear c30
           try clear c30b0
           try clear c31
           try clear c32
           try clear p32
           try clear q32
           try clear hx32
           try clear c33
           try clear hcz16_0
           try clear hcz16_1
           try clear hcz22_0
           try clear hcz22_1
           try clear hcz24_0
           try clear hcz24_1
           try clear hcz26_0
           try clear hcz26_1
           try clear hcz28_0
           try clear hcz28_1
           try clear hcz32_0
           try clear hcz32_1
           try clear hcz34_0
           try clear hcz34_1
           try clear hcz4_0
           try clear hcz4_1
           try clear hcz7_0
           try clear hcz7_1
           try clear hcz9_0
           try clear hcz9_1
           try clear hfz16_0
           try clear hfz16_1
           try clear hfz22_0
           try clear hfz22_1
           try clear hfz24_0
           try clear hfz24_1
           try clear hfz26_0
           try clear hfz26_1
           try clear hfz28_0
           try clear hfz28_1
           try clear hfz32_0
           try clear hfz32_1
           try clear hfz34_0
           try clear hfz34_1
           try clear hfz4_0
           try clear hfz4_1
           try clear hfz7_0
           try clear hfz7_1
           try clear hfz9_0
           try clear hfz9_1
           try clear hx320_0
           try clear hx320_1
           try clear p2
           try clear p320
           try clear q320
           obtain ⟨kq, x55_12, rfl, HA, HJ12, BK319, BK321, HB⟩ := hcut
           cases kq with
           | zero => exact absurd HA.out (by simp [spec_GoodChart.j2])
           | succ kj12 =>
            have H := HA.out
            clear HA
            simp only [spec_GoodChart.j2] at H
            by_cases c35 : x55_12 = true
            ·subst c35
             rw [if_pos rfl] at H
             obtain rfl := Option.some.inj H
             go_wp2
             go_ret
             exact ⟨er_, hb_⟩
            ·replace c35 := Bool.eq_false_iff.mpr c35
             subst c35
             rw [if_neg (show ¬ (false = true) by decide)] at H
             have H' := Aside0.mk H
             clear H
             have hnb36 := NB319_321.out
             have hnc36 := NB321_319.out
             have hcz37_0 : wc.cell? ⟨gb319, 0, none⟩ = some (.slice (some ad320) l0_0.length c0_0) := (blk_cell BK319.out 0).trans rfl
             have hcz37_1 : wc.cell? ⟨gb319, 1, none⟩ = some (.slice A0_1 l0_1.length c0_1) := (blk_cell BK319.out 1).trans rfl
             have hfz37_0 := blk_frozen BK319.out 0
             have hfz37_1 := blk_frozen BK319.out 1
             go_wp2
             go_loopg [6, 59] kj12 (fun kq v6 v59 w' => ∃ (x6_4 : Bool) (x59_4 : Int), v6 = .bool x6_4 ∧ v59 = .int .i64 x59_4 ∧ Aside0 (spec_GoodChart.l1 kq (l0_0.length : Int) x29_2 x6_4 l0_0 (l0_0.length : Int) x29_2 l0_0 (l0_0.length : Int) x59_4 l0_0 l0_1 ((rd_T88 l0_0 x29_2).f0) ((rd_T88 l0_0 x29_2).f1) = some r) ∧ Aside0 (kq ≤ kj12) ∧ Aside0 (w'.heap[gb319]? = some (.cells #[(.slice (some ad320) l0_0.length c0_0), (.slice A0_1 l0_1.length c0_1)] 55 (0, 0))) ∧ Aside0 (w'.heap[gb321]? = some (.cells #[.int .i64 ((rd_T88 l0_0 x29_2).f0), .int .i64 ((rd_T88 l0_0 x29_2).f1)] 88 (0, 0))) ∧ Aside0 (Below w.heap.size w w'))
             case atStart => exact ⟨(false), (0), es_, es_, H', ⟨Nat.le_refl _⟩, ⟨bk_ BK319.out⟩, ⟨bk_ BK321.out⟩, ⟨hb_⟩⟩
             case round =>
              clear H'
              try clear c1
              try clear c2
              try clear p2
              try clear c3
              try clear p3
              try clear q3
              try clear hx3
              try clear c5
              try clear c5b0
              try clear c5b1
              try clear c6
              try clear c6b0
              try clear c6b1
              try clear c8
              try clear c10
              try clear c10b0
              try clear c11
              try clear c11b0
              try clear c12
              try clear c12b0
              try clear c15
              try clear c17
              try clear c17b0
              try clear c17b1
              try clear c18
              try clear c18b0
              try clear c18b1
              try clear c19
              try clear c19b0
              try clear c20
              try clear c20b0
              try clear c21
              try clear c23
              try clear c25
              try clear c27
              try clear c29
              try clear c29b0
              try clear c30
              try clear c30b0
              try clear c31
              try clear c32
              try clear p32
              try clear q32
              try clear hx32
              try clear c33
              try clear c35
              try clear c36
              try clear hcz16_0
              try clear hcz16_1
              try clear hcz22_0
              try clear hcz22_1
              try clear hcz24_0
              try clear hcz24_1
              try clear hcz26_0
              try clear hcz26_1
              try clear hcz28_0
              try clear hcz28_1
              try clear hcz32_0
              try clear hcz32_1
              try clear hcz34_0
              try clear hcz34_1
              try clear hcz37_0
              try clear hcz37_1
              try clear hcz4_0
              try clear hcz4_1
              try clear hcz7_0
              try clear hcz7_1
              try clear hcz9_0
              try clear hcz9_1
              try clear hfz16_0
              try clear hfz16_1
              try clear hfz22_0
              try clear hfz22_1
              try clear hfz24_0
              try clear hfz24_1
              try clear hfz26_0
              try clear hfz26_1
              try clear hfz28_0
              try clear hfz28_1
              try clear hfz32_0
              try clear hfz32_1
              try clear hfz34_0
              try clear hfz34_1
              try clear hfz37_0
              try clear hfz37_1
              try clear hfz4_0
              try clear hfz4_1
              try clear hfz7_0
              try clear hfz7_1
              try clear hfz9_0
              try clear hfz9_1
              try clear hx320_0
              try clear hx320_1
              try clear p2
              try clear p3
              try clear p32
              try clear p320
              try clear q3
              try clear q32
              try clear q320
              obtain ⟨x6_4, x59_4, rfl, rfl, HA, HK4, BK319, BK321, HB⟩ := hrel
              cases gk with
              | zero => exact absurd HA.out (by simp [spec_GoodChart.l1])
              | succ k4 =>
               have H := HA.out
               clear HA
               simp only [spec_GoodChart.l1] at H
               by_cases c38 : x59_4 < (l0_0.length : Int)
               ·rw [if_pos c38] at H
                have c38b0 : decide (x59_4 < (l0_0.length : Int)) = true := decide_eq_true c38
                clear c38
                by_cases c39 : 0 ≤ x59_4
                ·rw [if_pos c39] at H
                 have c39b0 : decide (0 ≤ x59_4) = true := decide_eq_true c39
                 clear c39
                 by_cases c40 : x59_4 < (l0_0.length : Int)
                 ·rw [if_pos c40] at H
                  have c40b0 : decide (x59_4 < (l0_0.length : Int)) = true := decide_eq_true c40
                  clear c40
                  by_cases c41 : x6_4 = true
                  ·subst c41
                   rw [if_pos rfl] at H
                   have H' := Aside0.mk H
                   clear H
                   have p322 : 0 ≤ (x59_4 : Int) := of_decide_eq_true as_
                   have q322 : x59_4 < (l0_0.length : Int) := of_decide_eq_true as_
                   obtain ⟨ad322, e322, hx322_0, hx322_1⟩ := at_T88 HR0_0.out x59_4 p322 q322
                   obtain rfl : ad320 = ad322 := (by injection e322)
                   replace hx322_0 := hc_ HB hx322_0
                   replace hx322_1 := hc_ HB hx322_1
                   replace p322 := eq_true p322
                   replace q322 := eq_true q322
                   go_wp2_with (first | ((with_reducible refine gate_dst (N := 8) rfl ?_); (try (refine gate_guard (by rfl) ?_; dsimp only)); refine box_event ?hg (N := 8) ?hd (cs := #[.int .i64 0, .int .i64 0]) (t := 88) ?hr ?_; (case hd => rfl); (case hg => rfl); (case hr => first | (go_simp; done) | (go_simp; rfl)); intro gb323 hg w42 hbox hb; have n0_ := bb_ BK319 hb; have n1_ := bb_ BK321 hb; have n2_ := Aside0.mk (below_step hb_ hb); have n3_ := Aside0.mk (hbox); have n4_ : Aside0 (w.heap.size ≤ gb323) := gz_; have n5_ : Aside0 (w.heap.size ≤ gb323) := gz_; have n6_ := Aside0.mk ((by rw [hg]; exact Nat.ne_of_lt (blk_lt (g := gb319) (o := .cells #[.slice (some ad320) l0_0.length c0_0, .slice A0_1 l0_1.length c0_1] 55 (0, 0)) (bk_ BK319.out)) : gb319 ≠ gb323)); have n7_ := Aside0.mk ((by rw [hg]; exact Nat.ne_of_gt (blk_lt (g := gb319) (o := .cells #[.slice (some ad320) l0_0.length c0_0, .slice A0_1 l0_1.length c0_1] 55 (0, 0)) (bk_ BK319.out)) : gb323 ≠ gb319)); have n8_ := Aside0.mk ((by rw [hg]; exact Nat.ne_of_lt (blk_lt (g := gb321) (o := .cells #[.int .i64 ((rd_T88 l0_0 x29_2).f0), .int .i64 ((rd_T88 l0_0 x29_2).f1)] 88 (0, 0)) (bk_ BK321.out)) : gb321 ≠ gb323)); have n9_ := Aside0.mk ((by rw [hg]; exact Nat.ne_of_gt (blk_lt (g := gb321) (o := .cells #[.int .i64 ((rd_T88 l0_0 x29_2).f0), .int .i64 ((rd_T88 l0_0 x29_2).f1)] 88 (0, 0)) (bk_ BK321.out)) : gb323 ≠ gb321)); clear BK319; clear BK321; clear HB; have BK319 := n0_; have BK321 := n1_; have HB := n2_; have BK323 := n3_; have GW323 := n4_; have GE323 := n5_; have NB319_323 := n6_; have NB323_319 := n7_; have NB321_323 := n8_; have NB323_321 := n9_; clear n0_ n1_ n2_ n3_ n4_ n5_ n6_ n7_ n8_ n9_; clear hb hbox hg; have hnb43 := NB323_319.out; have hnc43 := NB319_323.out; have hnb44 := NB323_321.out; have hnc44 := NB321_323.out; have hcz45_0 : w42.cell? ⟨gb323, 0, none⟩ = some (.int .i64 0) := (blk_cell BK323.out 0).trans rfl; have hcz45_1 : w42.cell? ⟨gb323, 1, none⟩ = some (.int .i64 0) := (blk_cell BK323.out 1).trans rfl; have hfz45_0 := blk_frozen BK323.out 0; have hfz45_1 := blk_frozen BK323.out 1))
                   go_roundg k4
                   case measure => have := HJ1.out; have := HK2.out; have := HJ12.out; have := HK4.out; omega
                   case rel => exact ⟨(true), (wrap64 (x59_4 + 1)), es_, es_, H', ⟨by have := HJ1.out; have := HK2.out; have := HJ12.out; have := HK4.out; omega⟩, ⟨by (with_reducible repeat (first | refine blk_drewN ?_ _ | refine blk_drew ?_ | refine blk_alloc ?_ _)); refine blk_far ?_ NB319_323.out _; (with_reducible repeat (first | refine blk_drewN ?_ _ | refine blk_drew ?_ | refine blk_alloc ?_ _)); refine blk_far ?_ NB319_323.out _; (with_reducible repeat (first | refine blk_drewN ?_ _ | refine blk_drew ?_ | refine blk_alloc ?_ _)); exact BK319.out⟩, ⟨by (with_reducible repeat (first | refine blk_drewN ?_ _ | refine blk_drew ?_ | refine blk_alloc ?_ _)); refine blk_far ?_ NB321_323.out _; (with_reducible repeat (first | refine blk_drewN ?_ _ | refine blk_drew ?_ | refine blk_alloc ?_ _)); refine blk_far ?_ NB321_323.out _; (with_reducible repeat (first | refine blk_drewN ?_ _ | refine blk_drew ?_ | refine blk_alloc ?_ _)); exact BK321.out⟩, ⟨hb_⟩⟩
                  ·replace c41 := Bool.eq_false_iff.mpr c41
                   subst c41
                   rw [if_neg (show ¬ (false = true) by decide)] at H
                   have H' := Aside0.mk H
                   clear H
                   have p322 : 0 ≤ (x59_4 : Int) := of_decide_eq_true as_
                   have q322 : x59_4 < (l0_0.length : Int) := of_decide_eq_true as_
                   obtain ⟨ad322, e322, hx322_0, hx322_1⟩ := at_T88 HR0_0.out x59_4 p322 q322
                   obtain rfl : ad320 = ad322 := (by injection e322)
                   replace hx322_0 := hc_ HB hx322_0
                   replace hx322_1 := hc_ HB hx322_1
                   replace p322 := eq_true p322
                   replace q322 := eq_true q322
                   go_wp2_with (first | ((with_reducible refine gate_dst (N := 8) rfl ?_); (try (refine gate_guard (by rfl) ?_; dsimp only)); refine box_event ?hg (N := 8) ?hd (cs := #[.int .i64 0, .int .i64 0]) (t := 88) ?hr ?_; (case hd => rfl); (case hg => rfl); (case hr => first | (go_simp; done) | (go_simp; rfl)); intro gb323 hg w46 hbox hb; have n0_ := bb_ BK319 hb; have n1_ := bb_ BK321 hb; have n2_ := Aside0.mk (below_step hb_ hb); have n3_ := Aside0.mk (hbox); have n4_ : Aside0 (w.heap.size ≤ gb323) := gz_; have n5_ : Aside0 (w.heap.size ≤ gb323) := gz_; have n6_ := Aside0.mk ((by rw [hg]; exact Nat.ne_of_lt (blk_lt (g := gb319) (o := .cells #[.slice (some ad320) l0_0.length c0_0, .slice A0_1 l0_1.length c0_1] 55 (0, 0)) (bk_ BK319.out)) : gb319 ≠ gb323)); have n7_ := Aside0.mk ((by rw [hg]; exact Nat.ne_of_gt (blk_lt (g := gb319) (o := .cells #[.slice (some ad320) l0_0.length c0_0, .slice A0_1 l0_1.length c0_1] 55 (0, 0)) (bk_ BK319.out)) : gb323 ≠ gb319)); have n8_ := Aside0.mk ((by rw [hg]; exact Nat.ne_of_lt (blk_lt (g := gb321) (o := .cells #[.int .i64 ((rd_T88 l0_0 x29_2).f0), .int .i64 ((rd_T88 l0_0 x29_2).f1)] 88 (0, 0)) (bk_ BK321.out)) : gb321 ≠ gb323)); have n9_ := Aside0.mk ((by rw [hg]; exact Nat.ne_of_gt (blk_lt (g := gb321) (o := .cells #[.int .i64 ((rd_T88 l0_0 x29_2).f0), .int .i64 ((rd_T88 l0_0 x29_2).f1)] 88 (0, 0)) (bk_ BK321.out)) : gb323 ≠ gb321)); clear BK319; clear BK321; clear HB; have BK319 := n0_; have BK321 := n1_; have HB := n2_; have BK323 := n3_; have GW323 := n4_; have GE323 := n5_; have NB319_323 := n6_; have NB323_319 := n7_; have NB321_323 := n8_; have NB323_321 := n9_; clear n0_ n1_ n2_ n3_ n4_ n5_ n6_ n7_ n8_ n9_; clear hb hbox hg; have hnb47 := NB323_319.out; have hnc47 := NB319_323.out; have hnb48 := NB323_321.out; have hnc48 := NB321_323.out; have hcz49_0 : w46.cell? ⟨gb323, 0, none⟩ = some (.int .i64 0) := (blk_cell BK323.out 0).trans rfl; have hcz49_1 : w46.cell? ⟨gb323, 1, none⟩ = some (.int .i64 0) := (blk_cell BK323.out 1).trans rfl; have hfz49_0 := blk_frozen BK323.out 0; have hfz49_1 := blk_frozen BK323.out 1))
                   go_roundg k4
                   case measure => have := HJ1.out; have := HK2.out; have := HJ12.out; have := HK4.out; omega
                   case rel => exact ⟨((((rd_T88 l0_0 x59_4).f0) == x29_2)), (wrap64 (x59_4 + 1)), es_, es_, H', ⟨by have := HJ1.out; have := HK2.out; have := HJ12.out; have := HK4.out; omega⟩, ⟨by (with_reducible repeat (first | refine blk_drewN ?_ _ | refine blk_drew ?_ | refine blk_alloc ?_ _)); refine blk_far ?_ NB319_323.out _; (with_reducible repeat (first | refine blk_drewN ?_ _ | refine blk_drew ?_ | refine blk_alloc ?_ _)); refine blk_far ?_ NB319_323.out _; (with_reducible repeat (first | refine blk_drewN ?_ _ | refine blk_drew ?_ | refine blk_alloc ?_ _)); exact BK319.out⟩, ⟨by (with_reducible repeat (first | refine blk_drewN ?_ _ | refine blk_drew ?_ | refine blk_alloc ?_ _)); refine blk_far ?_ NB321_323.out _; (with_reducible repeat (first | refine blk_drewN ?_ _ | refine blk_drew ?_ | refine blk_alloc ?_ _)); refine blk_far ?_ NB321_323.out _; (with_reducible repeat (first | refine blk_drewN ?_ _ | refine blk_drew ?_ | refine blk_alloc ?_ _)); exact BK321.out⟩, ⟨hb_⟩⟩
                 ·rw [if_neg c40] at H
                  exact absurd H (by simp)
                ·rw [if_neg c39] at H
                 exact absurd H (by simp)
               ·rw [if_neg c38] at H
                have c38b0 : decide (x59_4 < (l0_0.length : Int)) = false := decide_eq_false c38
                clear c38
                by_cases c50 : x6_4 = true
                ·subst c50
                 rw [if_pos rfl] at H
                 by_cases c51 : ((rd_T88 l0_0 x29_2).f1) < 0
                 ·rw [if_pos c51] at H
                  have c51b0 : decide (((rd_T88 l0_0 x29_2).f1) < 0) = true := decide_eq_true c51
                  clear c51
                  obtain rfl := Option.some.inj H
                  have hnb52 := NB321_319.out
                  have hnc52 := NB319_321.out
                  have hcz53_0 : wr.cell? ⟨gb321, 0, none⟩ = some (.int .i64 ((rd_T88 l0_0 x29_2).f0)) := (blk_cell BK321.out 0).trans rfl
                  have hcz53_1 : wr.cell? ⟨gb321, 1, none⟩ = some (.int .i64 ((rd_T88 l0_0 x29_2).f1)) := (blk_cell BK321.out 1).trans rfl
                  have hfz53_0 := blk_frozen BK321.out 0
                  have hfz53_1 := blk_frozen BK321.out 1
                  go_wp2
                  go_ret
                  exact ⟨er_, hb_⟩
                 ·rw [if_neg c51] at H
                  have c51b0 : decide (((rd_T88 l0_0 x29_2).f1) < 0) = false := decide_eq_false c51
                  clear c51
                  by_cases c54 : ((rd_T88 l0_0 x29_2).f1) ≥ (l0_0.length : Int)
                  ·rw [if_pos c54] at H
                   have c54b0 : decide ((l0_0.length : Int) ≤ ((rd_T88 l0_0 x29_2).f1)) = true := decide_eq_true c54
                   clear c54
                   obtain rfl := Option.some.inj H
                   have hnb55 := NB321_319.out
                   have hnc55 := NB319_321.out
                   have hcz56_0 : wr.cell? ⟨gb321, 0, none⟩ = some (.int .i64 ((rd_T88 l0_0 x29_2).f0)) := (blk_cell BK321.out 0).trans rfl
                   have hcz56_1 : wr.cell? ⟨gb321, 1, none⟩ = some (.int .i64 ((rd_T88 l0_0 x29_2).f1)) := (blk_cell BK321.out 1).trans rfl
                   have hfz56_0 := blk_frozen BK321.out 0
                   have hfz56_1 := blk_frozen BK321.out 1
                   go_wp2
                   go_ret
                   exact ⟨er_, hb_⟩
                  ·rw [if_neg c54] at H
                   have c54b0 : decide ((l0_0.length : Int) ≤ ((rd_T88 l0_0 x29_2).f1)) = false := decide_eq_false c54
                   clear c54
                   by_cases c57 : 0 ≤ ((rd_T88 l0_0 x29_2).f1)
                   ·rw [if_pos c57] at H
                    have c57b0 : decide (0 ≤ ((rd_T88 l0_0 x29_2).f1)) = true := decide_eq_true c57
                    clear c57
                    by_cases c58 : ((rd_T88 l0_0 x29_2).f1) < (l0_0.length : Int)
                    ·rw [if_pos c58] at H
                     have c58b0 : decide (((rd_T88 l0_0 x29_2).f1) < (l0_0.length : Int)) = true := decide_eq_true c58
                     clear c58
                     by_cases c59 : ((rd_T88 l0_0 ((rd_T88 l0_0 x29_2).f1)).f0) = x29_2
                     ·rw [if_pos c59] at H
                      have c59b0 : (((rd_T88 l0_0 ((rd_T88 l0_0 x29_2).f1)).f0) == x29_2) = true := beq_iff_eq.mpr c59
                      have c59b1 : (((rd_T88 l0_0 ((rd_T88 l0_0 x29_2).f1)).f0) != x29_2) = false := bne_eq_false_iff_eq.mpr c59
                      clear c59
                      have H' := Aside0.mk H
                      clear H
                      have hnb60 := NB321_319.out
                      have hnc60 := NB319_321.out
                      have hcz61_0 : wr.cell? ⟨gb321, 0, none⟩ = some (.int .i64 ((rd_T88 l0_0 x29_2).f0)) := (blk_cell BK321.out 0).trans rfl
                      have hcz61_1 : wr.cell? ⟨gb321, 1, none⟩ = some (.int .i64 ((rd_T88 l0_0 x29_2).f1)) := (blk_cell BK321.out 1).trans rfl
                      have hfz61_0 := blk_frozen BK321.out 0
                      have hfz61_1 := blk_frozen BK321.out 1
                      have hcz62_0 : wr.cell? ⟨gb319, 0, none⟩ = some (.slice (some ad320) l0_0.length c0_0) := (blk_cell BK319.out 0).trans rfl
                      have hcz62_1 : wr.cell? ⟨gb319, 1, none⟩ = some (.slice A0_1 l0_1.length c0_1) := (blk_cell BK319.out 1).trans rfl
                      have hfz62_0 := blk_frozen BK319.out 0
                      have hfz62_1 := blk_frozen BK319.out 1
                      have p324 : 0 ≤ (((rd_T88 l0_0 x29_2).f1) : Int) := of_decide_eq_true as_
                      have q324 : ((rd_T88 l0_0 x29_2).f1) < (l0_0.length : Int) := of_decide_eq_true as_
                      obtain ⟨ad324, e324, hx324_0, hx324_1⟩ := at_T88 HR0_0.out ((rd_T88 l0_0 x29_2).f1) p324 q324
                      obtain rfl : ad320 = ad324 := (by injection e324)
                      replace hx324_0 := hc_ HB hx324_0
                      replace hx324_1 := hc_ HB hx324_1
                      replace p324 := eq_true p324
                      replace q324 := eq_true q324
                      go_wp2
                      go_roundg k4
                      case measure => have := HJ1.out; have := HK2.out; have := HJ12.out; have := HK4.out; omega
                      case rel => exact ⟨(wrap64 (x29_2 + 1)), es_, H', ⟨by have := HJ1.out; have := HK2.out; have := HJ12.out; have := HK4.out; omega⟩, ⟨bk_ BK319.out⟩, ⟨hb_⟩⟩
                     ·rw [if_neg c59] at H
                      have c59b0 : (((rd_T88 l0_0 ((rd_T88 l0_0 x29_2).f1)).f0) == x29_2) = false := beq_eq_false_iff_ne.mpr c59
                      have c59b1 : (((rd_T88 l0_0 ((rd_T88 l0_0 x29_2).f1)).f0) != x29_2) = true := bne_iff_ne.mpr c59
                      obtain rfl := Option.some.inj H
                      have hnb63 := NB321_319.out
                      have hnc63 := NB319_321.out
                      have hcz64_0 : wr.cell? ⟨gb321, 0, none⟩ = some (.int .i64 ((rd_T88 l0_0 x29_2).f0)) := (blk_cell BK321.out 0).trans rfl
                      have hcz64_1 : wr.cell? ⟨gb321, 1, none⟩ = some (.int .i64 ((rd_T88 l0_0 x29_2).f1)) := (blk_cell BK321.out 1).trans rfl
                      have hfz64_0 := blk_frozen BK321.out 0
                      have hfz64_1 := blk_frozen BK321.out 1
                      have hcz65_0 : wr.cell? ⟨gb319, 0, none⟩ = some (.slice (some ad320) l0_0.length c0_0) := (blk_cell BK319.out 0).trans rfl
                      have hcz65_1 : wr.cell? ⟨gb319, 1, none⟩ = some (.slice A0_1 l0_1.length c0_1) := (blk_cell BK319.out 1).trans rfl
                      have hfz65_0 := blk_frozen BK319.out 0
                      have hfz65_1 := blk_frozen BK319.out 1
                      have p324 : 0 ≤ (((rd_T88 l0_0 x29_2).f1) : Int) := of_decide_eq_true as_
                      have q324 : ((rd_T88 l0_0 x29_2).f1) < (l0_0.length : Int) := of_decide_eq_true as_
                      obtain ⟨ad324, e324, hx324_0, hx324_1⟩ := at_T88 HR0_0.out ((rd_T88 l0_0 x29_2).f1) p324 q324
                      obtain rfl : ad320 = ad324 := (by injection e324)
                      replace hx324_0 := hc_ HB hx324_0
                      replace hx324_1 := hc_ HB hx324_1
                      replace p324 := eq_true p324
                      replace q324 := eq_true q324
                      go_wp2
                      go_ret
                      exact ⟨er_, hb_⟩
                    ·rw [if_neg c58] at H
                     exact absurd H (by simp)
                   ·rw [if_neg c57] at H
                    exact absurd H (by simp)
                ·replace c50 := Bool.eq_false_iff.mpr c50
                 subst c50
                 rw [if_neg (show ¬ (false = true) by decide)] at H
                 by_cases c66 : ((rd_T88 l0_0 x29_2).f1) = (-1)
                 ·rw [if_pos c66] at H
                  have c66b0 : (((rd_T88 l0_0 x29_2).f1) == (-1)) = true := beq_iff_eq.mpr c66
                  have c66b1 : (((rd_T88 l0_0 x29_2).f1) != (-1)) = false := bne_eq_false_iff_eq.mpr c66
                  clear c66
                  have H' := Aside0.mk H
                  clear H
                  have hnb67 := NB321_319.out
                  have hnc67 := NB319_321.out
                  have hcz68_0 : wr.cell? ⟨gb321, 0, none⟩ = some (.int .i64 ((rd_T88 l0_0 x29_2).f0)) := (blk_cell BK321.out 0).trans rfl
                  have hcz68_1 : wr.cell? ⟨gb321, 1, none⟩ = some (.int .i64 ((rd_T88 l0_0 x29_2).f1)) := (blk_cell BK321.out 1).trans rfl
                  have hfz68_0 := blk_frozen BK321.out 0
                  have hfz68_1 := blk_frozen BK321.out 1
                  go_wp2
                  go_roundg k4
                  case measure => have := HJ1.out; have := HK2.out; have := HJ12.out; have := HK4.out; omega
                  case rel => exact ⟨(wrap64 (x29_2 + 1)), es_, H', ⟨by have := HJ1.out; have := HK2.out; have := HJ12.out; have := HK4.out; omega⟩, ⟨bk_ BK319.out⟩, ⟨hb_⟩⟩
                 ·rw [if_neg c66] at H
                  have c66b0 : (((rd_T88 l0_0 x29_2).f1) == (-1)) = false := beq_eq_false_iff_ne.mpr c66
                  have c66b1 : (((rd_T88 l0_0 x29_2).f1) != (-1)) = true := bne_iff_ne.mpr c66
                  obtain rfl := Option.some.inj H
                  have hnb69 := NB321_319.out
                  have hnc69 := NB319_321.out
                  have hcz70_0 : wr.cell? ⟨gb321, 0, none⟩ = some (.int .i64 ((rd_T88 l0_0 x29_2).f0)) := (blk_cell BK321.out 0).trans rfl
                  have hcz70_1 : wr.cell? ⟨gb321, 1, none⟩ = some (.int .i64 ((rd_T88 l0_0 x29_2).f1)) := (blk_cell BK321.out 1).trans rfl
                  have hfz70_0 := blk_frozen BK321.out 0
                  have hfz70_1 := blk_frozen BK321.out 1
                  go_wp2
                  go_ret
                  exact ⟨er_, hb_⟩
         ·rw [if_neg c12] at H
          exact absurd H (by simp)
        ·rw [if_neg c11] at H
         exact absurd H (by simp)
       ·rw [if_neg c10] at H
        have c10b0 : decide (x29_2 < (l0_0.length : Int)) = false := decide_eq_false c10
        clear c10
        have H' := Aside0.mk H
        clear H
        have hcz71_0 : wr.cell? ⟨gb319, 0, none⟩ = some (.slice A0_0 l0_0.length c0_0) := (blk_cell BK319.out 0).trans rfl
        have hcz71_1 : wr.cell? ⟨gb319, 1, none⟩ = some (.slice A0_1 l0_1.length c0_1) := (blk_cell BK319.out 1).trans rfl
        have hfz71_0 := blk_frozen BK319.out 0
        have hfz71_1 := blk_frozen BK319.out 1
        go_wp2
        go_loopg [107] k2 (fun kq v107 w' => ∃ (x107_3 : Int), v107 = .int .i64 x107_3 ∧ Aside0 (spec_GoodChart.l2 kq (l0_0.length : Int) l0_1 (l0_1.length : Int) x107_3 = some r) ∧ Aside0 (kq ≤ k2) ∧ Aside0 (w'.heap[gb319]? = some (.cells #[(.slice A0_0 l0_0.length c0_0), (.slice A0_1 l0_1.length c0_1)] 55 (0, 0))) ∧ Aside0 (Below w.heap.size w w'))
        case atStart => exact ⟨(0), es_, H', ⟨Nat.le_refl _⟩, ⟨bk_ BK319.out⟩, ⟨hb_⟩⟩
        case round =>
         clear H'
         try clear c1
         try clear c2
         try clear p2
         try clear c3
         try clear p3
         try clear q3
         try clear hx3
         try clear c4
         try clear c5
         try clear c5b0
         try clear c5b1
         try clear c6
         try clear c6b0
         try clear c6b1
         try clear p6
         try clear c8
         try clear c10
         try clear c10b0
         try clear c11
         try clear c11b0
         try clear c12
         try clear c12b0
         try clear c15
         try clear c17
         try clear c17b0
         try clear c17b1
         try clear c18
         try clear c18b0
         try clear c18b1
         try clear c19
         try clear c19b0
         try clear c20
         try clear c20b0
         try clear c21
         try clear c23
         try clear c25
         try clear c27
         try clear c29
         try clear c29b0
         try clear c30
         try clear c30b0
         try clear c31
         try clear c32
         try clear p32
         try clear q32
         try clear hx32
         try clear c33
         try clear c35
         try clear c36
         try clear c38
         try clear c38b0
         try clear c39
         try clear c39b0
         try clear c40
         try clear c40b0
         try clear c41
         try clear c43
         try clear c44
         try clear c47
         try clear c48
         try clear c50
         try clear c51
         try clear c51b0
         try clear c52
         try clear c54
         try clear c54b0
         try clear c55
         try clear c57
         try clear c57b0
         try clear c58
         try clear c58b0
         try clear c59
         try clear c59b0
         try clear c59b1
         try clear c60
         try clear c63
         try clear p64
         try clear c66
         try clear c66b0
         try clear c66b1
         try clear c67
         try clear c69
         try clear hcz16_0
         try clear hcz16_1
         try clear hcz22_0
         try clear hcz22_1
         try clear hcz24_0
         try clear hcz24_1
         try clear hcz26_0
         try clear hcz26_1
         try clear hcz28_0
         try clear hcz28_1
         try clear hcz32_0
         try clear hcz32_1
         try clear hcz34_0
         try clear hcz34_1
         try clear hcz37_0
         try clear hcz37_1
         try clear hcz45_0
         try clear hcz45_1
         try clear hcz49_0
         try clear hcz49_1
         try clear hcz4_0
         try clear hcz4_1
         try clear hcz53_0
         try clear hcz53_1
         try clear hcz56_0
         try clear hcz56_1
         try clear hcz61_0
         try clear hcz61_1
         try clear hcz62_0
         try clear hcz62_1
         try clear hcz64_0
         try clear hcz64_1
         try clear hcz65_0
         try clear hcz65_1
         try clear hcz68_0
         try clear hcz68_1
         try clear hcz70_0
         try clear hcz70_1
         try clear hcz71_0
         try clear hcz71_1
         try clear hcz7_0
         try clear hcz7_1
         try clear hcz9_0
         try clear hcz9_1
         try clear hfz16_0
         try clear hfz16_1
         try clear hfz22_0
         try clear hfz22_1
         try clear hfz24_0
         try clear hfz24_1
         try clear hfz26_0
         try clear hfz26_1
         try clear hfz28_0
         try clear hfz28_1
         try clear hfz32_0
         try clear hfz32_1
         try clear hfz34_0
         try clear hfz34_1
         try clear hfz37_0
         try clear hfz37_1
         try clear hfz45_0
         try clear hfz45_1
         try clear hfz49_0
         try clear hfz49_1
         try clear hfz4_0
         try clear hfz4_1
         try clear hfz53_0
         try clear hfz53_1
         try clear hfz56_0
         try clear hfz56_1
         try clear hfz61_0
         try clear hfz61_1
         try clear hfz62_0
         try clear hfz62_1
         try clear hfz64_0
         try clear hfz64_1
         try clear hfz65_0
         try clear hfz65_1
         try clear hfz68_0
         try clear hfz68_1
         try clear hfz70_0
         try clear hfz70_1
         try clear hfz71_0
         try clear hfz71_1
         try clear hfz7_0
         try clear hfz7_1
         try clear hfz9_0
         try clear hfz9_1
         try clear hx320_0
         try clear hx320_1
         try clear hx322_0
         try clear hx322_1
         try clear hx324_0
         try clear hx324_1
         try clear p2
         try clear p3
         try clear p32
         try clear p320
         try clear p322
         try clear p324
         try clear q3
         try clear q32
         try clear q320
         try clear q322
         try clear q324
         obtain ⟨x107_3, rfl, HA, HK3, BK319, HB⟩ := hrel
         cases gk with
         | zero => exact absurd HA.out (by simp [spec_GoodChart.l2])
         | succ k3 =>
          have H := HA.out
          clear HA
          simp only [spec_GoodChart.l2] at H
          by_cases c72 : x107_3 < (l0_1.length : Int)
          ·rw [if_pos c72] at H
           have c72b0 : decide (x107_3 < (l0_1.length : Int)) = true := decide_eq_true c72
           clear c72
           by_cases c73 : 0 ≤ x107_3
           ·rw [if_pos c73] at H
            have c73b0 : decide (0 ≤ x107_3) = true := decide_eq_true c73
            clear c73
            by_cases c74 : x107_3 < (l0_1.length : Int)
            ·rw [if_pos c74] at H
             have c74b0 : decide (x107_3 < (l0_1.length : Int)) = true := decide_eq_true c74
             clear c74
             by_cases c75 : ((rd_T90 l0_1 x107_3).f0) < 0
             ·rw [if_pos c75] at H
              have c75b0 : decide (((rd_T90 l0_1 x107_3).f0) < 0) = true := decide_eq_true c75
              clear c75
              obtain rfl := Option.some.inj H
              have p325 : 0 ≤ (x107_3 : Int) := of_decide_eq_true as_
              have q325 : x107_3 < (l0_1.length : Int) := of_decide_eq_true as_
              obtain ⟨ad325, e325, hx325_0, hx325_1, hx325_2⟩ := at_T90 HR0_1.out x107_3 p325 q325
              cases e325
              replace hx325_0 := hc_ HB hx325_0
              replace hx325_1 := hc_ HB hx325_1
              replace hx325_2 := hc_ HB hx325_2
              replace p325 := eq_true p325
              replace q325 := eq_true q325
              go_wp2_with (first | ((with_reducible refine gate_dst (N := 10) rfl ?_); (try (refine gate_guard (by rfl) ?_; dsimp only)); refine box_event ?hg (N := 10) ?hd (cs := #[.int .i64 0, .int .i64 0, .int .i64 0]) (t := 90) ?hr ?_; (case hd => rfl); (case hg => rfl); (case hr => first | (go_simp; done) | (go_simp; rfl)); intro gb326 hg w76 hbox hb; have n0_ := bb_ BK319 hb; have n1_ := Aside0.mk (below_step hb_ hb); have n2_ := Aside0.mk (hbox); have n3_ : Aside0 (w.heap.size ≤ gb326) := gz_; have n4_ : Aside0 (w.heap.size ≤ gb326) := gz_; have n5_ := Aside0.mk ((by rw [hg]; exact Nat.ne_of_lt (blk_lt (g := gb319) (o := .cells #[.slice A0_0 l0_0.length c0_0, .slice (some ad325) l0_1.length c0_1] 55 (0, 0)) (bk_ BK319.out)) : gb319 ≠ gb326)); have n6_ := Aside0.mk ((by rw [hg]; exact Nat.ne_of_gt (blk_lt (g := gb319) (o := .cells #[.slice A0_0 l0_0.length c0_0, .slice (some ad325) l0_1.length c0_1] 55 (0, 0)) (bk_ BK319.out)) : gb326 ≠ gb319)); clear BK319; clear HB; have BK319 := n0_; have HB := n1_; have BK326 := n2_; have GW326 := n3_; have GE326 := n4_; have NB319_326 := n5_; have NB326_319 := n6_; clear n0_ n1_ n2_ n3_ n4_ n5_ n6_; clear hb hbox hg; have hnb77 := NB326_319.out; have hnc77 := NB319_326.out; have hcz78_0 : w76.cell? ⟨gb326, 0, none⟩ = some (.int .i64 0) := (blk_cell BK326.out 0).trans rfl; have hcz78_1 : w76.cell? ⟨gb326, 1, none⟩ = some (.int .i64 0) := (blk_cell BK326.out 1).trans rfl; have hcz78_2 : w76.cell? ⟨gb326, 2, none⟩ = some (.int .i64 0) := (blk_cell BK326.out 2).trans rfl; have hfz78_0 := blk_frozen BK326.out 0; have hfz78_1 := blk_frozen BK326.out 1; have hfz78_2 := blk_frozen BK326.out 2))
              go_ret
              exact ⟨er_, hb_⟩
             ·rw [if_neg c75] at H
              have c75b0 : decide (((rd_T90 l0_1 x107_3).f0) < 0) = false := decide_eq_false c75
              clear c75
              by_cases c79 : ((rd_T90 l0_1 x107_3).f0) ≥ (l0_0.length : Int)
              ·rw [if_pos c79] at H
               have c79b0 : decide ((l0_0.length : Int) ≤ ((rd_T90 l0_1 x107_3).f0)) = true := decide_eq_true c79
               clear c79
               obtain rfl := Option.some.inj H
               have p325 : 0 ≤ (x107_3 : Int) := of_decide_eq_true as_
               have q325 : x107_3 < (l0_1.length : Int) := of_decide_eq_true as_
               obtain ⟨ad325, e325, hx325_0, hx325_1, hx325_2⟩ := at_T90 HR0_1.out x107_3 p325 q325
               cases e325
               replace hx325_0 := hc_ HB hx325_0
               replace hx325_1 := hc_ HB hx325_1
               replace hx325_2 := hc_ HB hx325_2
               replace p325 := eq_true p325
               replace q325 := eq_true q325
               go_wp2_with (first | ((with_reducible refine gate_dst (N := 10) rfl ?_); (try (refine gate_guard (by rfl) ?_; dsimp only)); refine box_event ?hg (N := 10) ?hd (cs := #[.int .i64 0, .int .i64 0, .int .i64 0]) (t := 90) ?hr ?_; (case hd => rfl); (case hg => rfl); (case hr => first | (go_simp; done) | (go_simp; rfl)); intro gb326 hg w80 hbox hb; have n0_ := bb_ BK319 hb; have n1_ := Aside0.mk (below_step hb_ hb); have n2_ := Aside0.mk (hbox); have n3_ : Aside0 (w.heap.size ≤ gb326) := gz_; have n4_ : Aside0 (w.heap.size ≤ gb326) := gz_; have n5_ := Aside0.mk ((by rw [hg]; exact Nat.ne_of_lt (blk_lt (g := gb319) (o := .cells #[.slice A0_0 l0_0.length c0_0, .slice (some ad325) l0_1.length c0_1] 55 (0, 0)) (bk_ BK319.out)) : gb319 ≠ gb326)); have n6_ := Aside0.mk ((by rw [hg]; exact Nat.ne_of_gt (blk_lt (g := gb319) (o := .cells #[.slice A0_0 l0_0.length c0_0, .slice (some ad325) l0_1.length c0_1] 55 (0, 0)) (bk_ BK319.out)) : gb326 ≠ gb319)); clear BK319; clear HB; have BK319 := n0_; have HB := n1_; have BK326 := n2_; have GW326 := n3_; have GE326 := n4_; have NB319_326 := n5_; have NB326_319 := n6_; clear n0_ n1_ n2_ n3_ n4_ n5_ n6_; clear hb hbox hg; have hnb81 := NB326_319.out; have hnc81 := NB319_326.out; have hcz82_0 : w80.cell? ⟨gb326, 0, none⟩ = some (.int .i64 0) := (blk_cell BK326.out 0).trans rfl; have hcz82_1 : w80.cell? ⟨gb326, 1, none⟩ = some (.int .i64 0) := (blk_cell BK326.out 1).trans rfl; have hcz82_2 : w80.cell? ⟨gb326, 2, none⟩ = some (.int .i64 0) := (blk_cell BK326.out 2).trans rfl; have hfz82_0 := blk_frozen BK326.out 0; have hfz82_1 := blk_frozen BK326.out 1; have hfz82_2 := blk_frozen BK326.out 2))
               go_ret
               exact ⟨er_, hb_⟩
              ·rw [if_neg c79] at H
               have c79b0 : decide ((l0_0.length : Int) ≤ ((rd_T90 l0_1 x107_3).f0)) = false := decide_eq_false c79
               clear c79
               by_cases c83 : ((rd_T90 l0_1 x107_3).f2) < 0
               ·rw [if_pos c83] at H
                have c83b0 : decide (((rd_T90 l0_1 x107_3).f2) < 0) = true := decide_eq_true c83
                clear c83
                obtain rfl := Option.some.inj H
                have p325 : 0 ≤ (x107_3 : Int) := of_decide_eq_true as_
                have q325 : x107_3 < (l0_1.length : Int) := of_decide_eq_true as_
                obtain ⟨ad325, e325, hx325_0, hx325_1, hx325_2⟩ := at_T90 HR0_1.out x107_3 p325 q325
                cases e325
                replace hx325_0 := hc_ HB hx325_0
                replace hx325_1 := hc_ HB hx325_1
                replace hx325_2 := hc_ HB hx325_2
                replace p325 := eq_true p325
                replace q325 := eq_true q325
                go_wp2_with (first | ((with_reducible refine gate_dst (N := 10) rfl ?_); (try (refine gate_guard (by rfl) ?_; dsimp only)); refine box_event ?hg (N := 10) ?hd (cs := #[.int .i64 0, .int .i64 0, .int .i64 0]) (t := 90) ?hr ?_; (case hd => rfl); (case hg => rfl); (case hr => first | (go_simp; done) | (go_simp; rfl)); intro gb326 hg w84 hbox hb; have n0_ := bb_ BK319 hb; have n1_ := Aside0.mk (below_step hb_ hb); have n2_ := Aside0.mk (hbox); have n3_ : Aside0 (w.heap.size ≤ gb326) := gz_; have n4_ : Aside0 (w.heap.size ≤ gb326) := gz_; have n5_ := Aside0.mk ((by rw [hg]; exact Nat.ne_of_lt (blk_lt (g := gb319) (o := .cells #[.slice A0_0 l0_0.length c0_0, .slice (some ad325) l0_1.length c0_1] 55 (0, 0)) (bk_ BK319.out)) : gb319 ≠ gb326)); have n6_ := Aside0.mk ((by rw [hg]; exact Nat.ne_of_gt (blk_lt (g := gb319) (o := .cells #[.slice A0_0 l0_0.length c0_0, .slice (some ad325) l0_1.length c0_1] 55 (0, 0)) (bk_ BK319.out)) : gb326 ≠ gb319)); clear BK319; clear HB; have BK319 := n0_; have HB := n1_; have BK326 := n2_; have GW326 := n3_; have GE326 := n4_; have NB319_326 := n5_; have NB326_319 := n6_; clear n0_ n1_ n2_ n3_ n4_ n5_ n6_; clear hb hbox hg; have hnb85 := NB326_319.out; have hnc85 := NB319_326.out; have hcz86_0 : w84.cell? ⟨gb326, 0, none⟩ = some (.int .i64 0) := (blk_cell BK326.out 0).trans rfl; have hcz86_1 : w84.cell? ⟨gb326, 1, none⟩ = some (.int .i64 0) := (blk_cell BK326.out 1).trans rfl; have hcz86_2 : w84.cell? ⟨gb326, 2, none⟩ = some (.int .i64 0) := (blk_cell BK326.out 2).trans rfl; have hfz86_0 := blk_frozen BK326.out 0; have hfz86_1 := blk_frozen BK326.out 1; have hfz86_2 := blk_frozen BK326.out 2))
                go_ret
                exact ⟨er_, hb_⟩
               ·rw [if_neg c83] at H
                have c83b0 : decide (((rd_T90 l0_1 x107_3).f2) < 0) = false := decide_eq_false c83
                clear c83
                by_cases c87 : ((rd_T90 l0_1 x107_3).f2) ≥ (l0_0.length : Int)
                ·rw [if_pos c87] at H
                 have c87b0 : decide ((l0_0.length : Int) ≤ ((rd_T90 l0_1 x107_3).f2)) = true := decide_eq_true c87
                 clear c87
                 obtain rfl := Option.some.inj H
                 have p325 : 0 ≤ (x107_3 : Int) := of_decide_eq_true as_
                 have q325 : x107_3 < (l0_1.length : Int) := of_decide_eq_true as_
                 obtain ⟨ad325, e325, hx325_0, hx325_1, hx325_2⟩ := at_T90 HR0_1.out x107_3 p325 q325
                 cases e325
                 replace hx325_0 := hc_ HB hx325_0
                 replace hx325_1 := hc_ HB hx325_1
                 replace hx325_2 := hc_ HB hx325_2
                 replace p325 := eq_true p325
                 replace q325 := eq_true q325
                 go_wp2_with (first | ((with_reducible refine gate_dst (N := 10) rfl ?_); (try (refine gate_guard (by rfl) ?_; dsimp only)); refine box_event ?hg (N := 10) ?hd (cs := #[.int .i64 0, .int .i64 0, .int .i64 0]) (t := 90) ?hr ?_; (case hd => rfl); (case hg => rfl); (case hr => first | (go_simp; done) | (go_simp; rfl)); intro gb326 hg w88 hbox hb; have n0_ := bb_ BK319 hb; have n1_ := Aside0.mk (below_step hb_ hb); have n2_ := Aside0.mk (hbox); have n3_ : Aside0 (w.heap.size ≤ gb326) := gz_; have n4_ : Aside0 (w.heap.size ≤ gb326) := gz_; have n5_ := Aside0.mk ((by rw [hg]; exact Nat.ne_of_lt (blk_lt (g := gb319) (o := .cells #[.slice A0_0 l0_0.length c0_0, .slice (some ad325) l0_1.length c0_1] 55 (0, 0)) (bk_ BK319.out)) : gb319 ≠ gb326)); have n6_ := Aside0.mk ((by rw [hg]; exact Nat.ne_of_gt (blk_lt (g := gb319) (o := .cells #[.slice A0_0 l0_0.length c0_0, .slice (some ad325) l0_1.length c0_1] 55 (0, 0)) (bk_ BK319.out)) : gb326 ≠ gb319)); clear BK319; clear HB; have BK319 := n0_; have HB := n1_; have BK326 := n2_; have GW326 := n3_; have GE326 := n4_; have NB319_326 := n5_; have NB326_319 := n6_; clear n0_ n1_ n2_ n3_ n4_ n5_ n6_; clear hb hbox hg; have hnb89 := NB326_319.out; have hnc89 := NB319_326.out; have hcz90_0 : w88.cell? ⟨gb326, 0, none⟩ = some (.int .i64 0) := (blk_cell BK326.out 0).trans rfl; have hcz90_1 : w88.cell? ⟨gb326, 1, none⟩ = some (.int .i64 0) := (blk_cell BK326.out 1).trans rfl; have hcz90_2 : w88.cell? ⟨gb326, 2, none⟩ = some (.int .i64 0) := (blk_cell BK326.out 2).trans rfl; have hfz90_0 := blk_frozen BK326.out 0; have hfz90_1 := blk_frozen BK326.out 1; have hfz90_2 := blk_frozen BK326.out 2))
                 go_ret
                 exact ⟨er_, hb_⟩
                ·rw [if_neg c87] at H
                 have c87b0 : decide ((l0_0.length : Int) ≤ ((rd_T90 l0_1 x107_3).f2)) = false := decide_eq_false c87
                 clear c87
                 by_cases c91 : ((rd_T90 l0_1 x107_3).f1) < 0
                 ·rw [if_pos c91] at H
                  have c91b0 : decide (((rd_T90 l0_1 x107_3).f1) < 0) = true := decide_eq_true c91
                  clear c91
                  obtain rfl := Option.some.inj H
                  have p325 : 0 ≤ (x107_3 : Int) := of_decide_eq_true as_
                  have q325 : x107_3 < (l0_1.length : Int) := of_decide_eq_true as_
                  obtain ⟨ad325, e325, hx325_0, hx325_1, hx325_2⟩ := at_T90 HR0_1.out x107_3 p325 q325
                  cases e325
                  replace hx325_0 := hc_ HB hx325_0
                  replace hx325_1 := hc_ HB hx325_1
                  replace hx325_2 := hc_ HB hx325_2
                  replace p325 := eq_true p325
                  replace q325 := eq_true q325
                  go_wp2_with (first | ((with_reducible refine gate_dst (N := 10) rfl ?_); (try (refine gate_guard (by rfl) ?_; dsimp only)); refine box_event ?hg (N := 10) ?hd (cs := #[.int .i64 0, .int .i64 0, .int .i64 0]) (t := 90) ?hr ?_; (case hd => rfl); (case hg => rfl); (case hr => first | (go_simp; done) | (go_simp; rfl)); intro gb326 hg w92 hbox hb; have n0_ := bb_ BK319 hb; have n1_ := Aside0.mk (below_step hb_ hb); have n2_ := Aside0.mk (hbox); have n3_ : Aside0 (w.heap.size ≤ gb326) := gz_; have n4_ : Aside0 (w.heap.size ≤ gb326) := gz_; have n5_ := Aside0.mk ((by rw [hg]; exact Nat.ne_of_lt (blk_lt (g := gb319) (o := .cells #[.slice A0_0 l0_0.length c0_0, .slice (some ad325) l0_1.length c0_1] 55 (0, 0)) (bk_ BK319.out)) : gb319 ≠ gb326)); have n6_ := Aside0.mk ((by rw [hg]; exact Nat.ne_of_gt (blk_lt (g := gb319) (o := .cells #[.slice A0_0 l0_0.length c0_0, .slice (some ad325) l0_1.length c0_1] 55 (0, 0)) (bk_ BK319.out)) : gb326 ≠ gb319)); clear BK319; clear HB; have BK319 := n0_; have HB := n1_; have BK326 := n2_; have GW326 := n3_; have GE326 := n4_; have NB319_326 := n5_; have NB326_319 := n6_; clear n0_ n1_ n2_ n3_ n4_ n5_ n6_; clear hb hbox hg; have hnb93 := NB326_319.out; have hnc93 := NB319_326.out; have hcz94_0 : w92.cell? ⟨gb326, 0, none⟩ = some (.int .i64 0) := (blk_cell BK326.out 0).trans rfl; have hcz94_1 : w92.cell? ⟨gb326, 1, none⟩ = some (.int .i64 0) := (blk_cell BK326.out 1).trans rfl; have hcz94_2 : w92.cell? ⟨gb326, 2, none⟩ = some (.int .i64 0) := (blk_cell BK326.out 2).trans rfl; have hfz94_0 := blk_frozen BK326.out 0; have hfz94_1 := blk_frozen BK326.out 1; have hfz94_2 := blk_frozen BK326.out 2))
                  go_ret
                  exact ⟨er_, hb_⟩
                 ·rw [if_neg c91] at H
                  have c91b0 : decide (((rd_T90 l0_1 x107_3).f1) < 0) = false := decide_eq_false c91
                  clear c91
                  by_cases c95 : ((rd_T90 l0_1 x107_3).f1) ≥ 6
                  ·rw [if_pos c95] at H
                   have c95b0 : decide (6 ≤ ((rd_T90 l0_1 x107_3).f1)) = true := decide_eq_true c95
                   clear c95
                   obtain rfl := Option.some.inj H
                   have p325 : 0 ≤ (x107_3 : Int) := of_decide_eq_true as_
                   have q325 : x107_3 < (l0_1.length : Int) := of_decide_eq_true as_
                   obtain ⟨ad325, e325, hx325_0, hx325_1, hx325_2⟩ := at_T90 HR0_1.out x107_3 p325 q325
                   cases e325
                   replace hx325_0 := hc_ HB hx325_0
                   replace hx325_1 := hc_ HB hx325_1
                   replace hx325_2 := hc_ HB hx325_2
                   replace p325 := eq_true p325
                   replace q325 := eq_true q325
                   go_wp2_with (first | ((with_reducible refine gate_dst (N := 10) rfl ?_); (try (refine gate_guard (by rfl) ?_; dsimp only)); refine box_event ?hg (N := 10) ?hd (cs := #[.int .i64 0, .int .i64 0, .int .i64 0]) (t := 90) ?hr ?_; (case hd => rfl); (case hg => rfl); (case hr => first | (go_simp; done) | (go_simp; rfl)); intro gb326 hg w96 hbox hb; have n0_ := bb_ BK319 hb; have n1_ := Aside0.mk (below_step hb_ hb); have n2_ := Aside0.mk (hbox); have n3_ : Aside0 (w.heap.size ≤ gb326) := gz_; have n4_ : Aside0 (w.heap.size ≤ gb326) := gz_; have n5_ := Aside0.mk ((by rw [hg]; exact Nat.ne_of_lt (blk_lt (g := gb319) (o := .cells #[.slice A0_0 l0_0.length c0_0, .slice (some ad325) l0_1.length c0_1] 55 (0, 0)) (bk_ BK319.out)) : gb319 ≠ gb326)); have n6_ := Aside0.mk ((by rw [hg]; exact Nat.ne_of_gt (blk_lt (g := gb319) (o := .cells #[.slice A0_0 l0_0.length c0_0, .slice (some ad325) l0_1.length c0_1] 55 (0, 0)) (bk_ BK319.out)) : gb326 ≠ gb319)); clear BK319; clear HB; have BK319 := n0_; have HB := n1_; have BK326 := n2_; have GW326 := n3_; have GE326 := n4_; have NB319_326 := n5_; have NB326_319 := n6_; clear n0_ n1_ n2_ n3_ n4_ n5_ n6_; clear hb hbox hg; have hnb97 := NB326_319.out; have hnc97 := NB319_326.out; have hcz98_0 : w96.cell? ⟨gb326, 0, none⟩ = some (.int .i64 0) := (blk_cell BK326.out 0).trans rfl; have hcz98_1 : w96.cell? ⟨gb326, 1, none⟩ = some (.int .i64 0) := (blk_cell BK326.out 1).trans rfl; have hcz98_2 : w96.cell? ⟨gb326, 2, none⟩ = some (.int .i64 0) := (blk_cell BK326.out 2).trans rfl; have hfz98_0 := blk_frozen BK326.out 0; have hfz98_1 := blk_frozen BK326.out 1; have hfz98_2 := blk_frozen BK326.out 2))
                   go_ret
                   exact ⟨er_, hb_⟩
                  ·rw [if_neg c95] at H
                   have c95b0 : decide (6 ≤ ((rd_T90 l0_1 x107_3).f1)) = false := decide_eq_false c95
                   clear c95
                   have H' := Aside0.mk H
                   clear H
                   have p325 : 0 ≤ (x107_3 : Int) := of_decide_eq_true as_
                   have q325 : x107_3 < (l0_1.length : Int) := of_decide_eq_true as_
                   obtain ⟨ad325, e325, hx325_0, hx325_1, hx325_2⟩ := at_T90 HR0_1.out x107_3 p325 q325
                   cases e325
                   replace hx325_0 := hc_ HB hx325_0
                   replace hx325_1 := hc_ HB hx325_1
                   replace hx325_2 := hc_ HB hx325_2
                   replace p325 := eq_true p325
                   replace q325 := eq_true q325
                   go_wp2_with (first | ((with_reducible refine gate_dst (N := 10) rfl ?_); (try (refine gate_guard (by rfl) ?_; dsimp only)); refine box_event ?hg (N := 10) ?hd (cs := #[.int .i64 0, .int .i64 0, .int .i64 0]) (t := 90) ?hr ?_; (case hd => rfl); (case hg => rfl); (case hr => first | (go_simp; done) | (go_simp; rfl)); intro gb326 hg w99 hbox hb; have n0_ := bb_ BK319 hb; have n1_ := Aside0.mk (below_step hb_ hb); have n2_ := Aside0.mk (hbox); have n3_ : Aside0 (w.heap.size ≤ gb326) := gz_; have n4_ : Aside0 (w.heap.size ≤ gb326) := gz_; have n5_ := Aside0.mk ((by rw [hg]; exact Nat.ne_of_lt (blk_lt (g := gb319) (o := .cells #[.slice A0_0 l0_0.length c0_0, .slice (some ad325) l0_1.length c0_1] 55 (0, 0)) (bk_ BK319.out)) : gb319 ≠ gb326)); have n6_ := Aside0.mk ((by rw [hg]; exact Nat.ne_of_gt (blk_lt (g := gb319) (o := .cells #[.slice A0_0 l0_0.length c0_0, .slice (some ad325) l0_1.length c0_1] 55 (0, 0)) (bk_ BK319.out)) : gb326 ≠ gb319)); clear BK319; clear HB; have BK319 := n0_; have HB := n1_; have BK326 := n2_; have GW326 := n3_; have GE326 := n4_; have NB319_326 := n5_; have NB326_319 := n6_; clear n0_ n1_ n2_ n3_ n4_ n5_ n6_; clear hb hbox hg; have hnb100 := NB326_319.out; have hnc100 := NB319_326.out; have hcz101_0 : w99.cell? ⟨gb326, 0, none⟩ = some (.int .i64 0) := (blk_cell BK326.out 0).trans rfl; have hcz101_1 : w99.cell? ⟨gb326, 1, none⟩ = some (.int .i64 0) := (blk_cell BK326.out 1).trans rfl; have hcz101_2 : w99.cell? ⟨gb326, 2, none⟩ = some (.int .i64 0) := (blk_cell BK326.out 2).trans rfl; have hfz101_0 := blk_frozen BK326.out 0; have hfz101_1 := blk_frozen BK326.out 1; have hfz101_2 := blk_frozen BK326.out 2))
                   go_roundg k3
                   case measure => have := HJ1.out; have := HK2.out; have := HK3.out; omega
                   case rel => exact ⟨(wrap64 (x107_3 + 1)), es_, H', ⟨by have := HJ1.out; have := HK2.out; have := HK3.out; omega⟩, ⟨by (with_reducible repeat (first | refine blk_drewN ?_ _ | refine blk_drew ?_ | refine blk_alloc ?_ _)); refine blk_far ?_ NB319_326.out _; (with_reducible repeat (first | refine blk_drewN ?_ _ | refine blk_drew ?_ | refine blk_alloc ?_ _)); refine blk_far ?_ NB319_326.out _; (with_reducible repeat (first | refine blk_drewN ?_ _ | refine blk_drew ?_ | refine blk_alloc ?_ _)); refine blk_far ?_ NB319_326.out _; (with_reducible repeat (first | refine blk_drewN ?_ _ | refine blk_drew ?_ | refine blk_alloc ?_ _)); exact BK319.out⟩, ⟨hb_⟩⟩
            ·rw [if_neg c74] at H
             exact absurd H (by simp)
           ·rw [if_neg c73] at H
            exact absurd H (by simp)
          ·rw [if_neg c72] at H
           have c72b0 : decide (x107_3 < (l0_1.length : Int)) = false := decide_eq_false c72
           clear c72
           obtain rfl := Option.some.inj H
           go_wp2
           go_ret
           exact ⟨er_, hb_⟩

end Go.Proofs.Ytkhkgfihodljmaa.Pr
