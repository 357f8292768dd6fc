-- Written by this session's own print (wip/tools/mkmp.py) out of the translation. Lean checks it.
import Derived.Test.YtkhkgfihodljmaaPr0
import Derived.Test.YtkhkgfihodljmaaPrd1
namespace Go.Proofs.Ytkhkgfihodljmaa.Pr
open Go.RowKit Go.Proofs.YtkhkgfihodljmaaW.PrintWords Go.Proofs.YtkhkgfihodljmaaW.PrintLast Go.Proofs.YtkhkgfihodljmaaW.PrintMore
attribute [local go_sem] max2_int min2_int max_two min_two max_three min_three max_four min_four   -- for this text's walks alone
set_option linter.unusedVariables false
set_option linter.unusedSimpArgs false

set_option maxHeartbeats 8000000 in
set_option maxRecDepth 100000 in
theorem spec_GoodTree.calls (k : Nat) (A0 : Option Addr) (c0 : Nat) (l0 : List (S70)) (r : Bool) (w : World) (hr0 : Kd.C k70 w A0 l0.length l0) (hc0 : l0.length ≤ c0) (h : spec_GoodTree.f k l0 = some r) :
   Calls Try.prog 13 #[.slice A0 l0.length c0] w fun e w' => e = .returned (.bool r) ∧ Below w.heap.size w w' := by
  have hu70 := Try.underlying70
  have HR0 := Aside0.mk hr0
  have HC0 := Aside0.mk hc0
  clear hr0 hc0
  have HB := Aside0.mk (Below.refl w.heap.size w)
  have H : (if (l0.length : Int) < 1 then (spec_GoodTree.j0 k l0 true) else (spec_GoodTree.j0 k l0 (decide ((l0.length : Int) > 24)))) = some r := h
  clear h
  have HC2 := Aside0.mk H
  clear H
  go_enter Try.func13, Try.ntmps13
  go_upto_region 1 with (fail)
  go_cut [14] (fun v14 wc => ∃ (kq : Nat) (x14_1 : Bool), v14 = .bool x14_1 ∧ Aside0 (spec_GoodTree.j0 kq l0 x14_1 = some r) ∧ Aside0 (kq ≤ k) ∧ Aside0 (Below w.heap.size w wc))
  case first =>
   have H := HC2.out
   clear HC2
   by_cases c3 : (l0.length : Int) < 1
   ·rw [if_pos c3] at H
    have c3b0 : decide ((l0.length : Int) < 1) = true := decide_eq_true c3
    have c3b1 : decide (l0.length < 1) = true := decide_eq_true (by omega)
    clear c3
    (first | rw [c3b0] | (simp only [i64_w, i32_w]; rw [c3b0]) | skip)
    have H' := Aside0.mk H
    clear H
    go_wp2
    go_meet
    case rel => exact ⟨_, (true), es_, H', ⟨by first | omega | exact Nat.le_refl _⟩, ⟨hb_⟩⟩
   ·rw [if_neg c3] at H
    have c3b0 : decide ((l0.length : Int) < 1) = false := decide_eq_false c3
    have c3b1 : decide (l0.length < 1) = false := decide_eq_false (by omega)
    clear c3
    (first | rw [c3b0] | (simp only [i64_w, i32_w]; rw [c3b0]) | skip)
    have H' := Aside0.mk H
    clear H
    go_wp2
    go_meet
    case rel => exact ⟨_, (decide ((l0.length : Int) > 24)), es_, H', ⟨by first | omega | exact Nat.le_refl _⟩, ⟨hb_⟩⟩
  case rest =>
   clear HC2
   try clear c1
   try clear p2
   try clear c3
   try clear c3b0
   try clear c3b1
   obtain ⟨kq, x14_1, rfl, HA, HJ1, HB⟩ := hcut
   cases kq with
   | zero => exact absurd HA.out (by simp [spec_GoodTree.j0])
   | succ kj1 =>
    have H := HA.out
    clear HA
    simp only [spec_GoodTree.j0] at H
    by_cases c4 : x14_1 = true
    ·subst c4
     rw [if_pos rfl] at H
     obtain rfl := Option.some.inj H
     go_wp2
     go_ret
     exact ⟨er_, hb_⟩
    ·replace c4 := Bool.eq_false_iff.mpr c4
     subst c4
     rw [if_neg (show ¬ (false = true) by decide)] at H
     have H' := Aside0.mk H
     clear H
     go_wp2
     go_loopg [3, 17] kj1 (fun kq v3 v17 w' => ∃ (x3_2 : Int) (x17_2 : Int), v3 = .int .i64 x3_2 ∧ v17 = .int .i64 x17_2 ∧ Aside0 (spec_GoodTree.l0 kq l0 x3_2 l0 (l0.length : Int) x17_2 = some r) ∧ Aside0 (kq ≤ kj1) ∧ Aside0 (Below w.heap.size w w'))
     case atStart => exact ⟨(1), (0), es_, es_, H', ⟨Nat.le_refl _⟩, ⟨hb_⟩⟩
     case round =>
      clear H'
      try clear c1
      try clear p2
      try clear c3
      try clear c3b0
      try clear c3b1
      try clear c4
      try clear p2
      obtain ⟨x3_2, x17_2, rfl, rfl, HA, HK2, HB⟩ := hrel
      cases gk with
      | zero => exact absurd HA.out (by simp [spec_GoodTree.l0])
      | succ k2 =>
       have H := HA.out
       clear HA
       simp only [spec_GoodTree.l0] at H
       by_cases c5 : x17_2 < (l0.length : Int)
       ·rw [if_pos c5] at H
        have c5b0 : decide (x17_2 < (l0.length : Int)) = true := decide_eq_true c5
        clear c5
        by_cases c6 : 0 ≤ x17_2
        ·rw [if_pos c6] at H
         have c6b0 : decide (0 ≤ x17_2) = true := decide_eq_true c6
         clear c6
         by_cases c7 : x17_2 < (l0.length : Int)
         ·rw [if_pos c7] at H
          have c7b0 : decide (x17_2 < (l0.length : Int)) = true := decide_eq_true c7
          clear c7
          have HC8 := Aside0.mk H
          clear H
          have p101 : 0 ≤ (x17_2 : Int) := of_decide_eq_true as_
          have q101 : x17_2 < (l0.length : Int) := of_decide_eq_true as_
          obtain ⟨ad101, e101, hx101_0, hx101_1, hx101_2⟩ := at_T70 HR0.out x17_2 p101 q101
          cases e101
          replace hx101_0 := hc_ HB hx101_0
          replace hx101_1 := hc_ HB hx101_1
          replace hx101_2 := hc_ HB hx101_2
          replace p101 := eq_true p101
          replace q101 := eq_true q101
          go_upto_region 7 with (first | ((with_reducible refine gate_dst (N := 5) rfl ?_); (try (refine gate_guard (by rfl) ?_; dsimp only)); refine box_event ?hg (N := 5) ?hd (cs := #[.int .i64 0, .int .i64 0, .int .i64 0]) (t := 70) ?hr ?_; (case hd => rfl); (case hg => rfl); (case hr => first | (go_simp; done) | (go_simp; rfl)); intro gb102 hg w9 hbox hb; have n0_ := Aside0.mk (below_step hb_ hb); have n1_ := Aside0.mk (hbox); have n2_ : Aside0 (w.heap.size ≤ gb102) := gz_; have n3_ : Aside0 (w.heap.size ≤ gb102) := gz_; clear HB; have HB := n0_; have BK102 := n1_; have GW102 := n2_; have GE102 := n3_; clear n0_ n1_ n2_ n3_; clear hb hbox hg; have hcz10_0 : w9.cell? ⟨gb102, 0, none⟩ = some (.int .i64 0) := (blk_cell BK102.out 0).trans rfl; have hcz10_1 : w9.cell? ⟨gb102, 1, none⟩ = some (.int .i64 0) := (blk_cell BK102.out 1).trans rfl; have hcz10_2 : w9.cell? ⟨gb102, 2, none⟩ = some (.int .i64 0) := (blk_cell BK102.out 2).trans rfl; have hfz10_0 := blk_frozen BK102.out 0; have hfz10_1 := blk_frozen BK102.out 1; have hfz10_2 := blk_frozen BK102.out 2))
          (try simp only [Act.put, List.setIfInBounds_toArray, List.set_cons_zero, List.set_cons_succ])
          go_cut [34] (fun v34 wc => ∃ (kq : Nat) (x34_7 : Bool), v34 = .bool x34_7 ∧ Aside0 (spec_GoodTree.j2 kq l0 x3_2 l0 (l0.length : Int) x17_2 x34_7 ((rd_T70 l0 x17_2).f0) ((rd_T70 l0 x17_2).f1) ((rd_T70 l0 x17_2).f2) = some r) ∧ Aside0 (kq ≤ k2) ∧ Aside0 (wc.heap[gb102]? = some (.cells #[.int .i64 ((rd_T70 l0 x17_2).f0), .int .i64 ((rd_T70 l0 x17_2).f1), .int .i64 ((rd_T70 l0 x17_2).f2)] 70 (0, 0))) ∧ Aside0 (Below w.heap.size w wc))
          case first =>
           have H := HC8.out
           clear HC8
           by_cases c11 : x3_2 = 0
           ·rw [if_pos c11] at H
            have c11b0 : (x3_2 == 0) = true := beq_iff_eq.mpr c11
            have c11b1 : (x3_2 != 0) = false := bne_eq_false_iff_eq.mpr c11
            clear c11
            (first | rw [c11b0] | (simp only [i64_w, i32_w]; rw [c11b0]) | skip)
            have H' := Aside0.mk H
            clear H
            go_wp2
            go_meet
            case rel => exact ⟨_, (true), es_, H', ⟨by have := HJ1.out; have := HK2.out; first | omega | exact Nat.le_refl _⟩, ⟨by (with_reducible repeat (first | refine blk_drewN ?_ _ | refine blk_drew ?_ | refine blk_alloc ?_ _)); refine blk_put (cs := #[.int .i64 ((rd_T70 l0 x17_2).f0), .int .i64 ((rd_T70 l0 x17_2).f1), .int .i64 0]) ?_ 2 _ rfl; (with_reducible repeat (first | refine blk_drewN ?_ _ | refine blk_drew ?_ | refine blk_alloc ?_ _)); refine blk_put (cs := #[.int .i64 ((rd_T70 l0 x17_2).f0), .int .i64 0, .int .i64 0]) ?_ 1 _ rfl; (with_reducible repeat (first | refine blk_drewN ?_ _ | refine blk_drew ?_ | refine blk_alloc ?_ _)); refine blk_put (cs := #[.int .i64 0, .int .i64 0, .int .i64 0]) ?_ 0 _ rfl; (with_reducible repeat (first | refine blk_drewN ?_ _ | refine blk_drew ?_ | refine blk_alloc ?_ _)); exact BK102.out⟩, ⟨hb_⟩⟩
           ·rw [if_neg c11] at H
            have c11b0 : (x3_2 == 0) = false := beq_eq_false_iff_ne.mpr c11
            have c11b1 : (x3_2 != 0) = true := bne_iff_ne.mpr c11
            (first | rw [c11b0] | (simp only [i64_w, i32_w]; rw [c11b0]) | skip)
            by_cases c12 : ((rd_T70 l0 x17_2).f1) < 0
            ·rw [if_pos c12] at H
             have c12b0 : decide (((rd_T70 l0 x17_2).f1) < 0) = true := decide_eq_true c12
             clear c12
             have H' := Aside0.mk H
             clear H
             have hcz13_0 : w9.cell? ⟨gb102, 0, none⟩ = some (.int .i64 0) := (blk_cell BK102.out 0).trans rfl
             have hcz13_1 : w9.cell? ⟨gb102, 1, none⟩ = some (.int .i64 0) := (blk_cell BK102.out 1).trans rfl
             have hcz13_2 : w9.cell? ⟨gb102, 2, none⟩ = some (.int .i64 0) := (blk_cell BK102.out 2).trans rfl
             have hfz13_0 := blk_frozen BK102.out 0
             have hfz13_1 := blk_frozen BK102.out 1
             have hfz13_2 := blk_frozen BK102.out 2
             go_wp2
             go_meet
             case rel => exact ⟨_, (true), es_, H', ⟨by have := HJ1.out; have := HK2.out; first | omega | exact Nat.le_refl _⟩, ⟨by (with_reducible repeat (first | refine blk_drewN ?_ _ | refine blk_drew ?_ | refine blk_alloc ?_ _)); refine blk_put (cs := #[.int .i64 ((rd_T70 l0 x17_2).f0), .int .i64 ((rd_T70 l0 x17_2).f1), .int .i64 0]) ?_ 2 _ rfl; (with_reducible repeat (first | refine blk_drewN ?_ _ | refine blk_drew ?_ | refine blk_alloc ?_ _)); refine blk_put (cs := #[.int .i64 ((rd_T70 l0 x17_2).f0), .int .i64 0, .int .i64 0]) ?_ 1 _ rfl; (with_reducible repeat (first | refine blk_drewN ?_ _ | refine blk_drew ?_ | refine blk_alloc ?_ _)); refine blk_put (cs := #[.int .i64 0, .int .i64 0, .int .i64 0]) ?_ 0 _ rfl; (with_reducible repeat (first | refine blk_drewN ?_ _ | refine blk_drew ?_ | refine blk_alloc ?_ _)); exact BK102.out⟩, ⟨hb_⟩⟩
            ·rw [if_neg c12] at H
             have c12b0 : decide (((rd_T70 l0 x17_2).f1) < 0) = false := decide_eq_false c12
             clear c12
             have H' := Aside0.mk H
             clear H
             have hcz14_0 : w9.cell? ⟨gb102, 0, none⟩ = some (.int .i64 0) := (blk_cell BK102.out 0).trans rfl
             have hcz14_1 : w9.cell? ⟨gb102, 1, none⟩ = some (.int .i64 0) := (blk_cell BK102.out 1).trans rfl
             have hcz14_2 : w9.cell? ⟨gb102, 2, none⟩ = some (.int .i64 0) := (blk_cell BK102.out 2).trans rfl
             have hfz14_0 := blk_frozen BK102.out 0
             have hfz14_1 := blk_frozen BK102.out 1
             have hfz14_2 := blk_frozen BK102.out 2
             go_wp2
             go_meet
             case rel => exact ⟨_, (decide (((rd_T70 l0 x17_2).f1) > (l0.length : Int))), es_, H', ⟨by have := HJ1.out; have := HK2.out; first | omega | exact Nat.le_refl _⟩, ⟨by (with_reducible repeat (first | refine blk_drewN ?_ _ | refine blk_drew ?_ | refine blk_alloc ?_ _)); refine blk_put (cs := #[.int .i64 ((rd_T70 l0 x17_2).f0), .int .i64 ((rd_T70 l0 x17_2).f1), .int .i64 0]) ?_ 2 _ rfl; (with_reducible repeat (first | refine blk_drewN ?_ _ | refine blk_drew ?_ | refine blk_alloc ?_ _)); refine blk_put (cs := #[.int .i64 ((rd_T70 l0 x17_2).f0), .int .i64 0, .int .i64 0]) ?_ 1 _ rfl; (with_reducible repeat (first | refine blk_drewN ?_ _ | refine blk_drew ?_ | refine blk_alloc ?_ _)); refine blk_put (cs := #[.int .i64 0, .int .i64 0, .int .i64 0]) ?_ 0 _ rfl; (with_reducible repeat (first | refine blk_drewN ?_ _ | refine blk_drew ?_ | refine blk_alloc ?_ _)); exact BK102.out⟩, ⟨hb_⟩⟩
          case rest =>
           clear HC8
           try clear c1
           try clear p1
           try clear q1
           try clear hx1
           try clear p2
           try clear c3
           try clear c3b0
           try clear c3b1
           try clear c4
           try clear c5
           try clear c5b0
           try clear c6
           try clear c6b0
           try clear c7
           try clear c7b0
           try clear p10
           try clear q10
           try clear hx10
           try clear c11
           try clear c11b0
           try clear c11b1
           try clear c12
           try clear c12b0
           try clear c13
           try clear hcz10_0
           try clear hcz10_1
           try clear hcz10_2
           try clear hcz13_0
           try clear hcz13_1
           try clear hcz13_2
           try clear hcz14_0
           try clear hcz14_1
           try clear hcz14_2
           try clear hfz10_0
           try clear hfz10_1
           try clear hfz10_2
           try clear hfz13_0
           try clear hfz13_1
           try clear hfz13_2
           try clear hfz14_0
           try clear hfz14_1
           try clear hfz14_2
           try clear hx101_0
           try clear hx101_1
           try clear hx101_2
           try clear p101
           try clear p2
           try clear q101
           obtain ⟨kq, x34_7, rfl, HA, HJ7, BK102, HB⟩ := hcut
           cases kq with
           | zero => exact absurd HA.out (by simp [spec_GoodTree.j2])
           | succ kj7 =>
            have H := HA.out
            clear HA
            simp only [spec_GoodTree.j2] at H
            by_cases c15 : x34_7 = true
            ·subst c15
             rw [if_pos rfl] at H
             obtain rfl := Option.some.inj H
             go_wp2
             go_ret
             exact ⟨er_, hb_⟩
            ·replace c15 := Bool.eq_false_iff.mpr c15
             subst c15
             rw [if_neg (show ¬ (false = true) by decide)] at H
             have HC16 := Aside0.mk H
             clear H
             have hcz17_0 : wc.cell? ⟨gb102, 0, none⟩ = some (.int .i64 ((rd_T70 l0 x17_2).f0)) := (blk_cell BK102.out 0).trans rfl
             have hcz17_1 : wc.cell? ⟨gb102, 1, none⟩ = some (.int .i64 ((rd_T70 l0 x17_2).f1)) := (blk_cell BK102.out 1).trans rfl
             have hcz17_2 : wc.cell? ⟨gb102, 2, none⟩ = some (.int .i64 ((rd_T70 l0 x17_2).f2)) := (blk_cell BK102.out 2).trans rfl
             have hfz17_0 := blk_frozen BK102.out 0
             have hfz17_1 := blk_frozen BK102.out 1
             have hfz17_2 := blk_frozen BK102.out 2
             go_upto_if 37 with (fail)
             go_cut [37] (fun v37 wc => ∃ (kq : Nat) (x37_15 : Bool), v37 = .bool x37_15 ∧ Aside0 (spec_GoodTree.j3 kq l0 x3_2 false l0 (l0.length : Int) x17_2 ((rd_T70 l0 x17_2).f0) x37_15 ((rd_T70 l0 x17_2).f0) ((rd_T70 l0 x17_2).f1) ((rd_T70 l0 x17_2).f2) = some r) ∧ Aside0 (kq ≤ kj7) ∧ Aside0 (wc.heap[gb102]? = some (.cells #[.int .i64 ((rd_T70 l0 x17_2).f0), .int .i64 ((rd_T70 l0 x17_2).f1), .int .i64 ((rd_T70 l0 x17_2).f2)] 70 (0, 0))) ∧ Aside0 (Below w.heap.size w wc))
             case first =>
              have H := HC16.out
              clear HC16
              by_cases c18 : ((rd_T70 l0 x17_2).f0) = 1
              ·rw [if_pos c18] at H
               have c18b0 : (((rd_T70 l0 x17_2).f0) == 1) = true := beq_iff_eq.mpr c18
               have c18b1 : (((rd_T70 l0 x17_2).f0) != 1) = false := bne_eq_false_iff_eq.mpr c18
               clear c18
               (first | rw [c18b0] | (simp only [i64_w, i32_w]; rw [c18b0]) | skip)
               have H' := Aside0.mk H
               clear H
               go_wp2
               go_meet
               case rel => exact ⟨_, ((((rd_T70 l0 x17_2).f0) == 1)), es_, H', ⟨by have := HJ1.out; have := HK2.out; have := HJ7.out; first | omega | exact Nat.le_refl _⟩, ⟨bk_ BK102.out⟩, ⟨hb_⟩⟩
              ·rw [if_neg c18] at H
               have c18b0 : (((rd_T70 l0 x17_2).f0) == 1) = false := beq_eq_false_iff_ne.mpr c18
               have c18b1 : (((rd_T70 l0 x17_2).f0) != 1) = true := bne_iff_ne.mpr c18
               (first | rw [c18b0] | (simp only [i64_w, i32_w]; rw [c18b0]) | skip)
               by_cases c19 : ((rd_T70 l0 x17_2).f0) = 2
               ·rw [if_pos c19] at H
                have c19b0 : (((rd_T70 l0 x17_2).f0) == 2) = true := beq_iff_eq.mpr c19
                have c19b1 : (((rd_T70 l0 x17_2).f0) != 2) = false := bne_eq_false_iff_eq.mpr c19
                clear c19
                have H' := Aside0.mk H
                clear H
                go_wp2
                go_meet
                case rel => exact ⟨_, ((((rd_T70 l0 x17_2).f0) == 2)), es_, H', ⟨by have := HJ1.out; have := HK2.out; have := HJ7.out; first | omega | exact Nat.le_refl _⟩, ⟨bk_ BK102.out⟩, ⟨hb_⟩⟩
               ·rw [if_neg c19] at H
                have c19b0 : (((rd_T70 l0 x17_2).f0) == 2) = false := beq_eq_false_iff_ne.mpr c19
                have c19b1 : (((rd_T70 l0 x17_2).f0) != 2) = true := bne_iff_ne.mpr c19
                have H' := Aside0.mk H
                clear H
                go_wp2
                go_meet
                case rel => exact ⟨_, ((((rd_T70 l0 x17_2).f0) == 4)), es_, H', ⟨by have := HJ1.out; have := HK2.out; have := HJ7.out; first | omega | exact Nat.le_refl _⟩, ⟨bk_ BK102.out⟩, ⟨hb_⟩⟩
             case rest =>
              clear HC16
              try clear c1
              try clear p1
              try clear q1
              try clear hx1
              try clear p2
              try clear c3
              try clear c3b0
              try clear c3b1
              try clear c4
              try clear c5
              try clear c5b0
              try clear c6
              try clear c6b0
              try clear c7
              try clear c7b0
              try clear p10
              try clear q10
              try clear hx10
              try clear c11
              try clear c11b0
              try clear c11b1
              try clear c12
              try clear c12b0
              try clear c13
              try clear c15
              try clear c18
              try clear c18b0
              try clear c18b1
              try clear c19
              try clear c19b0
              try clear c19b1
              try clear hcz10_0
              try clear hcz10_1
              try clear hcz10_2
              try clear hcz13_0
              try clear hcz13_1
              try clear hcz13_2
              try clear hcz14_0
              try clear hcz14_1
              try clear hcz14_2
              try clear hcz17_0
              try clear hcz17_1
              try clear hcz17_2
              try clear hfz10_0
              try clear hfz10_1
              try clear hfz10_2
              try clear hfz13_0
              try clear hfz13_1
              try clear hfz13_2
              try clear hfz14_0
              try clear hfz14_1
              try clear hfz14_2
              try clear hfz17_0
              try clear hfz17_1
              try clear hfz17_2
              try clear hx101_0
              try clear hx101_1
              try clear hx101_2
              try clear p1
              try clear p10
              try clear p101
              try clear p2
              try clear q1
              try clear q10
              try clear q101
              obtain ⟨kq, x37_15, rfl, HA, HJ15, BK102, HB⟩ := hcut
              cases kq with
              | zero => exact absurd HA.out (by simp [spec_GoodTree.j3])
              | succ kj15 =>
               have H := HA.out
               clear HA
               simp only [spec_GoodTree.j3] at H
               by_cases c20 : x37_15 = true
               ·subst c20
                rw [if_pos rfl] at H
                by_cases c21 : ((rd_T70 l0 x17_2).f1) ≥ 1
                ·rw [if_pos c21] at H
                 have c21b0 : decide (1 ≤ ((rd_T70 l0 x17_2).f1)) = true := decide_eq_true c21
                 clear c21
                 by_cases c22 : ((rd_T70 l0 x17_2).f2) = 0
                 ·rw [if_pos c22] at H
                  have c22b0 : (((rd_T70 l0 x17_2).f2) == 0) = true := beq_iff_eq.mpr c22
                  have c22b1 : (((rd_T70 l0 x17_2).f2) != 0) = false := bne_eq_false_iff_eq.mpr c22
                  clear c22
                  have H' := Aside0.mk H
                  clear H
                  have hcz23_0 : wc.cell? ⟨gb102, 0, none⟩ = some (.int .i64 ((rd_T70 l0 x17_2).f0)) := (blk_cell BK102.out 0).trans rfl
                  have hcz23_1 : wc.cell? ⟨gb102, 1, none⟩ = some (.int .i64 ((rd_T70 l0 x17_2).f1)) := (blk_cell BK102.out 1).trans rfl
                  have hcz23_2 : wc.cell? ⟨gb102, 2, none⟩ = some (.int .i64 ((rd_T70 l0 x17_2).f2)) := (blk_cell BK102.out 2).trans rfl
                  have hfz23_0 := blk_frozen BK102.out 0
                  have hfz23_1 := blk_frozen BK102.out 1
                  have hfz23_2 := blk_frozen BK102.out 2
                  go_wp2
                  go_roundg kj15
                  case measure => have := HJ1.out; have := HK2.out; have := HJ7.out; have := HJ15.out; omega
                  case rel => exact ⟨(wrap64 (x3_2 + (wrap64 (((rd_T70 l0 x17_2).f1) - 1)))), (wrap64 (x17_2 + 1)), es_, es_, H', ⟨by have := HJ1.out; have := HK2.out; have := HJ7.out; have := HJ15.out; omega⟩, ⟨hb_⟩⟩
                 ·rw [if_neg c22] at H
                  have c22b0 : (((rd_T70 l0 x17_2).f2) == 0) = false := beq_eq_false_iff_ne.mpr c22
                  have c22b1 : (((rd_T70 l0 x17_2).f2) != 0) = true := bne_iff_ne.mpr c22
                  obtain rfl := Option.some.inj H
                  have hcz24_0 : wc.cell? ⟨gb102, 0, none⟩ = some (.int .i64 ((rd_T70 l0 x17_2).f0)) := (blk_cell BK102.out 0).trans rfl
                  have hcz24_1 : wc.cell? ⟨gb102, 1, none⟩ = some (.int .i64 ((rd_T70 l0 x17_2).f1)) := (blk_cell BK102.out 1).trans rfl
                  have hcz24_2 : wc.cell? ⟨gb102, 2, none⟩ = some (.int .i64 ((rd_T70 l0 x17_2).f2)) := (blk_cell BK102.out 2).trans rfl
                  have hfz24_0 := blk_frozen BK102.out 0
                  have hfz24_1 := blk_frozen BK102.out 1
                  have hfz24_2 := blk_frozen BK102.out 2
                  go_wp2
                  go_ret
                  exact ⟨er_, hb_⟩
                ·rw [if_neg c21] at H
                 have c21b0 : decide (1 ≤ ((rd_T70 l0 x17_2).f1)) = false := decide_eq_false c21
                 clear c21
                 obtain rfl := Option.some.inj H
                 have hcz25_0 : wc.cell? ⟨gb102, 0, none⟩ = some (.int .i64 ((rd_T70 l0 x17_2).f0)) := (blk_cell BK102.out 0).trans rfl
                 have hcz25_1 : wc.cell? ⟨gb102, 1, none⟩ = some (.int .i64 ((rd_T70 l0 x17_2).f1)) := (blk_cell BK102.out 1).trans rfl
                 have hcz25_2 : wc.cell? ⟨gb102, 2, none⟩ = some (.int .i64 ((rd_T70 l0 x17_2).f2)) := (blk_cell BK102.out 2).trans rfl
                 have hfz25_0 := blk_frozen BK102.out 0
                 have hfz25_1 := blk_frozen BK102.out 1
                 have hfz25_2 := blk_frozen BK102.out 2
                 go_wp2
                 go_ret
                 exact ⟨er_, hb_⟩
               ·replace c20 := Bool.eq_false_iff.mpr c20
                subst c20
                rw [if_neg (show ¬ (false = true) by decide)] at H
                by_cases c26 : ((rd_T70 l0 x17_2).f0) = 3
                ·rw [if_pos c26] at H
                 have c26b0 : (((rd_T70 l0 x17_2).f0) == 3) = true := beq_iff_eq.mpr c26
                 have c26b1 : (((rd_T70 l0 x17_2).f0) != 3) = false := bne_eq_false_iff_eq.mpr c26
                 clear c26
                 by_cases c27 : ((rd_T70 l0 x17_2).f1) = 1
                 ·rw [if_pos c27] at H
                  have c27b0 : (((rd_T70 l0 x17_2).f1) == 1) = true := beq_iff_eq.mpr c27
                  have c27b1 : (((rd_T70 l0 x17_2).f1) != 1) = false := bne_eq_false_iff_eq.mpr c27
                  clear c27
                  by_cases c28 : ((rd_T70 l0 x17_2).f2) = 0
                  ·rw [if_pos c28] at H
                   have c28b0 : (((rd_T70 l0 x17_2).f2) == 0) = true := beq_iff_eq.mpr c28
                   have c28b1 : (((rd_T70 l0 x17_2).f2) != 0) = false := bne_eq_false_iff_eq.mpr c28
                   clear c28
                   have H' := Aside0.mk H
                   clear H
                   have hcz29_0 : wc.cell? ⟨gb102, 0, none⟩ = some (.int .i64 ((rd_T70 l0 x17_2).f0)) := (blk_cell BK102.out 0).trans rfl
                   have hcz29_1 : wc.cell? ⟨gb102, 1, none⟩ = some (.int .i64 ((rd_T70 l0 x17_2).f1)) := (blk_cell BK102.out 1).trans rfl
                   have hcz29_2 : wc.cell? ⟨gb102, 2, none⟩ = some (.int .i64 ((rd_T70 l0 x17_2).f2)) := (blk_cell BK102.out 2).trans rfl
                   have hfz29_0 := blk_frozen BK102.out 0
                   have hfz29_1 := blk_frozen BK102.out 1
                   have hfz29_2 := blk_frozen BK102.out 2
                   go_wp2
                   go_roundg kj15
                   case measure => have := HJ1.out; have := HK2.out; have := HJ7.out; have := HJ15.out; omega
                   case rel => exact ⟨(wrap64 (x3_2 + (wrap64 (((rd_T70 l0 x17_2).f1) - 1)))), (wrap64 (x17_2 + 1)), es_, es_, H', ⟨by have := HJ1.out; have := HK2.out; have := HJ7.out; have := HJ15.out; omega⟩, ⟨hb_⟩⟩
                  ·rw [if_neg c28] at H
                   have c28b0 : (((rd_T70 l0 x17_2).f2) == 0) = false := beq_eq_false_iff_ne.mpr c28
                   have c28b1 : (((rd_T70 l0 x17_2).f2) != 0) = true := bne_iff_ne.mpr c28
                   obtain rfl := Option.some.inj H
                   have hcz30_0 : wc.cell? ⟨gb102, 0, none⟩ = some (.int .i64 ((rd_T70 l0 x17_2).f0)) := (blk_cell BK102.out 0).trans rfl
                   have hcz30_1 : wc.cell? ⟨gb102, 1, none⟩ = some (.int .i64 ((rd_T70 l0 x17_2).f1)) := (blk_cell BK102.out 1).trans rfl
                   have hcz30_2 : wc.cell? ⟨gb102, 2, none⟩ = some (.int .i64 ((rd_T70 l0 x17_2).f2)) := (blk_cell BK102.out 2).trans rfl
                   have hfz30_0 := blk_frozen BK102.out 0
                   have hfz30_1 := blk_frozen BK102.out 1
                   have hfz30_2 := blk_frozen BK102.out 2
                   go_wp2
                   go_ret
                   exact ⟨er_, hb_⟩
                 ·rw [if_neg c27] at H
                  have c27b0 : (((rd_T70 l0 x17_2).f1) == 1) = false := beq_eq_false_iff_ne.mpr c27
                  have c27b1 : (((rd_T70 l0 x17_2).f1) != 1) = true := bne_iff_ne.mpr c27
                  obtain rfl := Option.some.inj H
                  have hcz31_0 : wc.cell? ⟨gb102, 0, none⟩ = some (.int .i64 ((rd_T70 l0 x17_2).f0)) := (blk_cell BK102.out 0).trans rfl
                  have hcz31_1 : wc.cell? ⟨gb102, 1, none⟩ = some (.int .i64 ((rd_T70 l0 x17_2).f1)) := (blk_cell BK102.out 1).trans rfl
                  have hcz31_2 : wc.cell? ⟨gb102, 2, none⟩ = some (.int .i64 ((rd_T70 l0 x17_2).f2)) := (blk_cell BK102.out 2).trans rfl
                  have hfz31_0 := blk_frozen BK102.out 0
                  have hfz31_1 := blk_frozen BK102.out 1
                  have hfz31_2 := blk_frozen BK102.out 2
                  go_wp2
                  go_ret
                  exact ⟨er_, hb_⟩
                ·rw [if_neg c26] at H
                 have c26b0 : (((rd_T70 l0 x17_2).f0) == 3) = false := beq_eq_false_iff_ne.mpr c26
                 have c26b1 : (((rd_T70 l0 x17_2).f0) != 3) = true := bne_iff_ne.mpr c26
                 by_cases c32 : ((rd_T70 l0 x17_2).f0) = 5
                 ·rw [if_pos c32] at H
                  have c32b0 : (((rd_T70 l0 x17_2).f0) == 5) = true := beq_iff_eq.mpr c32
                  have c32b1 : (((rd_T70 l0 x17_2).f0) != 5) = false := bne_eq_false_iff_eq.mpr c32
                  clear c32
                  by_cases c33 : ((rd_T70 l0 x17_2).f1) = 0
                  ·rw [if_pos c33] at H
                   have c33b0 : (((rd_T70 l0 x17_2).f1) == 0) = true := beq_iff_eq.mpr c33
                   have c33b1 : (((rd_T70 l0 x17_2).f1) != 0) = false := bne_eq_false_iff_eq.mpr c33
                   clear c33
                   by_cases c34 : ((rd_T70 l0 x17_2).f2) ≥ 0
                   ·rw [if_pos c34] at H
                    have c34b0 : decide (0 ≤ ((rd_T70 l0 x17_2).f2)) = true := decide_eq_true c34
                    clear c34
                    by_cases c35 : ((rd_T70 l0 x17_2).f2) ≤ 9
                    ·rw [if_pos c35] at H
                     have c35b0 : decide (((rd_T70 l0 x17_2).f2) ≤ 9) = true := decide_eq_true c35
                     clear c35
                     have H' := Aside0.mk H
                     clear H
                     have hcz36_0 : wc.cell? ⟨gb102, 0, none⟩ = some (.int .i64 ((rd_T70 l0 x17_2).f0)) := (blk_cell BK102.out 0).trans rfl
                     have hcz36_1 : wc.cell? ⟨gb102, 1, none⟩ = some (.int .i64 ((rd_T70 l0 x17_2).f1)) := (blk_cell BK102.out 1).trans rfl
                     have hcz36_2 : wc.cell? ⟨gb102, 2, none⟩ = some (.int .i64 ((rd_T70 l0 x17_2).f2)) := (blk_cell BK102.out 2).trans rfl
                     have hfz36_0 := blk_frozen BK102.out 0
                     have hfz36_1 := blk_frozen BK102.out 1
                     have hfz36_2 := blk_frozen BK102.out 2
                     go_wp2
                     go_roundg kj15
                     case measure => have := HJ1.out; have := HK2.out; have := HJ7.out; have := HJ15.out; omega
                     case rel => exact ⟨(wrap64 (x3_2 + (wrap64 (((rd_T70 l0 x17_2).f1) - 1)))), (wrap64 (x17_2 + 1)), es_, es_, H', ⟨by have := HJ1.out; have := HK2.out; have := HJ7.out; have := HJ15.out; omega⟩, ⟨hb_⟩⟩
                    ·rw [if_neg c35] at H
                     have c35b0 : decide (((rd_T70 l0 x17_2).f2) ≤ 9) = false := decide_eq_false c35
                     clear c35
                     obtain rfl := Option.some.inj H
                     have hcz37_0 : wc.cell? ⟨gb102, 0, none⟩ = some (.int .i64 ((rd_T70 l0 x17_2).f0)) := (blk_cell BK102.out 0).trans rfl
                     have hcz37_1 : wc.cell? ⟨gb102, 1, none⟩ = some (.int .i64 ((rd_T70 l0 x17_2).f1)) := (blk_cell BK102.out 1).trans rfl
                     have hcz37_2 : wc.cell? ⟨gb102, 2, none⟩ = some (.int .i64 ((rd_T70 l0 x17_2).f2)) := (blk_cell BK102.out 2).trans rfl
                     have hfz37_0 := blk_frozen BK102.out 0
                     have hfz37_1 := blk_frozen BK102.out 1
                     have hfz37_2 := blk_frozen BK102.out 2
                     go_wp2
                     go_ret
                     exact ⟨er_, hb_⟩
                   ·rw [if_neg c34] at H
                    have c34b0 : decide (0 ≤ ((rd_T70 l0 x17_2).f2)) = false := decide_eq_false c34
                    clear c34
                    obtain rfl := Option.some.inj H
                    have hcz38_0 : wc.cell? ⟨gb102, 0, none⟩ = some (.int .i64 ((rd_T70 l0 x17_2).f0)) := (blk_cell BK102.out 0).trans rfl
                    have hcz38_1 : wc.cell? ⟨gb102, 1, none⟩ = some (.int .i64 ((rd_T70 l0 x17_2).f1)) := (blk_cell BK102.out 1).trans rfl
                    have hcz38_2 : wc.cell? ⟨gb102, 2, none⟩ = some (.int .i64 ((rd_T70 l0 x17_2).f2)) := (blk_cell BK102.out 2).trans rfl
                    have hfz38_0 := blk_frozen BK102.out 0
                    have hfz38_1 := blk_frozen BK102.out 1
                    have hfz38_2 := blk_frozen BK102.out 2
                    go_wp2
                    go_ret
                    exact ⟨er_, hb_⟩
                  ·rw [if_neg c33] at H
                   have c33b0 : (((rd_T70 l0 x17_2).f1) == 0) = false := beq_eq_false_iff_ne.mpr c33
                   have c33b1 : (((rd_T70 l0 x17_2).f1) != 0) = true := bne_iff_ne.mpr c33
                   obtain rfl := Option.some.inj H
                   have hcz39_0 : wc.cell? ⟨gb102, 0, none⟩ = some (.int .i64 ((rd_T70 l0 x17_2).f0)) := (blk_cell BK102.out 0).trans rfl
                   have hcz39_1 : wc.cell? ⟨gb102, 1, none⟩ = some (.int .i64 ((rd_T70 l0 x17_2).f1)) := (blk_cell BK102.out 1).trans rfl
                   have hcz39_2 : wc.cell? ⟨gb102, 2, none⟩ = some (.int .i64 ((rd_T70 l0 x17_2).f2)) := (blk_cell BK102.out 2).trans rfl
                   have hfz39_0 := blk_frozen BK102.out 0
                   have hfz39_1 := blk_frozen BK102.out 1
                   have hfz39_2 := blk_frozen BK102.out 2
                   go_wp2
                   go_ret
                   exact ⟨er_, hb_⟩
                 ·rw [if_neg c32] at H
                  have c32b0 : (((rd_T70 l0 x17_2).f0) == 5) = false := beq_eq_false_iff_ne.mpr c32
                  have c32b1 : (((rd_T70 l0 x17_2).f0) != 5) = true := bne_iff_ne.mpr c32
                  rw [if_neg (show ¬ (false = true) by decide)] at H
                  obtain rfl := Option.some.inj H
                  go_wp2
                  go_ret
                  exact ⟨er_, hb_⟩
         ·rw [if_neg c7] at H
          exact absurd H (by simp)
        ·rw [if_neg c6] at H
         exact absurd H (by simp)
       ·rw [if_neg c5] at H
        have c5b0 : decide (x17_2 < (l0.length : Int)) = false := decide_eq_false c5
        clear c5
        obtain rfl := Option.some.inj H
        go_wp2
        go_ret
        exact ⟨er_, hb_⟩

end Go.Proofs.Ytkhkgfihodljmaa.Pr
