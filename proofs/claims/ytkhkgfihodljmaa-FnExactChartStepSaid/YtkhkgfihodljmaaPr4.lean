-- Written by this session's own print (wip/tools/mkmp.py) out of the translation. Lean checks it.
import Derived.Test.YtkhkgfihodljmaaPr0
import Derived.Test.YtkhkgfihodljmaaPr3
import Derived.Test.YtkhkgfihodljmaaPrd1
namespace Go.Proofs.Ytkhkgfihodljmaa.Pr
open Go.RowKit Go.Proofs.YtkhkgfihodljmaaW.PrintWords Go.Proofs.YtkhkgfihodljmaaW.PrintLast Go.Proofs.YtkhkgfihodljmaaW.PrintMore
attribute [local go_sem] max2_int min2_int max_two min_two max_three min_three max_four min_four   -- for this text's walks alone
set_option linter.unusedVariables false
set_option linter.unusedSimpArgs false

set_option maxHeartbeats 8000000 in
set_option maxRecDepth 100000 in
theorem impl_GoodTree.calls (k : Nat) (A0 : Option Addr) (c0 : Nat) (l0 : List (S70)) (r : Bool) (w : World) (hr0 : Kd.C k70 w A0 l0.length l0) (hc0 : l0.length ≤ c0) (h : impl_GoodTree.f k l0 = some r) :
   Calls Try.prog 15 #[.slice A0 l0.length c0] w fun e w' => e = .returned (.bool r) ∧ Below w.heap.size w w' := by
  have hu70 := Try.underlying70
  have HR0 := Aside0.mk hr0
  have HC0 := Aside0.mk hc0
  clear hr0 hc0
  have HB := Aside0.mk (Below.refl w.heap.size w)
  have H : (if (l0.length : Int) < 1 then (impl_GoodTree.j0 k l0 true) else (impl_GoodTree.j0 k l0 (decide ((l0.length : Int) > 24)))) = some r := h
  clear h
  have HC2 := Aside0.mk H
  clear H
  go_enter Try.func15, Try.ntmps15
  go_upto_region 1 with (fail)
  go_cut [13] (fun v13 wc => ∃ (kq : Nat) (x13_1 : Bool), v13 = .bool x13_1 ∧ Aside0 (impl_GoodTree.j0 kq l0 x13_1 = some r) ∧ Aside0 (kq ≤ k) ∧ Aside0 (Below w.heap.size w wc))
  case first =>
   have H := HC2.out
   clear HC2
   by_cases c3 : (l0.length : Int) < 1
   ·rw [if_pos c3] at H
    have c3b0 : decide ((l0.length : Int) < 1) = true := decide_eq_true c3
    have c3b1 : decide (l0.length < 1) = true := decide_eq_true (by omega)
    clear c3
    (first | rw [c3b0] | (simp only [i64_w, i32_w]; rw [c3b0]) | skip)
    have H' := Aside0.mk H
    clear H
    go_wp2
    go_meet
    case rel => exact ⟨_, (true), es_, H', ⟨by first | omega | exact Nat.le_refl _⟩, ⟨hb_⟩⟩
   ·rw [if_neg c3] at H
    have c3b0 : decide ((l0.length : Int) < 1) = false := decide_eq_false c3
    have c3b1 : decide (l0.length < 1) = false := decide_eq_false (by omega)
    clear c3
    (first | rw [c3b0] | (simp only [i64_w, i32_w]; rw [c3b0]) | skip)
    have H' := Aside0.mk H
    clear H
    go_wp2
    go_meet
    case rel => exact ⟨_, (decide ((l0.length : Int) > 24)), es_, H', ⟨by first | omega | exact Nat.le_refl _⟩, ⟨hb_⟩⟩
  case rest =>
   clear HC2
   try clear c1
   try clear p2
   try clear c3
   try clear c3b0
   try clear c3b1
   obtain ⟨kq, x13_1, rfl, HA, HJ1, HB⟩ := hcut
   cases kq with
   | zero => exact absurd HA.out (by simp [impl_GoodTree.j0])
   | succ kj1 =>
    have H := HA.out
    clear HA
    simp only [impl_GoodTree.j0] at H
    by_cases c4 : x13_1 = true
    ·subst c4
     rw [if_pos rfl] at H
     obtain rfl := Option.some.inj H
     go_wp2
     go_ret
     exact ⟨er_, hb_⟩
    ·replace c4 := Bool.eq_false_iff.mpr c4
     subst c4
     rw [if_neg (show ¬ (false = true) by decide)] at H
     have H' := Aside0.mk H
     clear H
     go_wp2
     go_loopg [3, 16] kj1 (fun kq v3 v16 w' => ∃ (x3_2 : Int) (x16_2 : Int), v3 = .int .i64 x3_2 ∧ v16 = .int .i64 x16_2 ∧ Aside0 (impl_GoodTree.l0 kq x3_2 l0 (l0.length : Int) x16_2 = some r) ∧ Aside0 (kq ≤ kj1) ∧ Aside0 (Below w.heap.size w w'))
     case atStart => exact ⟨(1), (0), es_, es_, H', ⟨Nat.le_refl _⟩, ⟨hb_⟩⟩
     case round =>
      clear H'
      try clear c1
      try clear p2
      try clear c3
      try clear c3b0
      try clear c3b1
      try clear c4
      try clear p2
      obtain ⟨x3_2, x16_2, rfl, rfl, HA, HK2, HB⟩ := hrel
      cases gk with
      | zero => exact absurd HA.out (by simp [impl_GoodTree.l0])
      | succ k2 =>
       have H := HA.out
       clear HA
       simp only [impl_GoodTree.l0] at H
       by_cases c5 : x16_2 < (l0.length : Int)
       ·rw [if_pos c5] at H
        have c5b0 : decide (x16_2 < (l0.length : Int)) = true := decide_eq_true c5
        clear c5
        by_cases c6 : 0 ≤ x16_2
        ·rw [if_pos c6] at H
         have c6b0 : decide (0 ≤ x16_2) = true := decide_eq_true c6
         clear c6
         by_cases c7 : x16_2 < (l0.length : Int)
         ·rw [if_pos c7] at H
          have c7b0 : decide (x16_2 < (l0.length : Int)) = true := decide_eq_true c7
          clear c7
          have HC8 := Aside0.mk H
          clear H
          have p114 : 0 ≤ (x16_2 : Int) := of_decide_eq_true as_
          have q114 : x16_2 < (l0.length : Int) := of_decide_eq_true as_
          obtain ⟨ad114, e114, hx114_0, hx114_1, hx114_2⟩ := at_T70 HR0.out x16_2 p114 q114
          cases e114
          replace hx114_0 := hc_ HB hx114_0
          replace hx114_1 := hc_ HB hx114_1
          replace hx114_2 := hc_ HB hx114_2
          replace p114 := eq_true p114
          replace q114 := eq_true q114
          go_upto_region 7 with (first | ((with_reducible refine gate_dst (N := 5) rfl ?_); (try (refine gate_guard (by rfl) ?_; dsimp only)); refine box_event ?hg (N := 5) ?hd (cs := #[.int .i64 0, .int .i64 0, .int .i64 0]) (t := 70) ?hr ?_; (case hd => rfl); (case hg => rfl); (case hr => first | (go_simp; done) | (go_simp; rfl)); intro gb115 hg w9 hbox hb; have n0_ := Aside0.mk (below_step hb_ hb); have n1_ := Aside0.mk (hbox); have n2_ : Aside0 (w.heap.size ≤ gb115) := gz_; have n3_ : Aside0 (w.heap.size ≤ gb115) := gz_; clear HB; have HB := n0_; have BK115 := n1_; have GW115 := n2_; have GE115 := n3_; clear n0_ n1_ n2_ n3_; clear hb hbox hg; have hcz10_0 : w9.cell? ⟨gb115, 0, none⟩ = some (.int .i64 0) := (blk_cell BK115.out 0).trans rfl; have hcz10_1 : w9.cell? ⟨gb115, 1, none⟩ = some (.int .i64 0) := (blk_cell BK115.out 1).trans rfl; have hcz10_2 : w9.cell? ⟨gb115, 2, none⟩ = some (.int .i64 0) := (blk_cell BK115.out 2).trans rfl; have hfz10_0 := blk_frozen BK115.out 0; have hfz10_1 := blk_frozen BK115.out 1; have hfz10_2 := blk_frozen BK115.out 2))
          (try simp only [Act.put, List.setIfInBounds_toArray, List.set_cons_zero, List.set_cons_succ])
          go_cut [47] (fun v47 wc => ∃ (kq : Nat) (x47_7 : Bool), v47 = .bool x47_7 ∧ Aside0 (impl_GoodTree.j2 kq x3_2 l0 (l0.length : Int) x16_2 x47_7 ((rd_T70 l0 x16_2).f0) ((rd_T70 l0 x16_2).f1) ((rd_T70 l0 x16_2).f2) = some r) ∧ Aside0 (kq ≤ k2) ∧ Aside0 (wc.heap[gb115]? = some (.cells #[.int .i64 ((rd_T70 l0 x16_2).f0), .int .i64 ((rd_T70 l0 x16_2).f1), .int .i64 ((rd_T70 l0 x16_2).f2)] 70 (0, 0))) ∧ Aside0 (Below w.heap.size w wc))
          case first =>
           have H := HC8.out
           clear HC8
           by_cases c11 : x3_2 = 0
           ·rw [if_pos c11] at H
            have c11b0 : (x3_2 == 0) = true := beq_iff_eq.mpr c11
            have c11b1 : (x3_2 != 0) = false := bne_eq_false_iff_eq.mpr c11
            clear c11
            (first | rw [c11b0] | (simp only [i64_w, i32_w]; rw [c11b0]) | skip)
            have H' := Aside0.mk H
            clear H
            go_wp2
            go_meet
            case rel => exact ⟨_, (true), es_, H', ⟨by have := HJ1.out; have := HK2.out; first | omega | exact Nat.le_refl _⟩, ⟨by (with_reducible repeat (first | refine blk_drewN ?_ _ | refine blk_drew ?_ | refine blk_alloc ?_ _)); refine blk_put (cs := #[.int .i64 ((rd_T70 l0 x16_2).f0), .int .i64 ((rd_T70 l0 x16_2).f1), .int .i64 0]) ?_ 2 _ rfl; (with_reducible repeat (first | refine blk_drewN ?_ _ | refine blk_drew ?_ | refine blk_alloc ?_ _)); refine blk_put (cs := #[.int .i64 ((rd_T70 l0 x16_2).f0), .int .i64 0, .int .i64 0]) ?_ 1 _ rfl; (with_reducible repeat (first | refine blk_drewN ?_ _ | refine blk_drew ?_ | refine blk_alloc ?_ _)); refine blk_put (cs := #[.int .i64 0, .int .i64 0, .int .i64 0]) ?_ 0 _ rfl; (with_reducible repeat (first | refine blk_drewN ?_ _ | refine blk_drew ?_ | refine blk_alloc ?_ _)); exact BK115.out⟩, ⟨hb_⟩⟩
           ·rw [if_neg c11] at H
            have c11b0 : (x3_2 == 0) = false := beq_eq_false_iff_ne.mpr c11
            have c11b1 : (x3_2 != 0) = true := bne_iff_ne.mpr c11
            (first | rw [c11b0] | (simp only [i64_w, i32_w]; rw [c11b0]) | skip)
            by_cases c12 : ((rd_T70 l0 x16_2).f1) < 0
            ·rw [if_pos c12] at H
             have c12b0 : decide (((rd_T70 l0 x16_2).f1) < 0) = true := decide_eq_true c12
             clear c12
             have H' := Aside0.mk H
             clear H
             have hcz13_0 : w9.cell? ⟨gb115, 0, none⟩ = some (.int .i64 0) := (blk_cell BK115.out 0).trans rfl
             have hcz13_1 : w9.cell? ⟨gb115, 1, none⟩ = some (.int .i64 0) := (blk_cell BK115.out 1).trans rfl
             have hcz13_2 : w9.cell? ⟨gb115, 2, none⟩ = some (.int .i64 0) := (blk_cell BK115.out 2).trans rfl
             have hfz13_0 := blk_frozen BK115.out 0
             have hfz13_1 := blk_frozen BK115.out 1
             have hfz13_2 := blk_frozen BK115.out 2
             go_wp2
             go_meet
             case rel => exact ⟨_, (true), es_, H', ⟨by have := HJ1.out; have := HK2.out; first | omega | exact Nat.le_refl _⟩, ⟨by (with_reducible repeat (first | refine blk_drewN ?_ _ | refine blk_drew ?_ | refine blk_alloc ?_ _)); refine blk_put (cs := #[.int .i64 ((rd_T70 l0 x16_2).f0), .int .i64 ((rd_T70 l0 x16_2).f1), .int .i64 0]) ?_ 2 _ rfl; (with_reducible repeat (first | refine blk_drewN ?_ _ | refine blk_drew ?_ | refine blk_alloc ?_ _)); refine blk_put (cs := #[.int .i64 ((rd_T70 l0 x16_2).f0), .int .i64 0, .int .i64 0]) ?_ 1 _ rfl; (with_reducible repeat (first | refine blk_drewN ?_ _ | refine blk_drew ?_ | refine blk_alloc ?_ _)); refine blk_put (cs := #[.int .i64 0, .int .i64 0, .int .i64 0]) ?_ 0 _ rfl; (with_reducible repeat (first | refine blk_drewN ?_ _ | refine blk_drew ?_ | refine blk_alloc ?_ _)); exact BK115.out⟩, ⟨hb_⟩⟩
            ·rw [if_neg c12] at H
             have c12b0 : decide (((rd_T70 l0 x16_2).f1) < 0) = false := decide_eq_false c12
             clear c12
             by_cases c14 : ((rd_T70 l0 x16_2).f1) > 24
             ·rw [if_pos c14] at H
              have c14b0 : decide (24 < ((rd_T70 l0 x16_2).f1)) = true := decide_eq_true c14
              clear c14
              have H' := Aside0.mk H
              clear H
              have hcz15_0 : w9.cell? ⟨gb115, 0, none⟩ = some (.int .i64 0) := (blk_cell BK115.out 0).trans rfl
              have hcz15_1 : w9.cell? ⟨gb115, 1, none⟩ = some (.int .i64 0) := (blk_cell BK115.out 1).trans rfl
              have hcz15_2 : w9.cell? ⟨gb115, 2, none⟩ = some (.int .i64 0) := (blk_cell BK115.out 2).trans rfl
              have hfz15_0 := blk_frozen BK115.out 0
              have hfz15_1 := blk_frozen BK115.out 1
              have hfz15_2 := blk_frozen BK115.out 2
              go_wp2
              go_meet
              case rel => exact ⟨_, (true), es_, H', ⟨by have := HJ1.out; have := HK2.out; first | omega | exact Nat.le_refl _⟩, ⟨by (with_reducible repeat (first | refine blk_drewN ?_ _ | refine blk_drew ?_ | refine blk_alloc ?_ _)); refine blk_put (cs := #[.int .i64 ((rd_T70 l0 x16_2).f0), .int .i64 ((rd_T70 l0 x16_2).f1), .int .i64 0]) ?_ 2 _ rfl; (with_reducible repeat (first | refine blk_drewN ?_ _ | refine blk_drew ?_ | refine blk_alloc ?_ _)); refine blk_put (cs := #[.int .i64 ((rd_T70 l0 x16_2).f0), .int .i64 0, .int .i64 0]) ?_ 1 _ rfl; (with_reducible repeat (first | refine blk_drewN ?_ _ | refine blk_drew ?_ | refine blk_alloc ?_ _)); refine blk_put (cs := #[.int .i64 0, .int .i64 0, .int .i64 0]) ?_ 0 _ rfl; (with_reducible repeat (first | refine blk_drewN ?_ _ | refine blk_drew ?_ | refine blk_alloc ?_ _)); exact BK115.out⟩, ⟨hb_⟩⟩
             ·rw [if_neg c14] at H
              have c14b0 : decide (24 < ((rd_T70 l0 x16_2).f1)) = false := decide_eq_false c14
              clear c14
              by_cases c16 : ((rd_T70 l0 x16_2).f2) = 0
              ·rw [if_pos c16] at H
               have c16b0 : (((rd_T70 l0 x16_2).f2) == 0) = true := beq_iff_eq.mpr c16
               have c16b1 : (((rd_T70 l0 x16_2).f2) != 0) = false := bne_eq_false_iff_eq.mpr c16
               clear c16
               replace H := Option.bind_eq_some_iff.mp H
               obtain ⟨t116, A170, H⟩ := H
               replace H : (impl_GoodTree.j2 k2 x3_2 l0 (l0.length : Int) x16_2 (!t116) ((rd_T70 l0 x16_2).f0) ((rd_T70 l0 x16_2).f1) ((rd_T70 l0 x16_2).f2)) = some r := H
               have A17 := Aside0.mk A170
               clear A170
               have H' := Aside0.mk H
               clear H
               have hcz18_0 : w9.cell? ⟨gb115, 0, none⟩ = some (.int .i64 0) := (blk_cell BK115.out 0).trans rfl
               have hcz18_1 : w9.cell? ⟨gb115, 1, none⟩ = some (.int .i64 0) := (blk_cell BK115.out 1).trans rfl
               have hcz18_2 : w9.cell? ⟨gb115, 2, none⟩ = some (.int .i64 0) := (blk_cell BK115.out 2).trans rfl
               have hfz18_0 := blk_frozen BK115.out 0
               have hfz18_1 := blk_frozen BK115.out 1
               have hfz18_2 := blk_frozen BK115.out 2
               go_wp2_with (first | (go_at_call 49; (with_reducible refine (impl_between.calls ((rd_T70 l0 x16_2).f2) 0 9 t116 _ A17.out).mono ?_); rintro e w' ⟨rfl, ⟨nd, rfl⟩⟩))
               go_meet
               case rel => exact ⟨_, (!t116), es_, H', ⟨by have := HJ1.out; have := HK2.out; first | omega | exact Nat.le_refl _⟩, ⟨by (with_reducible repeat (first | refine blk_drewN ?_ _ | refine blk_drew ?_ | refine blk_alloc ?_ _)); refine blk_put (cs := #[.int .i64 ((rd_T70 l0 x16_2).f0), .int .i64 ((rd_T70 l0 x16_2).f1), .int .i64 0]) ?_ 2 _ rfl; (with_reducible repeat (first | refine blk_drewN ?_ _ | refine blk_drew ?_ | refine blk_alloc ?_ _)); refine blk_put (cs := #[.int .i64 ((rd_T70 l0 x16_2).f0), .int .i64 0, .int .i64 0]) ?_ 1 _ rfl; (with_reducible repeat (first | refine blk_drewN ?_ _ | refine blk_drew ?_ | refine blk_alloc ?_ _)); refine blk_put (cs := #[.int .i64 0, .int .i64 0, .int .i64 0]) ?_ 0 _ rfl; (with_reducible repeat (first | refine blk_drewN ?_ _ | refine blk_drew ?_ | refine blk_alloc ?_ _)); exact BK115.out⟩, ⟨hb_⟩⟩
              ·rw [if_neg c16] at H
               have c16b0 : (((rd_T70 l0 x16_2).f2) == 0) = false := beq_eq_false_iff_ne.mpr c16
               have c16b1 : (((rd_T70 l0 x16_2).f2) != 0) = true := bne_iff_ne.mpr c16
               by_cases c19 : ((rd_T70 l0 x16_2).f0) = 5
               ·rw [if_pos c19] at H
                have c19b0 : (((rd_T70 l0 x16_2).f0) == 5) = true := beq_iff_eq.mpr c19
                have c19b1 : (((rd_T70 l0 x16_2).f0) != 5) = false := bne_eq_false_iff_eq.mpr c19
                clear c19
                replace H := Option.bind_eq_some_iff.mp H
                obtain ⟨t117, A200, H⟩ := H
                replace H : (impl_GoodTree.j2 k2 x3_2 l0 (l0.length : Int) x16_2 (!t117) ((rd_T70 l0 x16_2).f0) ((rd_T70 l0 x16_2).f1) ((rd_T70 l0 x16_2).f2)) = some r := H
                have A20 := Aside0.mk A200
                clear A200
                have H' := Aside0.mk H
                clear H
                have hcz21_0 : w9.cell? ⟨gb115, 0, none⟩ = some (.int .i64 0) := (blk_cell BK115.out 0).trans rfl
                have hcz21_1 : w9.cell? ⟨gb115, 1, none⟩ = some (.int .i64 0) := (blk_cell BK115.out 1).trans rfl
                have hcz21_2 : w9.cell? ⟨gb115, 2, none⟩ = some (.int .i64 0) := (blk_cell BK115.out 2).trans rfl
                have hfz21_0 := blk_frozen BK115.out 0
                have hfz21_1 := blk_frozen BK115.out 1
                have hfz21_2 := blk_frozen BK115.out 2
                go_wp2_with (first | (go_at_call 49; (with_reducible refine (impl_between.calls ((rd_T70 l0 x16_2).f2) 0 9 t117 _ A20.out).mono ?_); rintro e w' ⟨rfl, ⟨nd, rfl⟩⟩))
                go_meet
                case rel => exact ⟨_, (!t117), es_, H', ⟨by have := HJ1.out; have := HK2.out; first | omega | exact Nat.le_refl _⟩, ⟨by (with_reducible repeat (first | refine blk_drewN ?_ _ | refine blk_drew ?_ | refine blk_alloc ?_ _)); refine blk_put (cs := #[.int .i64 ((rd_T70 l0 x16_2).f0), .int .i64 ((rd_T70 l0 x16_2).f1), .int .i64 0]) ?_ 2 _ rfl; (with_reducible repeat (first | refine blk_drewN ?_ _ | refine blk_drew ?_ | refine blk_alloc ?_ _)); refine blk_put (cs := #[.int .i64 ((rd_T70 l0 x16_2).f0), .int .i64 0, .int .i64 0]) ?_ 1 _ rfl; (with_reducible repeat (first | refine blk_drewN ?_ _ | refine blk_drew ?_ | refine blk_alloc ?_ _)); refine blk_put (cs := #[.int .i64 0, .int .i64 0, .int .i64 0]) ?_ 0 _ rfl; (with_reducible repeat (first | refine blk_drewN ?_ _ | refine blk_drew ?_ | refine blk_alloc ?_ _)); exact BK115.out⟩, ⟨hb_⟩⟩
               ·rw [if_neg c19] at H
                have c19b0 : (((rd_T70 l0 x16_2).f0) == 5) = false := beq_eq_false_iff_ne.mpr c19
                have c19b1 : (((rd_T70 l0 x16_2).f0) != 5) = true := bne_iff_ne.mpr c19
                have H' := Aside0.mk H
                clear H
                have hcz22_0 : w9.cell? ⟨gb115, 0, none⟩ = some (.int .i64 0) := (blk_cell BK115.out 0).trans rfl
                have hcz22_1 : w9.cell? ⟨gb115, 1, none⟩ = some (.int .i64 0) := (blk_cell BK115.out 1).trans rfl
                have hcz22_2 : w9.cell? ⟨gb115, 2, none⟩ = some (.int .i64 0) := (blk_cell BK115.out 2).trans rfl
                have hfz22_0 := blk_frozen BK115.out 0
                have hfz22_1 := blk_frozen BK115.out 1
                have hfz22_2 := blk_frozen BK115.out 2
                go_wp2
                go_meet
                case rel => exact ⟨_, (true), es_, H', ⟨by have := HJ1.out; have := HK2.out; first | omega | exact Nat.le_refl _⟩, ⟨by (with_reducible repeat (first | refine blk_drewN ?_ _ | refine blk_drew ?_ | refine blk_alloc ?_ _)); refine blk_put (cs := #[.int .i64 ((rd_T70 l0 x16_2).f0), .int .i64 ((rd_T70 l0 x16_2).f1), .int .i64 0]) ?_ 2 _ rfl; (with_reducible repeat (first | refine blk_drewN ?_ _ | refine blk_drew ?_ | refine blk_alloc ?_ _)); refine blk_put (cs := #[.int .i64 ((rd_T70 l0 x16_2).f0), .int .i64 0, .int .i64 0]) ?_ 1 _ rfl; (with_reducible repeat (first | refine blk_drewN ?_ _ | refine blk_drew ?_ | refine blk_alloc ?_ _)); refine blk_put (cs := #[.int .i64 0, .int .i64 0, .int .i64 0]) ?_ 0 _ rfl; (with_reducible repeat (first | refine blk_drewN ?_ _ | refine blk_drew ?_ | refine blk_alloc ?_ _)); exact BK115.out⟩, ⟨hb_⟩⟩
          case rest =>
           clear HC8
           try clear c1
           try clear p1
           try clear q1
           try clear hx1
           try clear p2
           try clear c3
           try clear c3b0
           try clear c3b1
           try clear c4
           try clear c5
           try clear c5b0
           try clear c6
           try clear c6b0
           try clear c7
           try clear c7b0
           try clear c11
           try clear c11b0
           try clear c11b1
           try clear p11
           try clear q11
           try clear hx11
           try clear c12
           try clear c12b0
           try clear c14
           try clear c14b0
           try clear c15
           try clear c16
           try clear c16b0
           try clear c16b1
           try clear c19
           try clear c19b0
           try clear c19b1
           try clear hcz10_0
           try clear hcz10_1
           try clear hcz10_2
           try clear hcz13_0
           try clear hcz13_1
           try clear hcz13_2
           try clear hcz15_0
           try clear hcz15_1
           try clear hcz15_2
           try clear hcz18_0
           try clear hcz18_1
           try clear hcz18_2
           try clear hcz21_0
           try clear hcz21_1
           try clear hcz21_2
           try clear hcz22_0
           try clear hcz22_1
           try clear hcz22_2
           try clear hfz10_0
           try clear hfz10_1
           try clear hfz10_2
           try clear hfz13_0
           try clear hfz13_1
           try clear hfz13_2
           try clear hfz15_0
           try clear hfz15_1
           try clear hfz15_2
           try clear hfz18_0
           try clear hfz18_1
           try clear hfz18_2
           try clear hfz21_0
           try clear hfz21_1
           try clear hfz21_2
           try clear hfz22_0
           try clear hfz22_1
           try clear hfz22_2
           try clear hx114_0
           try clear hx114_1
           try clear hx114_2
           try clear p114
           try clear p2
           try clear q114
           obtain ⟨kq, x47_7, rfl, HA, HJ7, BK115, HB⟩ := hcut
           cases kq with
           | zero => exact absurd HA.out (by simp [impl_GoodTree.j2])
           | succ kj7 =>
            have H := HA.out
            clear HA
            simp only [impl_GoodTree.j2] at H
            by_cases c23 : x47_7 = true
            ·subst c23
             rw [if_pos rfl] at H
             obtain rfl := Option.some.inj H
             go_wp2
             go_ret
             exact ⟨er_, hb_⟩
            ·replace c23 := Bool.eq_false_iff.mpr c23
             subst c23
             rw [if_neg (show ¬ (false = true) by decide)] at H
             have HC24 := Aside0.mk H
             clear H
             have hcz25_0 : wc.cell? ⟨gb115, 0, none⟩ = some (.int .i64 ((rd_T70 l0 x16_2).f0)) := (blk_cell BK115.out 0).trans rfl
             have hcz25_1 : wc.cell? ⟨gb115, 1, none⟩ = some (.int .i64 ((rd_T70 l0 x16_2).f1)) := (blk_cell BK115.out 1).trans rfl
             have hcz25_2 : wc.cell? ⟨gb115, 2, none⟩ = some (.int .i64 ((rd_T70 l0 x16_2).f2)) := (blk_cell BK115.out 2).trans rfl
             have hfz25_0 := blk_frozen BK115.out 0
             have hfz25_1 := blk_frozen BK115.out 1
             have hfz25_2 := blk_frozen BK115.out 2
             go_upto_if 50 with (fail)
             go_cut [50] (fun v50 wc => ∃ (kq : Nat) (x50_23 : Bool), v50 = .bool x50_23 ∧ Aside0 (impl_GoodTree.j3 kq x3_2 l0 (l0.length : Int) x16_2 ((rd_T70 l0 x16_2).f0) x50_23 ((rd_T70 l0 x16_2).f0) ((rd_T70 l0 x16_2).f1) ((rd_T70 l0 x16_2).f2) = some r) ∧ Aside0 (kq ≤ kj7) ∧ Aside0 (wc.heap[gb115]? = some (.cells #[.int .i64 ((rd_T70 l0 x16_2).f0), .int .i64 ((rd_T70 l0 x16_2).f1), .int .i64 ((rd_T70 l0 x16_2).f2)] 70 (0, 0))) ∧ Aside0 (Below w.heap.size w wc))
             case first =>
              have H := HC24.out
              clear HC24
              by_cases c26 : ((rd_T70 l0 x16_2).f0) = 1
              ·rw [if_pos c26] at H
               have c26b0 : (((rd_T70 l0 x16_2).f0) == 1) = true := beq_iff_eq.mpr c26
               have c26b1 : (((rd_T70 l0 x16_2).f0) != 1) = false := bne_eq_false_iff_eq.mpr c26
               clear c26
               (first | rw [c26b0] | (simp only [i64_w, i32_w]; rw [c26b0]) | skip)
               have H' := Aside0.mk H
               clear H
               go_wp2
               go_meet
               case rel => exact ⟨_, ((((rd_T70 l0 x16_2).f0) == 1)), es_, H', ⟨by have := HJ1.out; have := HK2.out; have := HJ7.out; first | omega | exact Nat.le_refl _⟩, ⟨bk_ BK115.out⟩, ⟨hb_⟩⟩
              ·rw [if_neg c26] at H
               have c26b0 : (((rd_T70 l0 x16_2).f0) == 1) = false := beq_eq_false_iff_ne.mpr c26
               have c26b1 : (((rd_T70 l0 x16_2).f0) != 1) = true := bne_iff_ne.mpr c26
               (first | rw [c26b0] | (simp only [i64_w, i32_w]; rw [c26b0]) | skip)
               by_cases c27 : ((rd_T70 l0 x16_2).f0) = 2
               ·rw [if_pos c27] at H
                have c27b0 : (((rd_T70 l0 x16_2).f0) == 2) = true := beq_iff_eq.mpr c27
                have c27b1 : (((rd_T70 l0 x16_2).f0) != 2) = false := bne_eq_false_iff_eq.mpr c27
                clear c27
                have H' := Aside0.mk H
                clear H
                go_wp2
                go_meet
                case rel => exact ⟨_, ((((rd_T70 l0 x16_2).f0) == 2)), es_, H', ⟨by have := HJ1.out; have := HK2.out; have := HJ7.out; first | omega | exact Nat.le_refl _⟩, ⟨bk_ BK115.out⟩, ⟨hb_⟩⟩
               ·rw [if_neg c27] at H
                have c27b0 : (((rd_T70 l0 x16_2).f0) == 2) = false := beq_eq_false_iff_ne.mpr c27
                have c27b1 : (((rd_T70 l0 x16_2).f0) != 2) = true := bne_iff_ne.mpr c27
                have H' := Aside0.mk H
                clear H
                go_wp2
                go_meet
                case rel => exact ⟨_, ((((rd_T70 l0 x16_2).f0) == 4)), es_, H', ⟨by have := HJ1.out; have := HK2.out; have := HJ7.out; first | omega | exact Nat.le_refl _⟩, ⟨bk_ BK115.out⟩, ⟨hb_⟩⟩
             case rest =>
              clear HC24
              try clear c1
              try clear p1
              try clear q1
              try clear hx1
              try clear c2
              try clear p2
              try clear c3
              try clear c3b0
              try clear c3b1
              try clear c4
              try clear c5
              try clear c5b0
              try clear c6
              try clear c6b0
              try clear c7
              try clear c7b0
              try clear c11
              try clear c11b0
              try clear c11b1
              try clear p11
              try clear q11
              try clear hx11
              try clear c12
              try clear c12b0
              try clear c14
              try clear c14b0
              try clear c15
              try clear c16
              try clear c16b0
              try clear c16b1
              try clear c19
              try clear c19b0
              try clear c19b1
              try clear c23
              try clear c26
              try clear c26b0
              try clear c26b1
              try clear c27
              try clear c27b0
              try clear c27b1
              try clear hcz10_0
              try clear hcz10_1
              try clear hcz10_2
              try clear hcz13_0
              try clear hcz13_1
              try clear hcz13_2
              try clear hcz15_0
              try clear hcz15_1
              try clear hcz15_2
              try clear hcz18_0
              try clear hcz18_1
              try clear hcz18_2
              try clear hcz21_0
              try clear hcz21_1
              try clear hcz21_2
              try clear hcz22_0
              try clear hcz22_1
              try clear hcz22_2
              try clear hcz25_0
              try clear hcz25_1
              try clear hcz25_2
              try clear hfz10_0
              try clear hfz10_1
              try clear hfz10_2
              try clear hfz13_0
              try clear hfz13_1
              try clear hfz13_2
              try clear hfz15_0
              try clear hfz15_1
              try clear hfz15_2
              try clear hfz18_0
              try clear hfz18_1
              try clear hfz18_2
              try clear hfz21_0
              try clear hfz21_1
              try clear hfz21_2
              try clear hfz22_0
              try clear hfz22_1
              try clear hfz22_2
              try clear hfz25_0
              try clear hfz25_1
              try clear hfz25_2
              try clear hx114_0
              try clear hx114_1
              try clear hx114_2
              try clear p1
              try clear p11
              try clear p114
              try clear p2
              try clear q1
              try clear q11
              try clear q114
              obtain ⟨kq, x50_23, rfl, HA, HJ23, BK115, HB⟩ := hcut
              cases kq with
              | zero => exact absurd HA.out (by simp [impl_GoodTree.j3])
              | succ kj23 =>
               have H := HA.out
               clear HA
               simp only [impl_GoodTree.j3] at H
               by_cases c28 : x50_23 = true
               ·subst c28
                rw [if_pos rfl] at H
                by_cases c29 : ((rd_T70 l0 x16_2).f1) < 1
                ·rw [if_pos c29] at H
                 have c29b0 : decide (((rd_T70 l0 x16_2).f1) < 1) = true := decide_eq_true c29
                 clear c29
                 obtain rfl := Option.some.inj H
                 have hcz30_0 : wc.cell? ⟨gb115, 0, none⟩ = some (.int .i64 ((rd_T70 l0 x16_2).f0)) := (blk_cell BK115.out 0).trans rfl
                 have hcz30_1 : wc.cell? ⟨gb115, 1, none⟩ = some (.int .i64 ((rd_T70 l0 x16_2).f1)) := (blk_cell BK115.out 1).trans rfl
                 have hcz30_2 : wc.cell? ⟨gb115, 2, none⟩ = some (.int .i64 ((rd_T70 l0 x16_2).f2)) := (blk_cell BK115.out 2).trans rfl
                 have hfz30_0 := blk_frozen BK115.out 0
                 have hfz30_1 := blk_frozen BK115.out 1
                 have hfz30_2 := blk_frozen BK115.out 2
                 go_wp2
                 go_ret
                 exact ⟨er_, hb_⟩
                ·rw [if_neg c29] at H
                 have c29b0 : decide (((rd_T70 l0 x16_2).f1) < 1) = false := decide_eq_false c29
                 clear c29
                 have H' := Aside0.mk H
                 clear H
                 have hcz31_0 : wc.cell? ⟨gb115, 0, none⟩ = some (.int .i64 ((rd_T70 l0 x16_2).f0)) := (blk_cell BK115.out 0).trans rfl
                 have hcz31_1 : wc.cell? ⟨gb115, 1, none⟩ = some (.int .i64 ((rd_T70 l0 x16_2).f1)) := (blk_cell BK115.out 1).trans rfl
                 have hcz31_2 : wc.cell? ⟨gb115, 2, none⟩ = some (.int .i64 ((rd_T70 l0 x16_2).f2)) := (blk_cell BK115.out 2).trans rfl
                 have hfz31_0 := blk_frozen BK115.out 0
                 have hfz31_1 := blk_frozen BK115.out 1
                 have hfz31_2 := blk_frozen BK115.out 2
                 go_wp2
                 go_roundg kj23
                 case measure => have := HJ1.out; have := HK2.out; have := HJ7.out; have := HJ23.out; omega
                 case rel => exact ⟨(wrap64 (x3_2 + (wrap64 (((rd_T70 l0 x16_2).f1) - 1)))), (wrap64 (x16_2 + 1)), es_, es_, H', ⟨by have := HJ1.out; have := HK2.out; have := HJ7.out; have := HJ23.out; omega⟩, ⟨hb_⟩⟩
               ·replace c28 := Bool.eq_false_iff.mpr c28
                subst c28
                rw [if_neg (show ¬ (false = true) by decide)] at H
                by_cases c32 : ((rd_T70 l0 x16_2).f0) = 3
                ·rw [if_pos c32] at H
                 have c32b0 : (((rd_T70 l0 x16_2).f0) == 3) = true := beq_iff_eq.mpr c32
                 have c32b1 : (((rd_T70 l0 x16_2).f0) != 3) = false := bne_eq_false_iff_eq.mpr c32
                 clear c32
                 by_cases c33 : ((rd_T70 l0 x16_2).f1) = 1
                 ·rw [if_pos c33] at H
                  have c33b0 : (((rd_T70 l0 x16_2).f1) == 1) = true := beq_iff_eq.mpr c33
                  have c33b1 : (((rd_T70 l0 x16_2).f1) != 1) = false := bne_eq_false_iff_eq.mpr c33
                  clear c33
                  have H' := Aside0.mk H
                  clear H
                  have hcz34_0 : wc.cell? ⟨gb115, 0, none⟩ = some (.int .i64 ((rd_T70 l0 x16_2).f0)) := (blk_cell BK115.out 0).trans rfl
                  have hcz34_1 : wc.cell? ⟨gb115, 1, none⟩ = some (.int .i64 ((rd_T70 l0 x16_2).f1)) := (blk_cell BK115.out 1).trans rfl
                  have hcz34_2 : wc.cell? ⟨gb115, 2, none⟩ = some (.int .i64 ((rd_T70 l0 x16_2).f2)) := (blk_cell BK115.out 2).trans rfl
                  have hfz34_0 := blk_frozen BK115.out 0
                  have hfz34_1 := blk_frozen BK115.out 1
                  have hfz34_2 := blk_frozen BK115.out 2
                  go_wp2
                  go_roundg kj23
                  case measure => have := HJ1.out; have := HK2.out; have := HJ7.out; have := HJ23.out; omega
                  case rel => exact ⟨(wrap64 (x3_2 + (wrap64 (((rd_T70 l0 x16_2).f1) - 1)))), (wrap64 (x16_2 + 1)), es_, es_, H', ⟨by have := HJ1.out; have := HK2.out; have := HJ7.out; have := HJ23.out; omega⟩, ⟨hb_⟩⟩
                 ·rw [if_neg c33] at H
                  have c33b0 : (((rd_T70 l0 x16_2).f1) == 1) = false := beq_eq_false_iff_ne.mpr c33
                  have c33b1 : (((rd_T70 l0 x16_2).f1) != 1) = true := bne_iff_ne.mpr c33
                  obtain rfl := Option.some.inj H
                  have hcz35_0 : wc.cell? ⟨gb115, 0, none⟩ = some (.int .i64 ((rd_T70 l0 x16_2).f0)) := (blk_cell BK115.out 0).trans rfl
                  have hcz35_1 : wc.cell? ⟨gb115, 1, none⟩ = some (.int .i64 ((rd_T70 l0 x16_2).f1)) := (blk_cell BK115.out 1).trans rfl
                  have hcz35_2 : wc.cell? ⟨gb115, 2, none⟩ = some (.int .i64 ((rd_T70 l0 x16_2).f2)) := (blk_cell BK115.out 2).trans rfl
                  have hfz35_0 := blk_frozen BK115.out 0
                  have hfz35_1 := blk_frozen BK115.out 1
                  have hfz35_2 := blk_frozen BK115.out 2
                  go_wp2
                  go_ret
                  exact ⟨er_, hb_⟩
                ·rw [if_neg c32] at H
                 have c32b0 : (((rd_T70 l0 x16_2).f0) == 3) = false := beq_eq_false_iff_ne.mpr c32
                 have c32b1 : (((rd_T70 l0 x16_2).f0) != 3) = true := bne_iff_ne.mpr c32
                 by_cases c36 : ((rd_T70 l0 x16_2).f0) = 5
                 ·rw [if_pos c36] at H
                  have c36b0 : (((rd_T70 l0 x16_2).f0) == 5) = true := beq_iff_eq.mpr c36
                  have c36b1 : (((rd_T70 l0 x16_2).f0) != 5) = false := bne_eq_false_iff_eq.mpr c36
                  clear c36
                  by_cases c37 : ((rd_T70 l0 x16_2).f1) = 0
                  ·rw [if_pos c37] at H
                   have c37b0 : (((rd_T70 l0 x16_2).f1) == 0) = true := beq_iff_eq.mpr c37
                   have c37b1 : (((rd_T70 l0 x16_2).f1) != 0) = false := bne_eq_false_iff_eq.mpr c37
                   clear c37
                   have H' := Aside0.mk H
                   clear H
                   have hcz38_0 : wc.cell? ⟨gb115, 0, none⟩ = some (.int .i64 ((rd_T70 l0 x16_2).f0)) := (blk_cell BK115.out 0).trans rfl
                   have hcz38_1 : wc.cell? ⟨gb115, 1, none⟩ = some (.int .i64 ((rd_T70 l0 x16_2).f1)) := (blk_cell BK115.out 1).trans rfl
                   have hcz38_2 : wc.cell? ⟨gb115, 2, none⟩ = some (.int .i64 ((rd_T70 l0 x16_2).f2)) := (blk_cell BK115.out 2).trans rfl
                   have hfz38_0 := blk_frozen BK115.out 0
                   have hfz38_1 := blk_frozen BK115.out 1
                   have hfz38_2 := blk_frozen BK115.out 2
                   go_wp2
                   go_roundg kj23
                   case measure => have := HJ1.out; have := HK2.out; have := HJ7.out; have := HJ23.out; omega
                   case rel => exact ⟨(wrap64 (x3_2 + (wrap64 (((rd_T70 l0 x16_2).f1) - 1)))), (wrap64 (x16_2 + 1)), es_, es_, H', ⟨by have := HJ1.out; have := HK2.out; have := HJ7.out; have := HJ23.out; omega⟩, ⟨hb_⟩⟩
                  ·rw [if_neg c37] at H
                   have c37b0 : (((rd_T70 l0 x16_2).f1) == 0) = false := beq_eq_false_iff_ne.mpr c37
                   have c37b1 : (((rd_T70 l0 x16_2).f1) != 0) = true := bne_iff_ne.mpr c37
                   obtain rfl := Option.some.inj H
                   have hcz39_0 : wc.cell? ⟨gb115, 0, none⟩ = some (.int .i64 ((rd_T70 l0 x16_2).f0)) := (blk_cell BK115.out 0).trans rfl
                   have hcz39_1 : wc.cell? ⟨gb115, 1, none⟩ = some (.int .i64 ((rd_T70 l0 x16_2).f1)) := (blk_cell BK115.out 1).trans rfl
                   have hcz39_2 : wc.cell? ⟨gb115, 2, none⟩ = some (.int .i64 ((rd_T70 l0 x16_2).f2)) := (blk_cell BK115.out 2).trans rfl
                   have hfz39_0 := blk_frozen BK115.out 0
                   have hfz39_1 := blk_frozen BK115.out 1
                   have hfz39_2 := blk_frozen BK115.out 2
                   go_wp2
                   go_ret
                   exact ⟨er_, hb_⟩
                 ·rw [if_neg c36] at H
                  have c36b0 : (((rd_T70 l0 x16_2).f0) == 5) = false := beq_eq_false_iff_ne.mpr c36
                  have c36b1 : (((rd_T70 l0 x16_2).f0) != 5) = true := bne_iff_ne.mpr c36
                  obtain rfl := Option.some.inj H
                  go_wp2
                  go_ret
                  exact ⟨er_, hb_⟩
         ·rw [if_neg c7] at H
          exact absurd H (by simp)
        ·rw [if_neg c6] at H
         exact absurd H (by simp)
       ·rw [if_neg c5] at H
        have c5b0 : decide (x16_2 < (l0.length : Int)) = false := decide_eq_false c5
        clear c5
        obtain rfl := Option.some.inj H
        go_wp2
        go_ret
        exact ⟨er_, hb_⟩

end Go.Proofs.Ytkhkgfihodljmaa.Pr
