-- Joined and pruned by wip/tools/prune.py out of this session's own texts (Pr13, Pr14)
import Derived.Test.YtbdonoeellmeoaaZbs12
-- Written by this session's own print (wip/tools/mkmp.py) out of the translation. Lean checks it.
namespace Go.Proofs.Ytbdonoeellmeoaa.Pr
open Go.RowKit Go.Proofs.YtbdonoeellmeoaaW.PrintWords Go.Proofs.YtbdonoeellmeoaaW.PrintLast Go.Proofs.YtbdonoeellmeoaaW.PrintMore
attribute [local go_sem] max2_int min2_int max_two min_two max_three min_three max_four min_four   -- for this text's walks alone
set_option linter.unusedVariables false
set_option linter.unusedSimpArgs false

set_option maxHeartbeats 8000000 in
set_option maxRecDepth 100000 in
theorem spec_l23Talker.calls (k : Nat) (A0_0 : Option Addr) (c0_0 : Nat) (l0_0 : List (S27)) (a0_1 : Int) (a0_2 : Int) (a0_3 : Bool) (r : Bool) (w : World) (hr0_0 : Kd.C k27 w A0_0 l0_0.length l0_0) (hc0_0 : l0_0.length ≤ c0_0) (h : spec_l23Talker.f k l0_0 a0_1 a0_2 a0_3 = some r) :
   Calls Try.prog 46 #[.agg #[.slice A0_0 l0_0.length c0_0, .int .i64 a0_1, .int .i64 a0_2, .bool a0_3]] w fun e w' => e = .returned (.bool r) ∧ Below w.heap.size w w' := by
  have hu66 := Try.underlying66
  have hu27 := Try.underlying27
  have HR0_0 := Aside0.mk hr0_0
  have HC0_0 := Aside0.mk hc0_0
  clear hr0_0 hc0_0
  have HB := Aside0.mk (Below.refl w.heap.size w)
  have H : (if (l0_0.length : Int) > 8 then (spec_l23Talker.j0 k true l0_0 a0_1 a0_2 a0_3) else (if a0_1 < 1 then (spec_l23Talker.j0 k true l0_0 a0_1 a0_2 a0_3) else (if a0_1 > 10 then (spec_l23Talker.j0 k true l0_0 a0_1 a0_2 a0_3) else (if a0_2 < 0 then (spec_l23Talker.j0 k true l0_0 a0_1 a0_2 a0_3) else (if a0_2 > 255 then (spec_l23Talker.j0 k true l0_0 a0_1 a0_2 a0_3) else (spec_l23Talker.j0 k (a0_3 != (a0_2 == 255)) l0_0 a0_1 a0_2 a0_3)))))) = some r := h
  clear h
  have HC2 := Aside0.mk H
  clear H
  go_enter Try.func46, Try.ntmps46
  go_upto_region 1 with (first | ((with_reducible refine gate_dst (N := 1) rfl ?_); refine box_event ?hg (N := 1) ?hd (cs := #[.slice A0_0 l0_0.length c0_0, .int .i64 a0_1, .int .i64 a0_2, .bool a0_3]) (t := 66) ?hr ?_; (case hd => rfl); (case hg => rfl); (case hr => first | (go_simp; done) | (go_simp; rfl)); intro gb396 hg w3 hbox hb; have n0_ := Aside0.mk (below_step hb_ hb); have n1_ := Aside0.mk (hbox); have n2_ : Aside0 (w.heap.size ≤ gb396) := gz_; have n3_ : Aside0 (w.heap.size ≤ gb396) := gz_; clear HB; have HB := n0_; have BK396 := n1_; have GW396 := n2_; have GE396 := n3_; clear n0_ n1_ n2_ n3_; clear hb hbox hg))
  (try simp only [Act.put, List.setIfInBounds_toArray, List.set_cons_zero, List.set_cons_succ])
  go_cut [36] (fun v36 wc => ∃ (kq : Nat) (x36_1 : Bool), v36 = .bool x36_1 ∧ Aside0 (spec_l23Talker.j0 kq x36_1 l0_0 a0_1 a0_2 a0_3 = some r) ∧ Aside0 (kq ≤ k) ∧ Aside0 (wc.heap[gb396]? = some (.cells #[(.slice A0_0 l0_0.length c0_0), .int .i64 a0_1, .int .i64 a0_2, .bool a0_3] 66 (0, 0))) ∧ Aside0 (Below w.heap.size w wc))
  case first =>
   have H := HC2.out
   clear HC2
   by_cases c4 : (l0_0.length : Int) > 8
   ·rw [if_pos c4] at H
    have c4b0 : decide (8 < (l0_0.length : Int)) = true := decide_eq_true c4
    have c4b1 : decide (8 < l0_0.length) = true := decide_eq_true (by omega)
    clear c4
    (first | rw [c4b0] | (simp only [i64_w, i32_w]; rw [c4b0]) | skip)
    have H' := Aside0.mk H
    clear H
    have hcz5_0 : w3.cell? ⟨gb396, 0, none⟩ = some (.slice A0_0 l0_0.length c0_0) := (blk_cell BK396.out 0).trans rfl
    have hcz5_1 : w3.cell? ⟨gb396, 1, none⟩ = some (.int .i64 a0_1) := (blk_cell BK396.out 1).trans rfl
    have hcz5_2 : w3.cell? ⟨gb396, 2, none⟩ = some (.int .i64 a0_2) := (blk_cell BK396.out 2).trans rfl
    have hcz5_3 : w3.cell? ⟨gb396, 3, none⟩ = some (.bool a0_3) := (blk_cell BK396.out 3).trans rfl
    have hfz5_0 := blk_frozen BK396.out 0
    have hfz5_1 := blk_frozen BK396.out 1
    have hfz5_2 := blk_frozen BK396.out 2
    have hfz5_3 := blk_frozen BK396.out 3
    go_wp2
    go_meet
    case rel => exact ⟨_, (true), es_, H', ⟨by first | omega | exact Nat.le_refl _⟩, ⟨bk_ BK396.out⟩, ⟨hb_⟩⟩
   ·rw [if_neg c4] at H
    have c4b0 : decide (8 < (l0_0.length : Int)) = false := decide_eq_false c4
    have c4b1 : decide (8 < l0_0.length) = false := decide_eq_false (by omega)
    clear c4
    (first | rw [c4b0] | (simp only [i64_w, i32_w]; rw [c4b0]) | skip)
    by_cases c6 : a0_1 < 1
    ·rw [if_pos c6] at H
     have c6b0 : decide (a0_1 < 1) = true := decide_eq_true c6
     clear c6
     have H' := Aside0.mk H
     clear H
     have hcz7_0 : w3.cell? ⟨gb396, 0, none⟩ = some (.slice A0_0 l0_0.length c0_0) := (blk_cell BK396.out 0).trans rfl
     have hcz7_1 : w3.cell? ⟨gb396, 1, none⟩ = some (.int .i64 a0_1) := (blk_cell BK396.out 1).trans rfl
     have hcz7_2 : w3.cell? ⟨gb396, 2, none⟩ = some (.int .i64 a0_2) := (blk_cell BK396.out 2).trans rfl
     have hcz7_3 : w3.cell? ⟨gb396, 3, none⟩ = some (.bool a0_3) := (blk_cell BK396.out 3).trans rfl
     have hfz7_0 := blk_frozen BK396.out 0
     have hfz7_1 := blk_frozen BK396.out 1
     have hfz7_2 := blk_frozen BK396.out 2
     have hfz7_3 := blk_frozen BK396.out 3
     go_wp2
     go_meet
     case rel => exact ⟨_, (true), es_, H', ⟨by first | omega | exact Nat.le_refl _⟩, ⟨bk_ BK396.out⟩, ⟨hb_⟩⟩
    ·rw [if_neg c6] at H
     have c6b0 : decide (a0_1 < 1) = false := decide_eq_false c6
     clear c6
     by_cases c8 : a0_1 > 10
     ·rw [if_pos c8] at H
      have c8b0 : decide (10 < a0_1) = true := decide_eq_true c8
      clear c8
      have H' := Aside0.mk H
      clear H
      have hcz9_0 : w3.cell? ⟨gb396, 0, none⟩ = some (.slice A0_0 l0_0.length c0_0) := (blk_cell BK396.out 0).trans rfl
      have hcz9_1 : w3.cell? ⟨gb396, 1, none⟩ = some (.int .i64 a0_1) := (blk_cell BK396.out 1).trans rfl
      have hcz9_2 : w3.cell? ⟨gb396, 2, none⟩ = some (.int .i64 a0_2) := (blk_cell BK396.out 2).trans rfl
      have hcz9_3 : w3.cell? ⟨gb396, 3, none⟩ = some (.bool a0_3) := (blk_cell BK396.out 3).trans rfl
      have hfz9_0 := blk_frozen BK396.out 0
      have hfz9_1 := blk_frozen BK396.out 1
      have hfz9_2 := blk_frozen BK396.out 2
      have hfz9_3 := blk_frozen BK396.out 3
      go_wp2
      go_meet
      case rel => exact ⟨_, (true), es_, H', ⟨by first | omega | exact Nat.le_refl _⟩, ⟨bk_ BK396.out⟩, ⟨hb_⟩⟩
     ·rw [if_neg c8] at H
      have c8b0 : decide (10 < a0_1) = false := decide_eq_false c8
      clear c8
      by_cases c10 : a0_2 < 0
      ·rw [if_pos c10] at H
       have c10b0 : decide (a0_2 < 0) = true := decide_eq_true c10
       clear c10
       have H' := Aside0.mk H
       clear H
       have hcz11_0 : w3.cell? ⟨gb396, 0, none⟩ = some (.slice A0_0 l0_0.length c0_0) := (blk_cell BK396.out 0).trans rfl
       have hcz11_1 : w3.cell? ⟨gb396, 1, none⟩ = some (.int .i64 a0_1) := (blk_cell BK396.out 1).trans rfl
       have hcz11_2 : w3.cell? ⟨gb396, 2, none⟩ = some (.int .i64 a0_2) := (blk_cell BK396.out 2).trans rfl
       have hcz11_3 : w3.cell? ⟨gb396, 3, none⟩ = some (.bool a0_3) := (blk_cell BK396.out 3).trans rfl
       have hfz11_0 := blk_frozen BK396.out 0
       have hfz11_1 := blk_frozen BK396.out 1
       have hfz11_2 := blk_frozen BK396.out 2
       have hfz11_3 := blk_frozen BK396.out 3
       go_wp2
       go_meet
       case rel => exact ⟨_, (true), es_, H', ⟨by first | omega | exact Nat.le_refl _⟩, ⟨bk_ BK396.out⟩, ⟨hb_⟩⟩
      ·rw [if_neg c10] at H
       have c10b0 : decide (a0_2 < 0) = false := decide_eq_false c10
       clear c10
       by_cases c12 : a0_2 > 255
       ·rw [if_pos c12] at H
        have c12b0 : decide (255 < a0_2) = true := decide_eq_true c12
        clear c12
        have H' := Aside0.mk H
        clear H
        have hcz13_0 : w3.cell? ⟨gb396, 0, none⟩ = some (.slice A0_0 l0_0.length c0_0) := (blk_cell BK396.out 0).trans rfl
        have hcz13_1 : w3.cell? ⟨gb396, 1, none⟩ = some (.int .i64 a0_1) := (blk_cell BK396.out 1).trans rfl
        have hcz13_2 : w3.cell? ⟨gb396, 2, none⟩ = some (.int .i64 a0_2) := (blk_cell BK396.out 2).trans rfl
        have hcz13_3 : w3.cell? ⟨gb396, 3, none⟩ = some (.bool a0_3) := (blk_cell BK396.out 3).trans rfl
        have hfz13_0 := blk_frozen BK396.out 0
        have hfz13_1 := blk_frozen BK396.out 1
        have hfz13_2 := blk_frozen BK396.out 2
        have hfz13_3 := blk_frozen BK396.out 3
        go_wp2
        go_meet
        case rel => exact ⟨_, (true), es_, H', ⟨by first | omega | exact Nat.le_refl _⟩, ⟨bk_ BK396.out⟩, ⟨hb_⟩⟩
       ·rw [if_neg c12] at H
        have c12b0 : decide (255 < a0_2) = false := decide_eq_false c12
        clear c12
        have H' := Aside0.mk H
        clear H
        have hcz14_0 : w3.cell? ⟨gb396, 0, none⟩ = some (.slice A0_0 l0_0.length c0_0) := (blk_cell BK396.out 0).trans rfl
        have hcz14_1 : w3.cell? ⟨gb396, 1, none⟩ = some (.int .i64 a0_1) := (blk_cell BK396.out 1).trans rfl
        have hcz14_2 : w3.cell? ⟨gb396, 2, none⟩ = some (.int .i64 a0_2) := (blk_cell BK396.out 2).trans rfl
        have hcz14_3 : w3.cell? ⟨gb396, 3, none⟩ = some (.bool a0_3) := (blk_cell BK396.out 3).trans rfl
        have hfz14_0 := blk_frozen BK396.out 0
        have hfz14_1 := blk_frozen BK396.out 1
        have hfz14_2 := blk_frozen BK396.out 2
        have hfz14_3 := blk_frozen BK396.out 3
        go_wp2
        go_meet
        case rel => exact ⟨_, ((a0_3 != (a0_2 == 255))), es_, H', ⟨by first | omega | exact Nat.le_refl _⟩, ⟨bk_ BK396.out⟩, ⟨hb_⟩⟩
  case rest =>
   clear HC2
   try clear c1
   try clear p2
   try clear c4
   try clear c4b0
   try clear c4b1
   try clear c6
   try clear c6b0
   try clear c8
   try clear c8b0
   try clear c10
   try clear c10b0
   try clear c12
   try clear c12b0
   try clear hcz11_0
   try clear hcz11_1
   try clear hcz11_2
   try clear hcz11_3
   try clear hcz13_0
   try clear hcz13_1
   try clear hcz13_2
   try clear hcz13_3
   try clear hcz14_0
   try clear hcz14_1
   try clear hcz14_2
   try clear hcz14_3
   try clear hcz5_0
   try clear hcz5_1
   try clear hcz5_2
   try clear hcz5_3
   try clear hcz7_0
   try clear hcz7_1
   try clear hcz7_2
   try clear hcz7_3
   try clear hcz9_0
   try clear hcz9_1
   try clear hcz9_2
   try clear hcz9_3
   try clear hfz11_0
   try clear hfz11_1
   try clear hfz11_2
   try clear hfz11_3
   try clear hfz13_0
   try clear hfz13_1
   try clear hfz13_2
   try clear hfz13_3
   try clear hfz14_0
   try clear hfz14_1
   try clear hfz14_2
   try clear hfz14_3
   try clear hfz5_0
   try clear hfz5_1
   try clear hfz5_2
   try clear hfz5_3
   try clear hfz7_0
   try clear hfz7_1
   try clear hfz7_2
   try clear hfz7_3
   try clear hfz9_0
   try clear hfz9_1
   try clear hfz9_2
   try clear hfz9_3
   obtain ⟨kq, x36_1, rfl, HA, HJ1, BK396, HB⟩ := hcut
   cases kq with
   | zero => exact absurd HA.out (by simp [spec_l23Talker.j0])
   | succ kj1 =>
    have H := HA.out
    clear HA
    simp only [spec_l23Talker.j0] at H
    by_cases c15 : x36_1 = true
    ·subst c15
     rw [if_pos rfl] at H
     obtain rfl := Option.some.inj H
     go_wp2
     go_ret
     exact ⟨er_, hb_⟩
    ·replace c15 := Bool.eq_false_iff.mpr c15
     subst c15
     rw [if_neg (show ¬ (false = true) by decide)] at H
     have H' := Aside0.mk H
     clear H
     have hcz16_0 : wc.cell? ⟨gb396, 0, none⟩ = some (.slice A0_0 l0_0.length c0_0) := (blk_cell BK396.out 0).trans rfl
     have hcz16_1 : wc.cell? ⟨gb396, 1, none⟩ = some (.int .i64 a0_1) := (blk_cell BK396.out 1).trans rfl
     have hcz16_2 : wc.cell? ⟨gb396, 2, none⟩ = some (.int .i64 a0_2) := (blk_cell BK396.out 2).trans rfl
     have hcz16_3 : wc.cell? ⟨gb396, 3, none⟩ = some (.bool a0_3) := (blk_cell BK396.out 3).trans rfl
     have hfz16_0 := blk_frozen BK396.out 0
     have hfz16_1 := blk_frozen BK396.out 1
     have hfz16_2 := blk_frozen BK396.out 2
     have hfz16_3 := blk_frozen BK396.out 3
     go_wp2
     go_loopg [40] kj1 (fun kq v40 w' => ∃ (x40_2 : Int), v40 = .int .i64 x40_2 ∧ Aside0 (spec_l23Talker.l0 kq l0_0 (l0_0.length : Int) x40_2 = some r) ∧ Aside0 (kq ≤ kj1) ∧ Aside0 (w'.heap[gb396]? = some (.cells #[(.slice A0_0 l0_0.length c0_0), .int .i64 a0_1, .int .i64 a0_2, .bool a0_3] 66 (0, 0))) ∧ Aside0 (Below w.heap.size w w'))
     case atStart => exact ⟨(0), es_, H', ⟨Nat.le_refl _⟩, ⟨bk_ BK396.out⟩, ⟨hb_⟩⟩
     case round =>
      clear H'
      try clear c1
      try clear p2
      try clear c4
      try clear c4b0
      try clear c4b1
      try clear c6
      try clear c6b0
      try clear c8
      try clear c8b0
      try clear c10
      try clear c10b0
      try clear c12
      try clear c12b0
      try clear c15
      try clear hcz11_0
      try clear hcz11_1
      try clear hcz11_2
      try clear hcz11_3
      try clear hcz13_0
      try clear hcz13_1
      try clear hcz13_2
      try clear hcz13_3
      try clear hcz14_0
      try clear hcz14_1
      try clear hcz14_2
      try clear hcz14_3
      try clear hcz16_0
      try clear hcz16_1
      try clear hcz16_2
      try clear hcz16_3
      try clear hcz5_0
      try clear hcz5_1
      try clear hcz5_2
      try clear hcz5_3
      try clear hcz7_0
      try clear hcz7_1
      try clear hcz7_2
      try clear hcz7_3
      try clear hcz9_0
      try clear hcz9_1
      try clear hcz9_2
      try clear hcz9_3
      try clear hfz11_0
      try clear hfz11_1
      try clear hfz11_2
      try clear hfz11_3
      try clear hfz13_0
      try clear hfz13_1
      try clear hfz13_2
      try clear hfz13_3
      try clear hfz14_0
      try clear hfz14_1
      try clear hfz14_2
      try clear hfz14_3
      try clear hfz16_0
      try clear hfz16_1
      try clear hfz16_2
      try clear hfz16_3
      try clear hfz5_0
      try clear hfz5_1
      try clear hfz5_2
      try clear hfz5_3
      try clear hfz7_0
      try clear hfz7_1
      try clear hfz7_2
      try clear hfz7_3
      try clear hfz9_0
      try clear hfz9_1
      try clear hfz9_2
      try clear hfz9_3
      try clear p2
      obtain ⟨x40_2, rfl, HA, HK2, BK396, HB⟩ := hrel
      cases gk with
      | zero => exact absurd HA.out (by simp [spec_l23Talker.l0])
      | succ k2 =>
       have H := HA.out
       clear HA
       simp only [spec_l23Talker.l0] at H
       by_cases c17 : x40_2 < (l0_0.length : Int)
       ·rw [if_pos c17] at H
        have c17b0 : decide (x40_2 < (l0_0.length : Int)) = true := decide_eq_true c17
        clear c17
        by_cases c18 : 0 ≤ x40_2
        ·rw [if_pos c18] at H
         have c18b0 : decide (0 ≤ x40_2) = true := decide_eq_true c18
         clear c18
         by_cases c19 : x40_2 < (l0_0.length : Int)
         ·rw [if_pos c19] at H
          have c19b0 : decide (x40_2 < (l0_0.length : Int)) = true := decide_eq_true c19
          clear c19
          replace H := Option.bind_eq_some_iff.mp H
          obtain ⟨t399, A200, H⟩ := H
          replace H : (if t399 = true then (spec_l23Talker.l0 k2 l0_0 (l0_0.length : Int) (wrap64 (x40_2 + 1))) else (some false)) = some r := H
          have A20 := Aside0.mk A200
          clear A200
          by_cases c21 : t399 = true
          ·subst c21
           rw [if_pos rfl] at H
           have H' := Aside0.mk H
           clear H
           have p397 : 0 ≤ (x40_2 : Int) := of_decide_eq_true as_
           have q397 : x40_2 < (l0_0.length : Int) := of_decide_eq_true as_
           obtain ⟨ad397, A397_1, c397_1, e397, hx397_0, hx397_1, hl397_1, hi397_1⟩ := at_T27 HR0_0.out x40_2 p397 q397
           cases e397
           replace hx397_0 := hc_ HB hx397_0
           replace hx397_1 := hc_ HB hx397_1
           have HR397_1 := Aside0.mk hi397_1
           have HC397_1 := Aside0.mk hl397_1
           clear hi397_1 hl397_1
           replace p397 := eq_true p397
           replace q397 := eq_true q397
           go_wp2_with (first | ((with_reducible refine gate_dst (N := 4) rfl ?_); refine box_event ?hg (N := 4) ?hd (cs := #[.int .i64 0, .slice none 0 0]) (t := 27) ?hr ?_; (case hd => rfl); (case hg => rfl); (case hr => first | (go_simp; done) | (go_simp; rfl)); intro gb398 hg w22 hbox hb; have n0_ := bb_ BK396 hb; have n1_ := Aside0.mk (below_step hb_ hb); have n2_ := Aside0.mk (hbox); have n3_ : Aside0 (w.heap.size ≤ gb398) := gz_; have n4_ : Aside0 (w.heap.size ≤ gb398) := gz_; have n5_ := Aside0.mk ((by rw [hg]; exact Nat.ne_of_lt (blk_lt (g := gb396) (o := .cells #[.slice (some ad397) l0_0.length c0_0, .int .i64 a0_1, .int .i64 a0_2, .bool a0_3] 66 (0, 0)) (bk_ BK396.out)) : gb396 ≠ gb398)); have n6_ := Aside0.mk ((by rw [hg]; exact Nat.ne_of_gt (blk_lt (g := gb396) (o := .cells #[.slice (some ad397) l0_0.length c0_0, .int .i64 a0_1, .int .i64 a0_2, .bool a0_3] 66 (0, 0)) (bk_ BK396.out)) : gb398 ≠ gb396)); clear BK396; clear HB; have BK396 := n0_; have HB := n1_; have BK398 := n2_; have GW398 := n3_; have GE398 := n4_; have NB396_398 := n5_; have NB398_396 := n6_; clear n0_ n1_ n2_ n3_ n4_ n5_ n6_; clear hb hbox hg; have hnb23 := NB398_396.out; have hnc23 := NB396_398.out; have hcz24_0 : w22.cell? ⟨gb398, 0, none⟩ = some (.int .i64 0) := (blk_cell BK398.out 0).trans rfl; have hcz24_1 : w22.cell? ⟨gb398, 1, none⟩ = some (.slice none 0 0) := (blk_cell BK398.out 1).trans rfl; have hfz24_0 := blk_frozen BK398.out 0; have hfz24_1 := blk_frozen BK398.out 1) | ((with_reducible refine gate_callee (f := 9) rfl ?_); refine goesL_ (some 45) rfl rfl Try.func9 (by kernel_rfl) rfl #[.agg #[.int .i64 ((rd_T27 l0_0 x40_2).f0), .slice A397_1 ((rd_T27 l0_0 x40_2).f1).length c397_1]] rfl ls_ ?_; (with_reducible refine (spec_GoodFrame.calls ((rd_T27 l0_0 x40_2).f0) _ _ ((rd_T27 l0_0 x40_2).f1) true _ ?side1 ?side2 A20.out).mono ?_); (case side1 => exact Kd.C_below HR397_1.out hb_); (case side2 => exact HC397_1.out); rintro e w25 ⟨rfl, hb⟩; refine ⟨_, rfl, ?_⟩; have n0_ := Aside0.mk (blk_below (g := gb396) (o := .cells #[.slice (some ad397) l0_0.length c0_0, .int .i64 a0_1, .int .i64 a0_2, .bool a0_3] 66 (0, 0)) (by (with_reducible repeat (first | refine blk_drewN ?_ _ | refine blk_drew ?_ | refine blk_alloc ?_ _)); refine blk_far ?_ NB396_398.out _; (with_reducible repeat (first | refine blk_drewN ?_ _ | refine blk_drew ?_ | refine blk_alloc ?_ _)); refine blk_far ?_ NB396_398.out _; (with_reducible repeat (first | refine blk_drewN ?_ _ | refine blk_drew ?_ | refine blk_alloc ?_ _)); exact BK396.out) hb); have n1_ := Aside0.mk (blk_below (g := gb398) (o := .cells #[.int .i64 ((rd_T27 l0_0 x40_2).f0), .slice A397_1 ((rd_T27 l0_0 x40_2).f1).length c397_1] 27 (0, 0)) (by (with_reducible repeat (first | refine blk_drewN ?_ _ | refine blk_drew ?_ | refine blk_alloc ?_ _)); refine blk_put (cs := #[.int .i64 ((rd_T27 l0_0 x40_2).f0), .slice none 0 0]) ?_ 1 _ rfl; (with_reducible repeat (first | refine blk_drewN ?_ _ | refine blk_drew ?_ | refine blk_alloc ?_ _)); refine blk_put (cs := #[.int .i64 0, .slice none 0 0]) ?_ 0 _ rfl; (with_reducible repeat (first | refine blk_drewN ?_ _ | refine blk_drew ?_ | refine blk_alloc ?_ _)); exact BK398.out) hb); have n2_ := Aside0.mk (below_step hb_ hb); clear BK396; clear BK398; clear HB; have BK396 := n0_; have BK398 := n1_; have HB := n2_; clear n0_ n1_ n2_; (try clear hb); (try clear hb2); (try clear hk); (try clear hi)))
           go_roundg k2
           case measure => have := HJ1.out; have := HK2.out; omega
           case rel => exact ⟨(wrap64 (x40_2 + 1)), es_, H', ⟨by have := HJ1.out; have := HK2.out; omega⟩, ⟨bk_ BK396.out⟩, ⟨hb_⟩⟩
          ·replace c21 := Bool.eq_false_iff.mpr c21
           subst c21
           rw [if_neg (show ¬ (false = true) by decide)] at H
           obtain rfl := Option.some.inj H
           have p397 : 0 ≤ (x40_2 : Int) := of_decide_eq_true as_
           have q397 : x40_2 < (l0_0.length : Int) := of_decide_eq_true as_
           obtain ⟨ad397, A397_1, c397_1, e397, hx397_0, hx397_1, hl397_1, hi397_1⟩ := at_T27 HR0_0.out x40_2 p397 q397
           cases e397
           replace hx397_0 := hc_ HB hx397_0
           replace hx397_1 := hc_ HB hx397_1
           have HR397_1 := Aside0.mk hi397_1
           have HC397_1 := Aside0.mk hl397_1
           clear hi397_1 hl397_1
           replace p397 := eq_true p397
           replace q397 := eq_true q397
           go_wp2_with (first | ((with_reducible refine gate_dst (N := 4) rfl ?_); refine box_event ?hg (N := 4) ?hd (cs := #[.int .i64 0, .slice none 0 0]) (t := 27) ?hr ?_; (case hd => rfl); (case hg => rfl); (case hr => first | (go_simp; done) | (go_simp; rfl)); intro gb398 hg w26 hbox hb; have n0_ := bb_ BK396 hb; have n1_ := Aside0.mk (below_step hb_ hb); have n2_ := Aside0.mk (hbox); have n3_ : Aside0 (w.heap.size ≤ gb398) := gz_; have n4_ : Aside0 (w.heap.size ≤ gb398) := gz_; have n5_ := Aside0.mk ((by rw [hg]; exact Nat.ne_of_lt (blk_lt (g := gb396) (o := .cells #[.slice (some ad397) l0_0.length c0_0, .int .i64 a0_1, .int .i64 a0_2, .bool a0_3] 66 (0, 0)) (bk_ BK396.out)) : gb396 ≠ gb398)); have n6_ := Aside0.mk ((by rw [hg]; exact Nat.ne_of_gt (blk_lt (g := gb396) (o := .cells #[.slice (some ad397) l0_0.length c0_0, .int .i64 a0_1, .int .i64 a0_2, .bool a0_3] 66 (0, 0)) (bk_ BK396.out)) : gb398 ≠ gb396)); clear BK396; clear HB; have BK396 := n0_; have HB := n1_; have BK398 := n2_; have GW398 := n3_; have GE398 := n4_; have NB396_398 := n5_; have NB398_396 := n6_; clear n0_ n1_ n2_ n3_ n4_ n5_ n6_; clear hb hbox hg; have hnb27 := NB398_396.out; have hnc27 := NB396_398.out; have hcz28_0 : w26.cell? ⟨gb398, 0, none⟩ = some (.int .i64 0) := (blk_cell BK398.out 0).trans rfl; have hcz28_1 : w26.cell? ⟨gb398, 1, none⟩ = some (.slice none 0 0) := (blk_cell BK398.out 1).trans rfl; have hfz28_0 := blk_frozen BK398.out 0; have hfz28_1 := blk_frozen BK398.out 1) | ((with_reducible refine gate_callee (f := 9) rfl ?_); refine goesL_ (some 45) rfl rfl Try.func9 (by kernel_rfl) rfl #[.agg #[.int .i64 ((rd_T27 l0_0 x40_2).f0), .slice A397_1 ((rd_T27 l0_0 x40_2).f1).length c397_1]] rfl ls_ ?_; (with_reducible refine (spec_GoodFrame.calls ((rd_T27 l0_0 x40_2).f0) _ _ ((rd_T27 l0_0 x40_2).f1) false _ ?side1 ?side2 A20.out).mono ?_); (case side1 => exact Kd.C_below HR397_1.out hb_); (case side2 => exact HC397_1.out); rintro e w29 ⟨rfl, hb⟩; refine ⟨_, rfl, ?_⟩; have n0_ := Aside0.mk (blk_below (g := gb396) (o := .cells #[.slice (some ad397) l0_0.length c0_0, .int .i64 a0_1, .int .i64 a0_2, .bool a0_3] 66 (0, 0)) (by (with_reducible repeat (first | refine blk_drewN ?_ _ | refine blk_drew ?_ | refine blk_alloc ?_ _)); refine blk_far ?_ NB396_398.out _; (with_reducible repeat (first | refine blk_drewN ?_ _ | refine blk_drew ?_ | refine blk_alloc ?_ _)); refine blk_far ?_ NB396_398.out _; (with_reducible repeat (first | refine blk_drewN ?_ _ | refine blk_drew ?_ | refine blk_alloc ?_ _)); exact BK396.out) hb); have n1_ := Aside0.mk (blk_below (g := gb398) (o := .cells #[.int .i64 ((rd_T27 l0_0 x40_2).f0), .slice A397_1 ((rd_T27 l0_0 x40_2).f1).length c397_1] 27 (0, 0)) (by (with_reducible repeat (first | refine blk_drewN ?_ _ | refine blk_drew ?_ | refine blk_alloc ?_ _)); refine blk_put (cs := #[.int .i64 ((rd_T27 l0_0 x40_2).f0), .slice none 0 0]) ?_ 1 _ rfl; (with_reducible repeat (first | refine blk_drewN ?_ _ | refine blk_drew ?_ | refine blk_alloc ?_ _)); refine blk_put (cs := #[.int .i64 0, .slice none 0 0]) ?_ 0 _ rfl; (with_reducible repeat (first | refine blk_drewN ?_ _ | refine blk_drew ?_ | refine blk_alloc ?_ _)); exact BK398.out) hb); have n2_ := Aside0.mk (below_step hb_ hb); clear BK396; clear BK398; clear HB; have BK396 := n0_; have BK398 := n1_; have HB := n2_; clear n0_ n1_ n2_; (try clear hb); (try clear hb2); (try clear hk); (try clear hi)))
           go_ret
           exact ⟨er_, hb_⟩
         ·rw [if_neg c19] at H
          exact absurd H (by simp)
        ·rw [if_neg c18] at H
         exact absurd H (by simp)
       ·rw [if_neg c17] at H
        have c17b0 : decide (x40_2 < (l0_0.length : Int)) = false := decide_eq_false c17
        clear c17
        obtain rfl := Option.some.inj H
        go_wp2
        go_ret
        exact ⟨er_, hb_⟩

end Go.Proofs.Ytbdonoeellmeoaa.Pr
-- Written by this session's own print (wip/tools/mkmp.py) out of the translation. Lean checks it.
namespace Go.Proofs.Ytbdonoeellmeoaa.Pr
open Go.RowKit Go.Proofs.YtbdonoeellmeoaaW.PrintWords Go.Proofs.YtbdonoeellmeoaaW.PrintLast Go.Proofs.YtbdonoeellmeoaaW.PrintMore
attribute [local go_sem] max2_int min2_int max_two min_two max_three min_three max_four min_four   -- for this text's walks alone
set_option linter.unusedVariables false
set_option linter.unusedSimpArgs false

def spec_l23Frames.T5 : Bool × List (List Nat × List Nat) := (true, [([], []), ([], []), ([1], [1]), ([], []), ([], []), ([4], [4]), ([3, 5], [3, 5]), ([2, 6], [2, 6]), ([7], [7]), ([0, 8, 6], [0, 8]), ([9, 9, 0, 1, 2, 3, 4, 5, 6, 7, 8, 9], [0, 9])])
def spec_l23Frames.B5 : List Nat := [0, 0, 2, 0, 0, 16, 56, 126, 254, 511, 1023]
theorem spec_l23Frames.tab5 : rtab .any (opsOf Try.f47 5) = spec_l23Frames.T5 := by kernel_rfl
theorem spec_l23Frames.bits5 : waitsOk spec_l23Frames.T5.2 spec_l23Frames.B5 = true := by kernel_rfl
set_option maxHeartbeats 8000000 in
set_option maxRecDepth 100000 in
theorem spec_l23Frames.calls (k : Nat) (A0 : Option Addr) (c0 : Nat) (l0 : List (S27)) (r : List (S27)) (w : World) (hr0 : Kd.C k27 w A0 l0.length l0) (hc0 : l0.length ≤ c0) (h : spec_l23Frames.f k l0 = some r) :
   Calls Try.prog 47 #[.slice A0 l0.length c0] w fun e w' => ∃ v0_ : Value, e = .returned (v0_) ∧ Kd.S k27 27 w' w.heap.size (fun _ => True) v0_ r ∧ Below w.heap.size w w' := by
  have hu27 := Try.underlying27
  have HR0 := Aside0.mk hr0
  have HC0 := Aside0.mk hc0
  clear hr0 hc0
  have HB := Aside0.mk (Below.refl w.heap.size w)
  have H : (spec_l23Frames.l0 k ([] : List (S27)) l0 (l0.length : Int) 0) = some r := h
  clear h
  have H' := Aside0.mk H
  clear H
  go_enter Try.func47, Try.ntmps47
  go_wp2
  go_loopg [3, 8] k (fun kq v3 v8 w' => ∃ (x3_1 : List (S27)) (x8_1 : Int), v8 = .int .i64 x8_1 ∧ Aside0 (spec_l23Frames.l0 kq x3_1 l0 (l0.length : Int) x8_1 = some r) ∧ Aside0 (kq ≤ k) ∧ Aside0 (Kd.S k27 27 w' w.heap.size (fun _ => True) v3 x3_1) ∧ Aside0 (Below w.heap.size w w'))
  case atStart => exact ⟨(([] : List (S27))), (0), es_, H', ⟨Nat.le_refl _⟩, ⟨by first | exact Kd.S_nil _ _ _ _ _ | exact Kd.N_nil _ _ _ _ _ | exact Kd.V_nil _ _ _ _ _ | exact Kd.Q_nil _ _ _ _ _ | exact Kd.R_nil _ _ _ _ _⟩, ⟨hb_⟩⟩
  case round =>
   clear H'
   obtain ⟨x3_1, x8_1, rfl, HA, HK1, HO_3, HB⟩ := hrel
   cases gk with
   | zero => exact absurd HA.out (by simp [spec_l23Frames.l0])
   | succ k1 =>
    have H := HA.out
    clear HA
    simp only [spec_l23Frames.l0] at H
    by_cases c2 : x8_1 < (l0.length : Int)
    ·rw [if_pos c2] at H
     have c2b0 : decide (x8_1 < (l0.length : Int)) = true := decide_eq_true c2
     clear c2
     by_cases c3 : 0 ≤ x8_1
     ·rw [if_pos c3] at H
      have c3b0 : decide (0 ≤ x8_1) = true := decide_eq_true c3
      clear c3
      by_cases c4 : x8_1 < (l0.length : Int)
      ·rw [if_pos c4] at H
       have c4b0 : decide (x8_1 < (l0.length : Int)) = true := decide_eq_true c4
       clear c4
       obtain ⟨y402, hy402⟩ : ∃ y_ : List Int, y_ = (([] : List Int)) := ⟨_, rfl⟩
       replace H : (if y402.length + ((rd_T27 l0 x8_1).f1).length < 140737488355328 then (if x3_1.length < 4398046511104 then (spec_l23Frames.l0 k1 (x3_1 ++ [(⟨(rd_T27 l0 x8_1).f0, (y402 ++ ((rd_T27 l0 x8_1).f1))⟩ : S27)]) l0 (l0.length : Int) (wrap64 (x8_1 + 1))) else (none)) else (none)) = some r := by first | (rw [hy402]; with_reducible exact H) | (have H2_ := (Option.bind_some _ _).symm.trans H; rw [hy402]; with_reducible exact H2_) | (have H2_ := (Option.bind_some _ _).symm.trans H; with_reducible exact H2_) | with_reducible exact H | (rw [hy402]; exact H) | exact H
       have Ny402 := Aside0.mk hy402
       clear hy402
       by_cases c5 : y402.length + ((rd_T27 l0 x8_1).f1).length < 140737488355328
       ·rw [if_pos c5] at H
        have LMc5 := Aside0.mk c5
        clear c5
        obtain ⟨y405, hy405⟩ : ∃ y_ : List Int, y_ = (y402 ++ ((rd_T27 l0 x8_1).f1)) := ⟨_, rfl⟩
        replace H : (if x3_1.length < 4398046511104 then (spec_l23Frames.l0 k1 (x3_1 ++ [(⟨(rd_T27 l0 x8_1).f0, y405⟩ : S27)]) l0 (l0.length : Int) (wrap64 (x8_1 + 1))) else (none)) = some r := by first | (rw [hy405]; with_reducible exact H) | (have H2_ := (Option.bind_some _ _).symm.trans H; rw [hy405]; with_reducible exact H2_) | (have H2_ := (Option.bind_some _ _).symm.trans H; with_reducible exact H2_) | with_reducible exact H | (rw [hy405]; exact H) | exact H
        have Ny405 := Aside0.mk hy405
        clear hy405
        by_cases c6 : x3_1.length < 4398046511104
        ·rw [if_pos c6] at H
         have LMc6 := Aside0.mk c6
         clear c6
         obtain ⟨y408, hy408⟩ : ∃ y_ : List (S27), y_ = (x3_1 ++ [(⟨(rd_T27 l0 x8_1).f0, y405⟩ : S27)]) := ⟨_, rfl⟩
         replace H : (spec_l23Frames.l0 k1 y408 l0 (l0.length : Int) (wrap64 (x8_1 + 1))) = some r := by first | (rw [hy408]; with_reducible exact H) | (have H2_ := (Option.bind_some _ _).symm.trans H; rw [hy408]; with_reducible exact H2_) | (have H2_ := (Option.bind_some _ _).symm.trans H; with_reducible exact H2_) | with_reducible exact H | (rw [hy408]; exact H) | exact H
         have Ny408 := Aside0.mk hy408
         clear hy408
         have H' := Aside0.mk H
         clear H
         have p400 : 0 ≤ (x8_1 : Int) := of_decide_eq_true as_
         have q400 : x8_1 < (l0.length : Int) := of_decide_eq_true as_
         obtain ⟨ad400, A400_1, c400_1, e400, hx400_0, hx400_1, hl400_1, hi400_1⟩ := at_T27 HR0.out x8_1 p400 q400
         cases e400
         replace hx400_0 := hc_ HB hx400_0
         replace hx400_1 := hc_ HB hx400_1
         have HR400_1 := Aside0.mk hi400_1
         have HC400_1 := Aside0.mk hl400_1
         clear hi400_1 hl400_1
         replace p400 := eq_true p400
         replace q400 := eq_true q400
         try go_wp2_with (first | ((with_reducible refine gate_dst (N := 5) rfl ?_); refine box_event ?hg (N := 5) ?hd (cs := #[.int .i64 0, .slice none 0 0]) (t := 27) ?hr ?_; (case hd => rfl); (case hg => rfl); (case hr => first | (go_simp; done) | (go_simp; rfl)); intro gb401 hg w7 hbox hb; have n0_ := Aside0.mk (Kd.S_below (Kd.S_elderB (sa_ HO_3.out) gb401 (Nat.le_of_eq hg.symm)) hb); have n1_ := Aside0.mk (below_step hb_ hb); have n2_ := Aside0.mk (hbox); have n3_ : Aside0 (w.heap.size ≤ gb401) := gz_; have n4_ : Aside0 (w.heap.size ≤ gb401) := gz_; clear HO_3; clear HB; have HO_3 := n0_; have HB := n1_; have BK401 := n2_; have GW401 := n3_; have GE401 := n4_; clear n0_ n1_ n2_ n3_ n4_; clear hb hbox hg; have hcz8_0 : w7.cell? ⟨gb401, 0, none⟩ = some (.int .i64 0) := (blk_cell BK401.out 0).trans rfl; have hcz8_1 : w7.cell? ⟨gb401, 1, none⟩ = some (.slice none 0 0) := (blk_cell BK401.out 1).trans rfl; have hfz8_0 := blk_frozen BK401.out 0; have hfz8_1 := blk_frozen BK401.out 1))
         have n0_ : Aside0 (Kd.S k27 27 ((w7.setCell ⟨gb401, 0, none⟩ (.int .i64 ((rd_T27 l0 x8_1).f0))).setCell ⟨gb401, 1, none⟩ (.slice A400_1 ((rd_T27 l0 x8_1).f1).length c400_1)) w.heap.size (fun k_ => k_ ≠ gb401) u3 x3_1) := ⟨by (with_reducible repeat (first | apply Kd.S_alloc | apply Kd.S_drewN | apply Kd.S_drew)); exact Kd.S_mono (Kd.S_far (p := ⟨gb401, 1, none⟩) (Kd.S_far (p := ⟨gb401, 0, none⟩) (Kd.S_mono HO_3.out (fun k_ hk => (⟨hk, hk.2⟩ : _ ∧ k_ ≠ gb401))) (fun _ hk => hk.2) (.int .i64 ((rd_T27 l0 x8_1).f0))) (fun _ hk => hk.2) (.slice A400_1 ((rd_T27 l0 x8_1).f1).length c400_1)) (fun _ hk => hk.1.2)⟩
         have n1_ : Aside0 (((w7.setCell ⟨gb401, 0, none⟩ (.int .i64 ((rd_T27 l0 x8_1).f0))).setCell ⟨gb401, 1, none⟩ (.slice A400_1 ((rd_T27 l0 x8_1).f1).length c400_1)).heap[gb401]? = some (.cells #[.int .i64 ((rd_T27 l0 x8_1).f0), .slice A400_1 ((rd_T27 l0 x8_1).f1).length c400_1] 27 (0, 0))) := ⟨by (with_reducible repeat (first | refine blk_drewN ?_ _ | refine blk_drew ?_ | refine blk_alloc ?_ _)); refine blk_put (cs := #[.int .i64 ((rd_T27 l0 x8_1).f0), .slice none 0 0]) ?_ 1 _ rfl; (with_reducible repeat (first | refine blk_drewN ?_ _ | refine blk_drew ?_ | refine blk_alloc ?_ _)); refine blk_put (cs := #[.int .i64 0, .slice none 0 0]) ?_ 0 _ rfl; (with_reducible repeat (first | refine blk_drewN ?_ _ | refine blk_drew ?_ | refine blk_alloc ?_ _)); exact BK401.out⟩
         have n2_ : Aside0 (Below w.heap.size w ((w7.setCell ⟨gb401, 0, none⟩ (.int .i64 ((rd_T27 l0 x8_1).f0))).setCell ⟨gb401, 1, none⟩ (.slice A400_1 ((rd_T27 l0 x8_1).f1).length c400_1))) := ⟨hb_⟩
         (try clear HO_3)
         (try clear BK401)
         (try clear HB)
         generalize ((w7.setCell ⟨gb401, 0, none⟩ (.int .i64 ((rd_T27 l0 x8_1).f0))).setCell ⟨gb401, 1, none⟩ (.slice A400_1 ((rd_T27 l0 x8_1).f1).length c400_1)) = w9 at n0_ n1_ n2_ ⊢
         have HO_3 := n0_
         have BK401 := n1_
         have HB := n2_
         clear n0_ n1_ n2_
         have n0_ := Aside0.mk (Kd.S_drew HO_3.out)
         have n1_ := Aside0.mk (blk_drew BK401.out)
         have n2_ := Aside0.mk (below_drew1 HB.out)
         clear HO_3
         clear BK401
         clear HB
         have HO_3 := n0_
         have BK401 := n1_
         have HB := n2_
         clear n0_ n1_ n2_
         refine start_ (n := 11) (S := fun w' => w'.cell? ⟨gb401, 0, none⟩ = some (.int .i64 ((rd_T27 l0 x8_1).f0)) ∧ w'.cell? ⟨gb401, 1, none⟩ = some (.slice A400_1 ((rd_T27 l0 x8_1).f1).length c400_1)) (ds := []) #[false, false, false, false, false, false, false, false, false, false, false] (by kernel_rfl) rfl rfl ⟨(blk_cell BK401.out 0).trans rfl, (blk_cell BK401.out 1).trans rfl⟩ (fun hHeld => ?_); refine with_tabW spec_l23Frames.tab5 spec_l23Frames.bits5 (fun HT_ HW_ => ?_)
         generalize w9.drew = w10 at HO_3 BK401 HB hHeld ⊢
         refine pure_ (i := 0) (N := some 12) (v := ?_) (a' := ?_) #[true, false, false, false, false, false, false, false, false, false, false] rfl rfl (any_of HT_.out (by kernel_rfl)) (fun _ _ _ h => h) (Or.inl ⟨by rfl, ?_⟩) ?_ ?_
         rotate_left
         ·intro w'
          go_simp
          with_reducible rfl
         rotate_left
         ·simp only [Act.put, List.setIfInBounds_toArray, List.set_cons_zero, List.set_cons_succ, i64_w, i32_w]
          rfl
         refine pure_ (i := 1) (N := some 13) (v := ?_) (a' := ?_) #[true, true, false, false, false, false, false, false, false, false, false] rfl rfl (any_of HT_.out (by kernel_rfl)) (fun _ _ _ h => h) (Or.inl ⟨by rfl, ?_⟩) ?_ ?_
         rotate_left
         ·intro w'
          go_simp
          with_reducible rfl
         rotate_left
         ·simp only [Act.put, List.setIfInBounds_toArray, List.set_cons_zero, List.set_cons_succ, i64_w, i32_w]
          rfl
         refine pure_ (i := 4) (N := some 16) (v := ?_) (a' := ?_) #[true, true, false, false, true, false, false, false, false, false, false] rfl rfl (any_of HT_.out (by kernel_rfl)) (fun _ _ _ h => h) (Or.inl ⟨by rfl, ?_⟩) ?_ ?_
         rotate_left
         ·intro w'
          go_simp
          with_reducible rfl
         rotate_left
         ·simp only [Act.put, List.setIfInBounds_toArray, List.set_cons_zero, List.set_cons_succ, i64_w, i32_w]
          rfl
         refine take_ (i := 2) (N := some 14) (v := ?_) (a' := ?_) #[true, true, true, false, true, false, false, false, false, false, false] rfl rfl (take_ofW HT_.out HW_.out (by kernel_rfl)) (fun _ _ _ h => h) (Or.inl ⟨by rfl, ?_⟩) hHeld ?_ ?_
         rotate_left
         ·rintro w' ⟨s0, s1⟩
          go_simp
          with_reducible rfl
         rotate_left
         ·simp only [Act.put, List.setIfInBounds_toArray, List.set_cons_zero, List.set_cons_succ, i64_w, i32_w]
          rfl
         refine take_ (i := 5) (N := some 17) (v := ?_) (a' := ?_) #[true, true, true, false, true, true, false, false, false, false, false] rfl rfl (take_ofW HT_.out HW_.out (by kernel_rfl)) (fun _ _ _ h => h) (Or.inl ⟨by rfl, ?_⟩) hHeld ?_ ?_
         rotate_left
         ·rintro w' ⟨s0, s1⟩
          go_simp
          with_reducible rfl
         rotate_left
         ·simp only [Act.put, List.setIfInBounds_toArray, List.set_cons_zero, List.set_cons_succ, i64_w, i32_w]
          rfl
         refine one_ (i := 3) (N := some 15) #[true, true, true, true, true, true, false, false, false, false, false] rfl rfl (one_of HT_.out (by kernel_rfl)) (by decide) (fun K hK => ?_)
         refine Kd.R_lit_step (Kd.int .u8) _ 5 ?hg (N := 15) ?hd (xs := ([] : List Int)) (inner := []) (ok := fun _ => True) (okp := fun _ => True) ?hr ?hp (fun _ hk => hk) trivial (Below.refl _ _) (Nat.le_refl _) (by simp) ?_; (case hd => rfl); (case hg => rfl); (case hr => first | (go_simp; done) | (go_simp; rfl)); (case hp => exact (Reps.none _ _))
         intro v403 w11 ho12 hb hg_ hnew_
         clear hg_ hnew_
         (first | rw [← Ny402.out] at ho12 | (simp only [Int.reduceToNat] at ho12; rw [← Ny402.out] at ho12))
         have n0_ := Aside0.mk (Kd.S_elder' (sa_ HO_3.out) (Kd.R_base ho12) hb)
         have n1_ := Aside0.mk (Kd.R_lower ho12 (below_size hb_))
         have n2_ := bb_ BK401 hb
         have n3_ := Aside0.mk (below_step hb_ hb)
         clear HO_3
         clear BK401
         clear HB
         have HO_3 := n0_
         have HO404 := n1_
         have BK401 := n2_
         have HB := n3_
         clear n0_ n1_ n2_ n3_
         clear hb ho12
         refine hK.out _ _ ⟨(blk_cell BK401.out 0).trans rfl, (blk_cell BK401.out 1).trans rfl⟩ (fun hHeld => ?_)
         clear hK K
         refine norm_ (a' := ?_) ?_ ?_
         rotate_left
         ·show Act.put _ (some 15) _ = _
          simp only [Act.put, List.setIfInBounds_toArray, List.set_cons_zero, List.set_cons_succ, i64_w, i32_w]
          rfl
         refine one_ (i := 6) (N := some 18) #[true, true, true, true, true, true, true, false, false, false, false] rfl rfl (one_of HT_.out (by kernel_rfl)) (by decide) (fun K hK => ?_)
         refine Kd.R_append_rows_step (Kd.int .u8) (w0 := w) w.heap.size (by rfl) (.tmp 15) (.tmp 17) 22 5 (.int .u8 0) 1 rfl Try.underlying22 info5 rfl (by decide) (by omega) v403 y402 ((rd_T27 l0 x8_1).f1) _ _ _ (fun _ => True) (fun _ => False) rfl rfl ?aO ?aR (fun _ _ h => h) (fun _ h => h.elim) ?aF ?aB ?aS ?aL ?_
         (case aR => exact cb_ HR400_1.out)
         (case aB => exact hb_)
         (case aF => exact (fun _ _ => trivial))
         (case aO => exact (ra_ HO404.out))
         (case aS => exact (below_size hb_))
         (case aL => have := LMc5.out; omega)
         intro v406 w13 ho hb hg hat
         rw [← Ny405.out] at ho
         have n0_ := Aside0.mk (Kd.S_after (ok := (fun k_ => k_ ≠ gb401)) (sa_ HO_3.out) hg hat)
         have n1_ := Aside0.mk (blk_grown (g := gb401) (o := .cells #[.int .i64 ((rd_T27 l0 x8_1).f0), .slice A400_1 ((rd_T27 l0 x8_1).f1).length c400_1] 27 (0, 0)) (bk_ BK401.out) hg (Kd.R_ne HO404.out BK401.out (by decide)))
         have n2_ := Aside0.mk (hb)
         have n3_ := Aside0.mk (ho)
         clear HO_3
         clear BK401
         clear HB
         clear HO404
         have HO_3 := n0_
         have BK401 := n1_
         have HB := n2_
         have HO407 := n3_
         clear n0_ n1_ n2_ n3_
         clear ho hb hg hat
         obtain ⟨Ao14, co14, eo14⟩ := Kd.R_slice HO407.out
         (first | subst eo14 | (injection eo14 with f1_ f2_ f3_; have f4_ := f1_.symm; have f5_ := f3_.symm; clear f1_ f2_ f3_; subst f4_; subst f5_))
         refine hK.out _ _ ⟨(blk_cell BK401.out 0).trans rfl, (blk_cell BK401.out 1).trans rfl⟩ (fun hHeld => ?_)
         clear hK K
         refine norm_ (a' := ?_) ?_ ?_
         rotate_left
         ·show Act.put _ (some 18) _ = _
          simp only [Act.put, List.setIfInBounds_toArray, List.set_cons_zero, List.set_cons_succ, i64_w, i32_w]
          rfl
         refine pure_ (i := 7) (N := some 19) (v := ?_) (a' := ?_) #[true, true, true, true, true, true, true, true, false, false, false] rfl rfl (any_of HT_.out (by kernel_rfl)) (fun _ _ _ h => h) (Or.inl ⟨by rfl, ?_⟩) ?_ ?_
         rotate_left
         ·intro w'
          go_simp
          with_reducible rfl
         rotate_left
         ·simp only [Act.put, List.setIfInBounds_toArray, List.set_cons_zero, List.set_cons_succ, i64_w, i32_w]
          rfl
         refine one_ (i := 8) (N := some 20) #[true, true, true, true, true, true, true, true, true, false, false] rfl rfl (one_of HT_.out (by kernel_rfl)) (by decide) (fun K hK => ?_)
         refine value_ (w1 := ?_) (v := ?_) (by rfl) rfl ?_ ?_
         rotate_left 2
         ·go_simp
          constructor
          ·rfl
          ·rfl
         refine hK.out _ _ ⟨(blk_cell (blk_alloc BK401.out _) 0).trans rfl, (blk_cell (blk_alloc BK401.out _) 1).trans rfl⟩ (fun hHeld => ?_)
         clear hK K
         refine norm_ (a' := ?_) ?_ ?_
         rotate_left
         ·show Act.put _ (some 20) _ = _
          simp only [Act.put, List.setIfInBounds_toArray, List.set_cons_zero, List.set_cons_succ, i64_w, i32_w]
          rfl
         refine one_ (i := 9) (N := some 21) #[true, true, true, true, true, true, true, true, true, true, false] rfl rfl (one_of HT_.out (by kernel_rfl)) (by decide) (fun K hK => ?_)
         refine Kd.S_append_step k27 (w0 := w) w.heap.size (by rfl) (.tmp 12) (.tmp 20) 64 27 (.agg #[(.int .i64 0), (.slice none 0 0)]) 32 rfl Try.underlying64 info27 rfl (by decide) (by omega) u3 x3_1 (⟨(rd_T27 l0 x8_1).f0, y405⟩ : S27) [.int .i64 ((rd_T27 l0 x8_1).f0), .slice Ao14 y405.length co14] (fun k_ => k_ ≠ gb401) (fun k_ => some k_ = (.slice Ao14 y405.length co14 : Value).ownBlock) rfl rfl ?aP (fun k_ hk_ => ((Kd.R_mono (ok' := fun k_ => ((fun k_ => k_ ≠ gb401)) k_ ∧ some k_ ≠ (u3 : Value).ownBlock) (Kd.R_types (Kd.R_apart' (HO407.out) (Kd.S_typed HO_3.out) (by decide)) BK401.out (by decide)) (fun k_ hk => ⟨hk.2, hk.1.2⟩))).1 k_ hk_.symm) ?aF ?aO ?aB ?aS ?aL ?_
         (case aP => exact k27_mkM _ _ _ (⟨(rd_T27 l0 x8_1).f0, y405⟩ : S27) (Kd.R_mono (Kd.R_tight rfl (Kd.R_mono (ok' := fun k_ => ((fun k_ => k_ ≠ gb401)) k_ ∧ some k_ ≠ (u3 : Value).ownBlock) (Kd.R_types (Kd.R_apart' (HO407.out) (Kd.S_typed HO_3.out) (by decide)) BK401.out (by decide)) (fun k_ hk => ⟨hk.2, hk.1.2⟩))) (fun _ h_ => h_)))
         (case aB => exact hb_)
         (case aF => exact (fun k_ hk => Kd.freshB (g := gb401) (o := .cells #[.int .i64 ((rd_T27 l0 x8_1).f0), .slice A400_1 ((rd_T27 l0 x8_1).f1).length c400_1] 27 (0, 0)) (bk_ BK401.out) k_ hk))
         (case aO => exact (by (with_reducible repeat (first | apply Kd.S_alloc | apply Kd.S_drewN | apply Kd.S_drew)); exact Kd.S_mono HO_3.out (fun k_ hk => ⟨hk.1, fun e_ => hk.2 e_⟩)))
         (case aS => exact (below_size hb_))
         (case aL => have := LMc6.out; omega)
         intro v409 w15 ho hb hg hat
         rw [← Ny408.out] at ho
         have n0_ := Aside0.mk (blk_grown (g := gb401) (o := .cells #[.int .i64 ((rd_T27 l0 x8_1).f0), .slice A400_1 ((rd_T27 l0 x8_1).f1).length c400_1] 27 (0, 0)) (bk_ BK401.out) hg (Kd.S_away HO_3.out (fun _ hk => hk.1)))
         have n1_ := Aside0.mk (hb)
         have n2_ := Aside0.mk (ho)
         clear BK401
         clear HB
         clear HO_3
         clear HO407
         have BK401 := n0_
         have HB := n1_
         have HO410 := n2_
         clear n0_ n1_ n2_
         clear ho hb hg hat
         refine hK.out _ _ ⟨(blk_cell BK401.out 0).trans rfl, (blk_cell BK401.out 1).trans rfl⟩ (fun hHeld => ?_)
         clear hK K
         refine norm_ (a' := ?_) ?_ ?_
         rotate_left
         ·show Act.put _ (some 21) _ = _
          simp only [Act.put, List.setIfInBounds_toArray, List.set_cons_zero, List.set_cons_succ, i64_w, i32_w]
          rfl
         refine pure_ (i := 10) (N := some 3) (v := ?_) (a' := ?_) #[true, true, true, true, true, true, true, true, true, true, true] rfl rfl (any_of HT_.out (by kernel_rfl)) (fun _ _ _ h => h) (Or.inl ⟨by rfl, ?_⟩) ?_ ?_
         rotate_left
         ·intro w'
          go_simp
          with_reducible rfl
         rotate_left
         ·simp only [Act.put, List.setIfInBounds_toArray, List.set_cons_zero, List.set_cons_succ, i64_w, i32_w]
          rfl
         refine done_ (done_of HT_.out (by kernel_rfl)) ?_
         try go_wp2
         go_roundg k1
         case measure => have := HK1.out; omega
         case rel => exact ⟨(y408), (wrap64 (x8_1 + 1)), es_, H', ⟨by have := HK1.out; omega⟩, ⟨by (with_reducible repeat (first | apply Kd.S_alloc | apply Kd.S_drewN | apply Kd.S_drew)); exact Kd.S_mono HO410.out (fun _ hk => trivial)⟩, ⟨hb_⟩⟩
        ·rw [if_neg c6] at H
         exact absurd H (by simp)
       ·rw [if_neg c5] at H
        exact absurd H (by simp)
      ·rw [if_neg c4] at H
       exact absurd H (by simp)
     ·rw [if_neg c3] at H
      exact absurd H (by simp)
    ·rw [if_neg c2] at H
     have c2b0 : decide (x8_1 < (l0.length : Int)) = false := decide_eq_false c2
     clear c2
     obtain rfl := Option.some.inj H
     go_wp2
     go_ret
     exact ⟨_, er_, by (with_reducible repeat (first | apply Kd.S_alloc | apply Kd.S_drewN | apply Kd.S_drew)); exact HO_3.out, hb_⟩

end Go.Proofs.Ytbdonoeellmeoaa.Pr
