-- Written by this session's own print (wip/tools/mkmp.py) out of the translation. Lean checks it.
import Derived.Test.YtdihodboopeakaaDoorPr0
import Derived.Test.YtdihodboopeakaaDoorPrd2
import Derived.Test.YtdihodboopeakaaDoorOw
namespace Go.Proofs.YtdihodboopeakaaDoor.Pr
open Go.RowKit Go.Proofs.YtdihodboopeakaaDoorW.PrintWords Go.Proofs.YtdihodboopeakaaDoorW.PrintLast Go.Proofs.YtdihodboopeakaaDoorW.PrintMore
attribute [local go_sem] max2_int min2_int max_two min_two max_three min_three max_four min_four   -- for this text's walks alone
set_option linter.unusedVariables false
set_option linter.unusedSimpArgs false

set_option maxHeartbeats 8000000 in
set_option maxRecDepth 100000 in
theorem impl_GoodBoard.calls (k : Nat) (A0_0 : Option Addr) (c0_0 : Nat) (l0_0 : List ByteArray) (A0_1 : Option Addr) (c0_1 : Nat) (l0_1 : List Bool) (A0_2 : Option Addr) (c0_2 : Nat) (l0_2 : List (List Int)) (r : Bool) (w : World) (hr0_0 : Kd.C Kd.string w A0_0 l0_0.length l0_0) (hc0_0 : l0_0.length ≤ c0_0) (hr0_1 : Kd.C Kd.bool w A0_1 l0_1.length l0_1) (hc0_1 : l0_1.length ≤ c0_1) (hr0_2 : Kd.C (Kd.slice 3 (Kd.int .i64)) w A0_2 l0_2.length l0_2) (hc0_2 : l0_2.length ≤ c0_2) (h : impl_GoodBoard.f k l0_0 l0_1 l0_2 = some r) (ht_ : Tabs w := by exact tb_ HT_) :
   Calls Tryd.prog 28 #[.agg #[.slice A0_0 l0_0.length c0_0, .slice A0_1 l0_1.length c0_1, .slice A0_2 l0_2.length c0_2]] w fun e w' => e = .returned (.bool r) ∧ Below w.heap.size w w' := by
  have HT_ := Aside0.mk ht_
  clear ht_
  have hu34 := Tryd.underlying34
  have HR0_0 := Aside0.mk hr0_0
  have HC0_0 := Aside0.mk hc0_0
  clear hr0_0 hc0_0
  have HR0_1 := Aside0.mk hr0_1
  have HC0_1 := Aside0.mk hc0_1
  clear hr0_1 hc0_1
  have HR0_2 := Aside0.mk hr0_2
  have HC0_2 := Aside0.mk hc0_2
  clear hr0_2 hc0_2
  have HB := Aside0.mk (Below.refl w.heap.size w)
  have H : (if (l0_0.length : Int) < 1 then (impl_GoodBoard.j0 k (l0_0.length : Int) true l0_0 l0_1 l0_2) else (if (l0_0.length : Int) > 14 then (impl_GoodBoard.j0 k (l0_0.length : Int) true l0_0 l0_1 l0_2) else (if (l0_1.length : Int) = (l0_0.length : Int) then (impl_GoodBoard.j0 k (l0_0.length : Int) ((l0_2.length : Int) != (l0_0.length : Int)) l0_0 l0_1 l0_2) else (impl_GoodBoard.j0 k (l0_0.length : Int) true l0_0 l0_1 l0_2)))) = some r := h
  clear h
  have HC2 := Aside0.mk H
  clear H
  go_enter Tryd.func28, Tryd.ntmps28
  go_upto_region 2 with (first | ((with_reducible refine gate_dst (N := 1) rfl ?_); (try (refine gate_guard (by rfl) ?_; dsimp only)); refine box_event ?hg (N := 1) ?hd (cs := #[.slice A0_0 l0_0.length c0_0, .slice A0_1 l0_1.length c0_1, .slice A0_2 l0_2.length c0_2]) (t := 34) ?hr ?_; (case hd => rfl); (case hg => rfl); (case hr => first | (go_simp; done) | (go_simp; rfl)); intro gb168 hg w3 hbox hb; have n0_ := Aside0.mk (below_step hb_ hb); have n1_ := Aside0.mk (hbox); have n2_ : Aside0 (w.heap.size ≤ gb168) := gz_; have n3_ : Aside0 (w.heap.size ≤ gb168) := gz_; clear HB; have HB := n0_; have BK168 := n1_; have GW168 := n2_; have GE168 := n3_; clear n0_ n1_ n2_ n3_; clear hb hbox hg; have hcz4_0 : w3.cell? ⟨gb168, 0, none⟩ = some (.slice A0_0 l0_0.length c0_0) := (blk_cell BK168.out 0).trans rfl; have hcz4_1 : w3.cell? ⟨gb168, 1, none⟩ = some (.slice A0_1 l0_1.length c0_1) := (blk_cell BK168.out 1).trans rfl; have hcz4_2 : w3.cell? ⟨gb168, 2, none⟩ = some (.slice A0_2 l0_2.length c0_2) := (blk_cell BK168.out 2).trans rfl; have hfz4_0 := blk_frozen BK168.out 0; have hfz4_1 := blk_frozen BK168.out 1; have hfz4_2 := blk_frozen BK168.out 2))
  (try simp only [Act.put, List.setIfInBounds_toArray, List.set_cons_zero, List.set_cons_succ])
  go_cut [30] (fun v30 wc => ∃ (kq : Nat) (x30_1 : Bool), v30 = .bool x30_1 ∧ Aside0 (impl_GoodBoard.j0 kq (l0_0.length : Int) x30_1 l0_0 l0_1 l0_2 = some r) ∧ Aside0 (kq ≤ k) ∧ Aside0 (wc.heap[gb168]? = some (.cells #[(.slice A0_0 l0_0.length c0_0), (.slice A0_1 l0_1.length c0_1), (.slice A0_2 l0_2.length c0_2)] 34 (0, 0))) ∧ Aside0 (Below w.heap.size w wc))
  case first =>
   have H := HC2.out
   clear HC2
   by_cases c5 : (l0_0.length : Int) < 1
   ·rw [if_pos c5] at H
    have c5b0 : decide ((l0_0.length : Int) < 1) = true := decide_eq_true c5
    have c5b1 : decide (l0_0.length < 1) = true := decide_eq_true (by omega)
    clear c5
    (first | rw [c5b0] | (simp only [i64_w, i32_w]; rw [c5b0]) | skip)
    have H' := Aside0.mk H
    clear H
    go_wp2
    go_meet
    case rel => exact ⟨_, (true), es_, H', ⟨by first | omega | exact Nat.le_refl _⟩, ⟨bk_ BK168.out⟩, ⟨hb_⟩⟩
   ·rw [if_neg c5] at H
    have c5b0 : decide ((l0_0.length : Int) < 1) = false := decide_eq_false c5
    have c5b1 : decide (l0_0.length < 1) = false := decide_eq_false (by omega)
    clear c5
    (first | rw [c5b0] | (simp only [i64_w, i32_w]; rw [c5b0]) | skip)
    by_cases c6 : (l0_0.length : Int) > 14
    ·rw [if_pos c6] at H
     have c6b0 : decide (14 < (l0_0.length : Int)) = true := decide_eq_true c6
     have c6b1 : decide (14 < l0_0.length) = true := decide_eq_true (by omega)
     clear c6
     have H' := Aside0.mk H
     clear H
     go_wp2
     go_meet
     case rel => exact ⟨_, (true), es_, H', ⟨by first | omega | exact Nat.le_refl _⟩, ⟨bk_ BK168.out⟩, ⟨hb_⟩⟩
    ·rw [if_neg c6] at H
     have c6b0 : decide (14 < (l0_0.length : Int)) = false := decide_eq_false c6
     have c6b1 : decide (14 < l0_0.length) = false := decide_eq_false (by omega)
     clear c6
     by_cases c7 : (l0_1.length : Int) = (l0_0.length : Int)
     ·rw [if_pos c7] at H
      have c7b0 : ((l0_1.length : Int) == (l0_0.length : Int)) = true := beq_iff_eq.mpr c7
      have c7b1 : ((l0_1.length : Int) != (l0_0.length : Int)) = false := bne_eq_false_iff_eq.mpr c7
      have c7b2 : (l0_1.length == l0_0.length) = true := by first | simpa using c7 | (simp at c7 ⊢; omega)
      clear c7
      have H' := Aside0.mk H
      clear H
      have hcz8_0 : w3.cell? ⟨gb168, 0, none⟩ = some (.slice A0_0 l0_0.length c0_0) := (blk_cell BK168.out 0).trans rfl
      have hcz8_1 : w3.cell? ⟨gb168, 1, none⟩ = some (.slice A0_1 l0_1.length c0_1) := (blk_cell BK168.out 1).trans rfl
      have hcz8_2 : w3.cell? ⟨gb168, 2, none⟩ = some (.slice A0_2 l0_2.length c0_2) := (blk_cell BK168.out 2).trans rfl
      have hfz8_0 := blk_frozen BK168.out 0
      have hfz8_1 := blk_frozen BK168.out 1
      have hfz8_2 := blk_frozen BK168.out 2
      go_wp2
      go_meet
      case rel => exact ⟨_, (((l0_2.length : Int) != (l0_0.length : Int))), es_, H', ⟨by first | omega | exact Nat.le_refl _⟩, ⟨bk_ BK168.out⟩, ⟨hb_⟩⟩
     ·rw [if_neg c7] at H
      have c7b0 : ((l0_1.length : Int) == (l0_0.length : Int)) = false := beq_eq_false_iff_ne.mpr c7
      have c7b1 : ((l0_1.length : Int) != (l0_0.length : Int)) = true := bne_iff_ne.mpr c7
      have c7b2 : (l0_1.length == l0_0.length) = false := by first | simpa using c7 | (simp at c7 ⊢; omega)
      have H' := Aside0.mk H
      clear H
      have hcz9_0 : w3.cell? ⟨gb168, 0, none⟩ = some (.slice A0_0 l0_0.length c0_0) := (blk_cell BK168.out 0).trans rfl
      have hcz9_1 : w3.cell? ⟨gb168, 1, none⟩ = some (.slice A0_1 l0_1.length c0_1) := (blk_cell BK168.out 1).trans rfl
      have hcz9_2 : w3.cell? ⟨gb168, 2, none⟩ = some (.slice A0_2 l0_2.length c0_2) := (blk_cell BK168.out 2).trans rfl
      have hfz9_0 := blk_frozen BK168.out 0
      have hfz9_1 := blk_frozen BK168.out 1
      have hfz9_2 := blk_frozen BK168.out 2
      go_wp2
      go_meet
      case rel => exact ⟨_, (true), es_, H', ⟨by first | omega | exact Nat.le_refl _⟩, ⟨bk_ BK168.out⟩, ⟨hb_⟩⟩
  case rest =>
   clear HC2
   try clear c2
   try clear p2
   try clear c5
   try clear c5b0
   try clear c5b1
   try clear c6
   try clear c6b0
   try clear c6b1
   try clear c7
   try clear c7b0
   try clear c7b1
   try clear c7b2
   try clear hcz4_0
   try clear hcz4_1
   try clear hcz4_2
   try clear hcz8_0
   try clear hcz8_1
   try clear hcz8_2
   try clear hcz9_0
   try clear hcz9_1
   try clear hcz9_2
   try clear hfz4_0
   try clear hfz4_1
   try clear hfz4_2
   try clear hfz8_0
   try clear hfz8_1
   try clear hfz8_2
   try clear hfz9_0
   try clear hfz9_1
   try clear hfz9_2
   obtain ⟨kq, x30_1, rfl, HA, HJ1, BK168, HB⟩ := hcut
   cases kq with
   | zero => exact absurd HA.out (by simp [impl_GoodBoard.j0])
   | succ kj1 =>
    have H := HA.out
    clear HA
    simp only [impl_GoodBoard.j0] at H
    by_cases c10 : x30_1 = true
    ·subst c10
     rw [if_pos rfl] at H
     obtain rfl := Option.some.inj H
     go_wp2
     go_ret
     exact ⟨er_, hb_⟩
    ·replace c10 := Bool.eq_false_iff.mpr c10
     subst c10
     rw [if_neg (show ¬ (false = true) by decide)] at H
     have H' := Aside0.mk H
     clear H
     have hcz11_0 : wc.cell? ⟨gb168, 0, none⟩ = some (.slice A0_0 l0_0.length c0_0) := (blk_cell BK168.out 0).trans rfl
     have hcz11_1 : wc.cell? ⟨gb168, 1, none⟩ = some (.slice A0_1 l0_1.length c0_1) := (blk_cell BK168.out 1).trans rfl
     have hcz11_2 : wc.cell? ⟨gb168, 2, none⟩ = some (.slice A0_2 l0_2.length c0_2) := (blk_cell BK168.out 2).trans rfl
     have hfz11_0 := blk_frozen BK168.out 0
     have hfz11_1 := blk_frozen BK168.out 1
     have hfz11_2 := blk_frozen BK168.out 2
     go_wp2
     go_loopg [34] kj1 (fun kq v34 w' => ∃ (x34_2 : Int), v34 = .int .i64 x34_2 ∧ Aside0 (impl_GoodBoard.l0 kq (l0_0.length : Int) l0_0 (l0_0.length : Int) x34_2 l0_0 l0_1 l0_2 = some r) ∧ Aside0 (kq ≤ kj1) ∧ Aside0 (w'.heap[gb168]? = some (.cells #[(.slice A0_0 l0_0.length c0_0), (.slice A0_1 l0_1.length c0_1), (.slice A0_2 l0_2.length c0_2)] 34 (0, 0))) ∧ Aside0 (Below w.heap.size w w'))
     case atStart => exact ⟨(0), es_, H', ⟨Nat.le_refl _⟩, ⟨bk_ BK168.out⟩, ⟨hb_⟩⟩
     case round =>
      clear H'
      try clear c1
      try clear c2
      try clear p2
      try clear c5
      try clear c5b0
      try clear c5b1
      try clear c6
      try clear c6b0
      try clear c6b1
      try clear c7
      try clear c7b0
      try clear c7b1
      try clear c7b2
      try clear c10
      try clear hcz11_0
      try clear hcz11_1
      try clear hcz11_2
      try clear hcz4_0
      try clear hcz4_1
      try clear hcz4_2
      try clear hcz8_0
      try clear hcz8_1
      try clear hcz8_2
      try clear hcz9_0
      try clear hcz9_1
      try clear hcz9_2
      try clear hfz11_0
      try clear hfz11_1
      try clear hfz11_2
      try clear hfz4_0
      try clear hfz4_1
      try clear hfz4_2
      try clear hfz8_0
      try clear hfz8_1
      try clear hfz8_2
      try clear hfz9_0
      try clear hfz9_1
      try clear hfz9_2
      try clear p2
      obtain ⟨x34_2, rfl, HA, HK2, BK168, HB⟩ := hrel
      cases gk with
      | zero => exact absurd HA.out (by simp [impl_GoodBoard.l0])
      | succ k2 =>
       have H := HA.out
       clear HA
       simp only [impl_GoodBoard.l0] at H
       by_cases c12 : x34_2 < (l0_0.length : Int)
       ·rw [if_pos c12] at H
        have c12b0 : decide (x34_2 < (l0_0.length : Int)) = true := decide_eq_true c12
        clear c12
        by_cases c13 : 0 ≤ x34_2
        ·rw [if_pos c13] at H
         have c13b0 : decide (0 ≤ x34_2) = true := decide_eq_true c13
         clear c13
         by_cases c14 : x34_2 < (l0_0.length : Int)
         ·rw [if_pos c14] at H
          have c14b0 : decide (x34_2 < (l0_0.length : Int)) = true := decide_eq_true c14
          clear c14
          have HC15 := Aside0.mk H
          clear H
          have p169 : 0 ≤ (x34_2 : Int) := of_decide_eq_true as_
          have q169 : x34_2 < (l0_0.length : Int) := of_decide_eq_true as_
          obtain ⟨ad169, e169, hx169_0⟩ := Kd.at_string HR0_0.out x34_2 p169 q169
          cases e169
          replace hx169_0 := hc_ HB hx169_0
          replace p169 := eq_true p169
          replace q169 := eq_true q169
          go_upto_region 7 with (fail)
          go_cut [54] (fun v54 wc => ∃ (kq : Nat) (x54_14 : Bool), v54 = .bool x54_14 ∧ Aside0 (impl_GoodBoard.j2 kq (l0_0.length : Int) x34_2 l0_0 (l0_0.length : Int) x34_2 x54_14 l0_0 l0_1 l0_2 = some r) ∧ Aside0 (kq ≤ k2) ∧ Aside0 (wc.heap[gb168]? = some (.cells #[(.slice (some ad169) l0_0.length c0_0), (.slice A0_1 l0_1.length c0_1), (.slice A0_2 l0_2.length c0_2)] 34 (0, 0))) ∧ Aside0 (Below w.heap.size w wc))
          case first =>
           have H := HC15.out
           clear HC15
           by_cases c16 : (rdOf ByteArray.empty l0_0 x34_2).toList = ([] : List UInt8)
           ·rw [if_pos c16] at H
            have c16b0 : ((rdOf ByteArray.empty l0_0 x34_2).toList == ([] : List UInt8)) = true := beq_iff_eq.mpr c16
            have c16b1 : ((rdOf ByteArray.empty l0_0 x34_2).toList != ([] : List UInt8)) = false := bne_eq_false_iff_eq.mpr c16
            clear c16
            (first | rw [c16b0] | (simp only [i64_w, i32_w]; rw [c16b0]) | skip)
            by_cases c17 : x34_2 < (l0_2.length : Int)
            ·rw [if_pos c17] at H
             have c17b0 : decide (x34_2 < (l0_2.length : Int)) = true := decide_eq_true c17
             clear c17
             have H' := Aside0.mk H
             clear H
             have hcz18_0 : wr.cell? ⟨gb168, 0, none⟩ = some (.slice (some ad169) l0_0.length c0_0) := (blk_cell BK168.out 0).trans rfl
             have hcz18_1 : wr.cell? ⟨gb168, 1, none⟩ = some (.slice A0_1 l0_1.length c0_1) := (blk_cell BK168.out 1).trans rfl
             have hcz18_2 : wr.cell? ⟨gb168, 2, none⟩ = some (.slice A0_2 l0_2.length c0_2) := (blk_cell BK168.out 2).trans rfl
             have hfz18_0 := blk_frozen BK168.out 0
             have hfz18_1 := blk_frozen BK168.out 1
             have hfz18_2 := blk_frozen BK168.out 2
             have p170 : 0 ≤ (x34_2 : Int) := of_decide_eq_true as_
             have q170 : x34_2 < (l0_2.length : Int) := of_decide_eq_true as_
             obtain ⟨ad170, A170_0, c170_0, e170, hx170_0, hl170_0, hi170_0⟩ := at_L3 HR0_2.out x34_2 p170 q170
             cases e170
             replace hx170_0 := hc_ HB hx170_0
             have HR170_0 := Aside0.mk hi170_0
             have HC170_0 := Aside0.mk hl170_0
             clear hi170_0 hl170_0
             replace p170 := eq_true p170
             replace q170 := eq_true q170
             go_wp2
             go_meet
             case rel => exact ⟨_, (decide (((rd_L3 l0_2 x34_2).length : Int) > 14)), es_, H', ⟨by have := HJ1.out; have := HK2.out; first | omega | exact Nat.le_refl _⟩, ⟨bk_ BK168.out⟩, ⟨hb_⟩⟩
            ·rw [if_neg c17] at H
             exact absurd H (by simp)
           ·rw [if_neg c16] at H
            have c16b0 : ((rdOf ByteArray.empty l0_0 x34_2).toList == ([] : List UInt8)) = false := beq_eq_false_iff_ne.mpr c16
            have c16b1 : ((rdOf ByteArray.empty l0_0 x34_2).toList != ([] : List UInt8)) = true := bne_iff_ne.mpr c16
            (first | rw [c16b0] | (simp only [i64_w, i32_w]; rw [c16b0]) | skip)
            replace H := Option.bind_eq_some_iff.mp H
            obtain ⟨t171, A190, H⟩ := H
            replace H : (if t171 = true then (if x34_2 < (l0_2.length : Int) then (impl_GoodBoard.j2 k2 (l0_0.length : Int) x34_2 l0_0 (l0_0.length : Int) x34_2 (decide (((rd_L3 l0_2 x34_2).length : Int) > 14)) l0_0 l0_1 l0_2) else (none)) else (impl_GoodBoard.j2 k2 (l0_0.length : Int) x34_2 l0_0 (l0_0.length : Int) x34_2 true l0_0 l0_1 l0_2)) = some r := H
            have A19 := Aside0.mk A190
            clear A190
            by_cases c20 : t171 = true
            ·subst c20
             rw [if_pos rfl] at H
             by_cases c21 : x34_2 < (l0_2.length : Int)
             ·rw [if_pos c21] at H
              have c21b0 : decide (x34_2 < (l0_2.length : Int)) = true := decide_eq_true c21
              clear c21
              have H' := Aside0.mk H
              clear H
              go_wp2_with (first | (go_at_call 65; (with_reducible refine (impl_goodName.calls (rdOf ByteArray.empty l0_0 x34_2) true _ A19.out).mono ?_); rintro e w22 ⟨rfl, hb⟩; have n0_ := bb_ BK168 hb; have n1_ := Aside0.mk (below_step hb_ hb); clear BK168; clear HB; have BK168 := n0_; have HB := n1_; clear n0_ n1_; (try clear hb); (try clear hb2); (try clear hk); (try clear hi); have hcz23_0 : w22.cell? ⟨gb168, 0, none⟩ = some (.slice (some ad169) l0_0.length c0_0) := (blk_cell BK168.out 0).trans rfl; have hcz23_1 : w22.cell? ⟨gb168, 1, none⟩ = some (.slice A0_1 l0_1.length c0_1) := (blk_cell BK168.out 1).trans rfl; have hcz23_2 : w22.cell? ⟨gb168, 2, none⟩ = some (.slice A0_2 l0_2.length c0_2) := (blk_cell BK168.out 2).trans rfl; have hfz23_0 := blk_frozen BK168.out 0; have hfz23_1 := blk_frozen BK168.out 1; have hfz23_2 := blk_frozen BK168.out 2; have p172 : 0 ≤ (x34_2 : Int) := of_decide_eq_true as_; have q172 : x34_2 < (l0_2.length : Int) := of_decide_eq_true as_; obtain ⟨ad172, A172_0, c172_0, e172, hx172_0, hl172_0, hi172_0⟩ := at_L3 HR0_2.out x34_2 p172 q172; cases e172; replace hx172_0 := hc_ HB hx172_0; have HR172_0 := Aside0.mk hi172_0; have HC172_0 := Aside0.mk hl172_0; clear hi172_0 hl172_0; replace p172 := eq_true p172; replace q172 := eq_true q172))
              go_meet
              case rel => exact ⟨_, (decide (((rd_L3 l0_2 x34_2).length : Int) > 14)), es_, H', ⟨by have := HJ1.out; have := HK2.out; first | omega | exact Nat.le_refl _⟩, ⟨bk_ BK168.out⟩, ⟨hb_⟩⟩
             ·rw [if_neg c21] at H
              exact absurd H (by simp)
            ·replace c20 := Bool.eq_false_iff.mpr c20
             subst c20
             rw [if_neg (show ¬ (false = true) by decide)] at H
             have H' := Aside0.mk H
             clear H
             go_wp2_with (first | (go_at_call 65; (with_reducible refine (impl_goodName.calls (rdOf ByteArray.empty l0_0 x34_2) false _ A19.out).mono ?_); rintro e w24 ⟨rfl, hb⟩; have n0_ := bb_ BK168 hb; have n1_ := Aside0.mk (below_step hb_ hb); clear BK168; clear HB; have BK168 := n0_; have HB := n1_; clear n0_ n1_; (try clear hb); (try clear hb2); (try clear hk); (try clear hi)))
             go_meet
             case rel => exact ⟨_, (true), es_, H', ⟨by have := HJ1.out; have := HK2.out; first | omega | exact Nat.le_refl _⟩, ⟨bk_ BK168.out⟩, ⟨hb_⟩⟩
          case rest =>
           clear HC15
           try clear c1
           try clear p1
           try clear q1
           try clear hx1
           try clear c2
           try clear p2
           try clear c5
           try clear c5b0
           try clear c5b1
           try clear c6
           try clear c6b0
           try clear c6b1
           try clear c7
           try clear c7b0
           try clear c7b1
           try clear c7b2
           try clear c10
           try clear c12
           try clear c12b0
           try clear c13
           try clear c13b0
           try clear c14
           try clear c14b0
           try clear c16
           try clear c16b0
           try clear c16b1
           try clear p16
           try clear q16
           try clear hx16
           try clear c17
           try clear c17b0
           try clear p17
           try clear q17
           try clear hx17
           try clear c20
           try clear c21
           try clear c21b0
           try clear hcz11_0
           try clear hcz11_1
           try clear hcz11_2
           try clear hcz18_0
           try clear hcz18_1
           try clear hcz18_2
           try clear hcz23_0
           try clear hcz23_1
           try clear hcz23_2
           try clear hcz4_0
           try clear hcz4_1
           try clear hcz4_2
           try clear hcz8_0
           try clear hcz8_1
           try clear hcz8_2
           try clear hcz9_0
           try clear hcz9_1
           try clear hcz9_2
           try clear hfz11_0
           try clear hfz11_1
           try clear hfz11_2
           try clear hfz18_0
           try clear hfz18_1
           try clear hfz18_2
           try clear hfz23_0
           try clear hfz23_1
           try clear hfz23_2
           try clear hfz4_0
           try clear hfz4_1
           try clear hfz4_2
           try clear hfz8_0
           try clear hfz8_1
           try clear hfz8_2
           try clear hfz9_0
           try clear hfz9_1
           try clear hfz9_2
           try clear hx169_0
           try clear hx170_0
           try clear hx172_0
           try clear p169
           try clear p170
           try clear p172
           try clear p2
           try clear q169
           try clear q170
           try clear q172
           obtain ⟨kq, x54_14, rfl, HA, HJ14, BK168, HB⟩ := hcut
           cases kq with
           | zero => exact absurd HA.out (by simp [impl_GoodBoard.j2])
           | succ kj14 =>
            have H := HA.out
            clear HA
            simp only [impl_GoodBoard.j2] at H
            by_cases c25 : x54_14 = true
            ·subst c25
             rw [if_pos rfl] at H
             obtain rfl := Option.some.inj H
             go_wp2
             go_ret
             exact ⟨er_, hb_⟩
            ·replace c25 := Bool.eq_false_iff.mpr c25
             subst c25
             rw [if_neg (show ¬ (false = true) by decide)] at H
             by_cases c26 : 0 ≤ x34_2
             ·rw [if_pos c26] at H
              have c26b0 : decide (0 ≤ x34_2) = true := decide_eq_true c26
              clear c26
              by_cases c27 : x34_2 < (l0_2.length : Int)
              ·rw [if_pos c27] at H
               have c27b0 : decide (x34_2 < (l0_2.length : Int)) = true := decide_eq_true c27
               clear c27
               have H' := Aside0.mk H
               clear H
               have hcz28_0 : wc.cell? ⟨gb168, 0, none⟩ = some (.slice (some ad169) l0_0.length c0_0) := (blk_cell BK168.out 0).trans rfl
               have hcz28_1 : wc.cell? ⟨gb168, 1, none⟩ = some (.slice A0_1 l0_1.length c0_1) := (blk_cell BK168.out 1).trans rfl
               have hcz28_2 : wc.cell? ⟨gb168, 2, none⟩ = some (.slice A0_2 l0_2.length c0_2) := (blk_cell BK168.out 2).trans rfl
               have hfz28_0 := blk_frozen BK168.out 0
               have hfz28_1 := blk_frozen BK168.out 1
               have hfz28_2 := blk_frozen BK168.out 2
               have p173 : 0 ≤ (x34_2 : Int) := of_decide_eq_true as_
               have q173 : x34_2 < (l0_2.length : Int) := of_decide_eq_true as_
               obtain ⟨ad173, A173_0, c173_0, e173, hx173_0, hl173_0, hi173_0⟩ := at_L3 HR0_2.out x34_2 p173 q173
               cases e173
               replace hx173_0 := hc_ HB hx173_0
               have HR173_0 := Aside0.mk hi173_0
               have HC173_0 := Aside0.mk hl173_0
               clear hi173_0 hl173_0
               replace p173 := eq_true p173
               replace q173 := eq_true q173
               go_wp2
               go_loopg [61] kj14 (fun kq v61 w' => ∃ (x61_4 : Int), v61 = .int .i64 x61_4 ∧ Aside0 (impl_GoodBoard.l1 kq (l0_0.length : Int) x34_2 l0_0 (l0_0.length : Int) x34_2 (rd_L3 l0_2 x34_2) ((rd_L3 l0_2 x34_2).length : Int) x61_4 l0_0 l0_1 l0_2 = some r) ∧ Aside0 (kq ≤ kj14) ∧ Aside0 (w'.heap[gb168]? = some (.cells #[(.slice (some ad169) l0_0.length c0_0), (.slice A0_1 l0_1.length c0_1), (.slice (some ad173) l0_2.length c0_2)] 34 (0, 0))) ∧ Aside0 (Below w.heap.size w w'))
               case atStart => exact ⟨(0), es_, H', ⟨Nat.le_refl _⟩, ⟨bk_ BK168.out⟩, ⟨hb_⟩⟩
               case round =>
                clear H'
                try clear c1
                try clear p1
                try clear q1
                try clear hx1
                try clear c2
                try clear p2
                try clear c5
                try clear c5b0
                try clear c5b1
                try clear c6
                try clear c6b0
                try clear c6b1
                try clear c7
                try clear c7b0
                try clear c7b1
                try clear c7b2
                try clear c10
                try clear c12
                try clear c12b0
                try clear c13
                try clear c13b0
                try clear c14
                try clear c14b0
                try clear c16
                try clear c16b0
                try clear c16b1
                try clear p16
                try clear q16
                try clear hx16
                try clear c17
                try clear c17b0
                try clear p17
                try clear q17
                try clear hx17
                try clear c20
                try clear c21
                try clear c21b0
                try clear c25
                try clear c26
                try clear c26b0
                try clear c27
                try clear c27b0
                try clear c28
                try clear hcz11_0
                try clear hcz11_1
                try clear hcz11_2
                try clear hcz18_0
                try clear hcz18_1
                try clear hcz18_2
                try clear hcz23_0
                try clear hcz23_1
                try clear hcz23_2
                try clear hcz28_0
                try clear hcz28_1
                try clear hcz28_2
                try clear hcz4_0
                try clear hcz4_1
                try clear hcz4_2
                try clear hcz8_0
                try clear hcz8_1
                try clear hcz8_2
                try clear hcz9_0
                try clear hcz9_1
                try clear hcz9_2
                try clear hfz11_0
                try clear hfz11_1
                try clear hfz11_2
                try clear hfz18_0
                try clear hfz18_1
                try clear hfz18_2
                try clear hfz23_0
                try clear hfz23_1
                try clear hfz23_2
                try clear hfz28_0
                try clear hfz28_1
                try clear hfz28_2
                try clear hfz4_0
                try clear hfz4_1
                try clear hfz4_2
                try clear hfz8_0
                try clear hfz8_1
                try clear hfz8_2
                try clear hfz9_0
                try clear hfz9_1
                try clear hfz9_2
                try clear hx169_0
                try clear hx170_0
                try clear hx172_0
                try clear hx173_0
                try clear p1
                try clear p16
                try clear p169
                try clear p17
                try clear p170
                try clear p172
                try clear p173
                try clear p2
                try clear q1
                try clear q16
                try clear q169
                try clear q17
                try clear q170
                try clear q172
                try clear q173
                obtain ⟨x61_4, rfl, HA, HK4, BK168, HB⟩ := hrel
                cases gk with
                | zero => exact absurd HA.out (by simp [impl_GoodBoard.l1])
                | succ k4 =>
                 have H := HA.out
                 clear HA
                 simp only [impl_GoodBoard.l1] at H
                 by_cases c29 : x61_4 < ((rd_L3 l0_2 x34_2).length : Int)
                 ·rw [if_pos c29] at H
                  have c29b0 : decide (x61_4 < ((rd_L3 l0_2 x34_2).length : Int)) = true := decide_eq_true c29
                  clear c29
                  by_cases c30 : 0 ≤ x61_4
                  ·rw [if_pos c30] at H
                   have c30b0 : decide (0 ≤ x61_4) = true := decide_eq_true c30
                   clear c30
                   by_cases c31 : x61_4 < ((rd_L3 l0_2 x34_2).length : Int)
                   ·rw [if_pos c31] at H
                    have c31b0 : decide (x61_4 < ((rd_L3 l0_2 x34_2).length : Int)) = true := decide_eq_true c31
                    clear c31
                    by_cases c32 : (rd (rd_L3 l0_2 x34_2) x61_4) < 0
                    ·rw [if_pos c32] at H
                     have c32b0 : decide ((rd (rd_L3 l0_2 x34_2) x61_4) < 0) = true := decide_eq_true c32
                     clear c32
                     obtain rfl := Option.some.inj H
                     have p174 : 0 ≤ (x61_4 : Int) := of_decide_eq_true as_
                     have q174 : x61_4 < ((rd_L3 l0_2 x34_2).length : Int) := of_decide_eq_true as_
                     obtain ⟨ad174, e174, hx174_0⟩ := Kd.at_int HR173_0.out x61_4 p174 q174
                     cases e174
                     replace hx174_0 := hc_ HB hx174_0
                     replace p174 := eq_true p174
                     replace q174 := eq_true q174
                     go_wp2
                     go_ret
                     exact ⟨er_, hb_⟩
                    ·rw [if_neg c32] at H
                     have c32b0 : decide ((rd (rd_L3 l0_2 x34_2) x61_4) < 0) = false := decide_eq_false c32
                     clear c32
                     by_cases c33 : (rd (rd_L3 l0_2 x34_2) x61_4) ≥ (l0_0.length : Int)
                     ·rw [if_pos c33] at H
                      have c33b0 : decide ((l0_0.length : Int) ≤ (rd (rd_L3 l0_2 x34_2) x61_4)) = true := decide_eq_true c33
                      clear c33
                      obtain rfl := Option.some.inj H
                      have p174 : 0 ≤ (x61_4 : Int) := of_decide_eq_true as_
                      have q174 : x61_4 < ((rd_L3 l0_2 x34_2).length : Int) := of_decide_eq_true as_
                      obtain ⟨ad174, e174, hx174_0⟩ := Kd.at_int HR173_0.out x61_4 p174 q174
                      cases e174
                      replace hx174_0 := hc_ HB hx174_0
                      replace p174 := eq_true p174
                      replace q174 := eq_true q174
                      go_wp2
                      go_ret
                      exact ⟨er_, hb_⟩
                     ·rw [if_neg c33] at H
                      have c33b0 : decide ((l0_0.length : Int) ≤ (rd (rd_L3 l0_2 x34_2) x61_4)) = false := decide_eq_false c33
                      clear c33
                      by_cases c34 : x61_4 > 0
                      ·rw [if_pos c34] at H
                       have c34b0 : decide (0 < x61_4) = true := decide_eq_true c34
                       clear c34
                       by_cases c35 : 0 ≤ x34_2
                       ·rw [if_pos c35] at H
                        have c35b0 : decide (0 ≤ x34_2) = true := decide_eq_true c35
                        clear c35
                        by_cases c36 : x34_2 < (l0_2.length : Int)
                        ·rw [if_pos c36] at H
                         have c36b0 : decide (x34_2 < (l0_2.length : Int)) = true := decide_eq_true c36
                         clear c36
                         obtain ⟨ji37, hji37⟩ : ∃ j_ : Int, (wrap64 (x61_4 - 1)) = j_ := ⟨_, rfl⟩
                         replace H : (if 0 ≤ (ji37) then (if (ji37) < ((rd_L3 l0_2 x34_2).length : Int) then (if (rd (rd_L3 l0_2 x34_2) x61_4) ≤ (rd (rd_L3 l0_2 x34_2) (ji37)) then (some false) else (impl_GoodBoard.l1 k4 (l0_0.length : Int) x34_2 l0_0 (l0_0.length : Int) x34_2 (rd_L3 l0_2 x34_2) ((rd_L3 l0_2 x34_2).length : Int) (wrap64 (x61_4 + 1)) l0_0 l0_1 l0_2)) else (none)) else (none)) = some r := by first | (rw [hji37] at H; exact H) | (simp only [hji37] at H ⊢; exact H)
                         have hji37w : (IntKind.i64.wrap (x61_4 - 1)) = ji37 := (i64_w _).trans hji37
                         by_cases c38 : 0 ≤ (ji37)
                         ·rw [if_pos c38] at H
                          have c38b0 : decide (0 ≤ (ji37)) = true := decide_eq_true c38
                          clear c38
                          by_cases c39 : (ji37) < ((rd_L3 l0_2 x34_2).length : Int)
                          ·rw [if_pos c39] at H
                           have c39b0 : decide ((ji37) < ((rd_L3 l0_2 x34_2).length : Int)) = true := decide_eq_true c39
                           clear c39
                           by_cases c40 : (rd (rd_L3 l0_2 x34_2) x61_4) ≤ (rd (rd_L3 l0_2 x34_2) (ji37))
                           ·rw [if_pos c40] at H
                            have c40b0 : decide ((rd (rd_L3 l0_2 x34_2) x61_4) ≤ (rd (rd_L3 l0_2 x34_2) (ji37))) = true := decide_eq_true c40
                            clear c40
                            obtain rfl := Option.some.inj H
                            have p174 : 0 ≤ (x61_4 : Int) := of_decide_eq_true as_
                            have q174 : x61_4 < ((rd_L3 l0_2 x34_2).length : Int) := of_decide_eq_true as_
                            obtain ⟨ad174, e174, hx174_0⟩ := Kd.at_int HR173_0.out x61_4 p174 q174
                            cases e174
                            replace hx174_0 := hc_ HB hx174_0
                            replace p174 := eq_true p174
                            replace q174 := eq_true q174
                            have hcz41_0 : wr.cell? ⟨gb168, 0, none⟩ = some (.slice (some ad169) l0_0.length c0_0) := (blk_cell BK168.out 0).trans rfl
                            have hcz41_1 : wr.cell? ⟨gb168, 1, none⟩ = some (.slice A0_1 l0_1.length c0_1) := (blk_cell BK168.out 1).trans rfl
                            have hcz41_2 : wr.cell? ⟨gb168, 2, none⟩ = some (.slice (some ad173) l0_2.length c0_2) := (blk_cell BK168.out 2).trans rfl
                            have hfz41_0 := blk_frozen BK168.out 0
                            have hfz41_1 := blk_frozen BK168.out 1
                            have hfz41_2 := blk_frozen BK168.out 2
                            have p175 : 0 ≤ (x34_2 : Int) := of_decide_eq_true as_
                            have q175 : x34_2 < (l0_2.length : Int) := of_decide_eq_true as_
                            obtain ⟨ad175, A175_0, c175_0, e175, hx175_0, hl175_0, hi175_0⟩ := at_L3 HR0_2.out x34_2 p175 q175
                            obtain rfl : ad173 = ad175 := (by injection e175)
                            replace hx175_0 := hc_ HB hx175_0
                            have HR175_0 := Aside0.mk hi175_0
                            have HC175_0 := Aside0.mk hl175_0
                            clear hi175_0 hl175_0
                            replace p175 := eq_true p175
                            replace q175 := eq_true q175
                            have p176 : 0 ≤ ((ji37) : Int) := of_decide_eq_true as_
                            have q176 : (ji37) < ((rd_L3 l0_2 x34_2).length : Int) := of_decide_eq_true as_
                            obtain ⟨ad176, e176, hx176_0⟩ := Kd.at_int HR175_0.out (ji37) p176 q176
                            cases e176
                            replace hx176_0 := hc_ HB hx176_0
                            replace p176 := eq_true p176
                            replace q176 := eq_true q176
                            go_wp2
                            go_ret
                            exact ⟨by first | rfl | (simp [errW_none, errW_some] <;> rfl) | (simp only [← hji37]; first | rfl | (simp [errW_none, errW_some] <;> rfl)) | (simp [*, errW_none, errW_some] <;> rfl), hb_⟩
                           ·rw [if_neg c40] at H
                            have c40b0 : decide ((rd (rd_L3 l0_2 x34_2) x61_4) ≤ (rd (rd_L3 l0_2 x34_2) (ji37))) = false := decide_eq_false c40
                            clear c40
                            have H' := Aside0.mk H
                            clear H
                            have p174 : 0 ≤ (x61_4 : Int) := of_decide_eq_true as_
                            have q174 : x61_4 < ((rd_L3 l0_2 x34_2).length : Int) := of_decide_eq_true as_
                            obtain ⟨ad174, e174, hx174_0⟩ := Kd.at_int HR173_0.out x61_4 p174 q174
                            cases e174
                            replace hx174_0 := hc_ HB hx174_0
                            replace p174 := eq_true p174
                            replace q174 := eq_true q174
                            have hcz42_0 : wr.cell? ⟨gb168, 0, none⟩ = some (.slice (some ad169) l0_0.length c0_0) := (blk_cell BK168.out 0).trans rfl
                            have hcz42_1 : wr.cell? ⟨gb168, 1, none⟩ = some (.slice A0_1 l0_1.length c0_1) := (blk_cell BK168.out 1).trans rfl
                            have hcz42_2 : wr.cell? ⟨gb168, 2, none⟩ = some (.slice (some ad173) l0_2.length c0_2) := (blk_cell BK168.out 2).trans rfl
                            have hfz42_0 := blk_frozen BK168.out 0
                            have hfz42_1 := blk_frozen BK168.out 1
                            have hfz42_2 := blk_frozen BK168.out 2
                            have p175 : 0 ≤ (x34_2 : Int) := of_decide_eq_true as_
                            have q175 : x34_2 < (l0_2.length : Int) := of_decide_eq_true as_
                            obtain ⟨ad175, A175_0, c175_0, e175, hx175_0, hl175_0, hi175_0⟩ := at_L3 HR0_2.out x34_2 p175 q175
                            obtain rfl : ad173 = ad175 := (by injection e175)
                            replace hx175_0 := hc_ HB hx175_0
                            have HR175_0 := Aside0.mk hi175_0
                            have HC175_0 := Aside0.mk hl175_0
                            clear hi175_0 hl175_0
                            replace p175 := eq_true p175
                            replace q175 := eq_true q175
                            have p176 : 0 ≤ ((ji37) : Int) := of_decide_eq_true as_
                            have q176 : (ji37) < ((rd_L3 l0_2 x34_2).length : Int) := of_decide_eq_true as_
                            obtain ⟨ad176, e176, hx176_0⟩ := Kd.at_int HR175_0.out (ji37) p176 q176
                            cases e176
                            replace hx176_0 := hc_ HB hx176_0
                            replace p176 := eq_true p176
                            replace q176 := eq_true q176
                            go_wp2
                            go_roundg k4
                            case measure => have := HJ1.out; have := HK2.out; have := HJ14.out; have := HK4.out; omega
                            case rel => exact ⟨(wrap64 (x61_4 + 1)), es_, H', ⟨by have := HJ1.out; have := HK2.out; have := HJ14.out; have := HK4.out; omega⟩, ⟨bk_ BK168.out⟩, ⟨hb_⟩⟩
                          ·rw [if_neg c39] at H
                           exact absurd H (by simp)
                         ·rw [if_neg c38] at H
                          exact absurd H (by simp)
                        ·rw [if_neg c36] at H
                         exact absurd H (by simp)
                       ·rw [if_neg c35] at H
                        exact absurd H (by simp)
                      ·rw [if_neg c34] at H
                       have c34b0 : decide (0 < x61_4) = false := decide_eq_false c34
                       clear c34
                       have H' := Aside0.mk H
                       clear H
                       have p174 : 0 ≤ (x61_4 : Int) := of_decide_eq_true as_
                       have q174 : x61_4 < ((rd_L3 l0_2 x34_2).length : Int) := of_decide_eq_true as_
                       obtain ⟨ad174, e174, hx174_0⟩ := Kd.at_int HR173_0.out x61_4 p174 q174
                       cases e174
                       replace hx174_0 := hc_ HB hx174_0
                       replace p174 := eq_true p174
                       replace q174 := eq_true q174
                       go_wp2
                       go_roundg k4
                       case measure => have := HJ1.out; have := HK2.out; have := HJ14.out; have := HK4.out; omega
                       case rel => exact ⟨(wrap64 (x61_4 + 1)), es_, H', ⟨by have := HJ1.out; have := HK2.out; have := HJ14.out; have := HK4.out; omega⟩, ⟨bk_ BK168.out⟩, ⟨hb_⟩⟩
                   ·rw [if_neg c31] at H
                    exact absurd H (by simp)
                  ·rw [if_neg c30] at H
                   exact absurd H (by simp)
                 ·rw [if_neg c29] at H
                  have c29b0 : decide (x61_4 < ((rd_L3 l0_2 x34_2).length : Int)) = false := decide_eq_false c29
                  clear c29
                  have H' := Aside0.mk H
                  clear H
                  go_wp2
                  go_roundg k4
                  case measure => have := HJ1.out; have := HK2.out; have := HJ14.out; have := HK4.out; omega
                  case rel => exact ⟨(wrap64 (x34_2 + 1)), es_, H', ⟨by have := HJ1.out; have := HK2.out; have := HJ14.out; have := HK4.out; omega⟩, ⟨bk_ BK168.out⟩, ⟨hb_⟩⟩
              ·rw [if_neg c27] at H
               exact absurd H (by simp)
             ·rw [if_neg c26] at H
              exact absurd H (by simp)
         ·rw [if_neg c14] at H
          exact absurd H (by simp)
        ·rw [if_neg c13] at H
         exact absurd H (by simp)
       ·rw [if_neg c12] at H
        have c12b0 : decide (x34_2 < (l0_0.length : Int)) = false := decide_eq_false c12
        clear c12
        obtain rfl := Option.some.inj H
        go_wp2
        go_ret
        exact ⟨er_, hb_⟩

end Go.Proofs.YtdihodboopeakaaDoor.Pr
