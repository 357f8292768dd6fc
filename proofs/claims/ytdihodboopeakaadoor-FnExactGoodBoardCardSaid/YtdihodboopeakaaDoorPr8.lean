-- Written by this session's own print (wip/tools/mkmp.py) out of the translation. Lean checks it.
import Derived.Test.YtdihodboopeakaaDoorPr0
import Derived.Test.YtdihodboopeakaaDoorPr7
import Derived.Test.YtdihodboopeakaaDoorPrd1
namespace Go.Proofs.YtdihodboopeakaaDoor.Pr
open Go.RowKit Go.Proofs.YtdihodboopeakaaDoorW.PrintWords Go.Proofs.YtdihodboopeakaaDoorW.PrintLast Go.Proofs.YtdihodboopeakaaDoorW.PrintMore
attribute [local go_sem] max2_int min2_int max_two min_two max_three min_three max_four min_four   -- for this text's walks alone
set_option linter.unusedVariables false
set_option linter.unusedSimpArgs false

set_option maxHeartbeats 8000000 in
set_option maxRecDepth 100000 in
theorem spec_GoodBoard.calls (k : Nat) (A0_0 : Option Addr) (c0_0 : Nat) (l0_0 : List ByteArray) (A0_1 : Option Addr) (c0_1 : Nat) (l0_1 : List Bool) (A0_2 : Option Addr) (c0_2 : Nat) (l0_2 : List (List Int)) (r : Bool) (w : World) (hr0_0 : Kd.C Kd.string w A0_0 l0_0.length l0_0) (hc0_0 : l0_0.length ≤ c0_0) (hr0_1 : Kd.C Kd.bool w A0_1 l0_1.length l0_1) (hc0_1 : l0_1.length ≤ c0_1) (hr0_2 : Kd.C (Kd.slice 3 (Kd.int .i64)) w A0_2 l0_2.length l0_2) (hc0_2 : l0_2.length ≤ c0_2) (h : spec_GoodBoard.f k l0_0 l0_1 l0_2 = some r) :
   Calls Tryd.prog 27 #[.agg #[.slice A0_0 l0_0.length c0_0, .slice A0_1 l0_1.length c0_1, .slice A0_2 l0_2.length c0_2]] w fun e w' => e = .returned (.bool r) ∧ Below w.heap.size w w' := by
  have hu34 := Tryd.underlying34
  have HR0_0 := Aside0.mk hr0_0
  have HC0_0 := Aside0.mk hc0_0
  clear hr0_0 hc0_0
  have HR0_1 := Aside0.mk hr0_1
  have HC0_1 := Aside0.mk hc0_1
  clear hr0_1 hc0_1
  have HR0_2 := Aside0.mk hr0_2
  have HC0_2 := Aside0.mk hc0_2
  clear hr0_2 hc0_2
  have HB := Aside0.mk (Below.refl w.heap.size w)
  have H : (if (l0_0.length : Int) < 1 then (spec_GoodBoard.j0 k (l0_0.length : Int) true l0_0 l0_1 l0_2) else (if (l0_0.length : Int) > 14 then (spec_GoodBoard.j0 k (l0_0.length : Int) true l0_0 l0_1 l0_2) else (if (l0_1.length : Int) = (l0_0.length : Int) then (spec_GoodBoard.j0 k (l0_0.length : Int) ((l0_2.length : Int) != (l0_0.length : Int)) l0_0 l0_1 l0_2) else (spec_GoodBoard.j0 k (l0_0.length : Int) true l0_0 l0_1 l0_2)))) = some r := h
  clear h
  have HC2 := Aside0.mk H
  clear H
  go_enter Tryd.func27, Tryd.ntmps27
  go_upto_region 2 with (first | ((with_reducible refine gate_dst (N := 1) rfl ?_); (try (refine gate_guard (by rfl) ?_; dsimp only)); refine box_event ?hg (N := 1) ?hd (cs := #[.slice A0_0 l0_0.length c0_0, .slice A0_1 l0_1.length c0_1, .slice A0_2 l0_2.length c0_2]) (t := 34) ?hr ?_; (case hd => rfl); (case hg => rfl); (case hr => first | (go_simp; done) | (go_simp; rfl)); intro gb161 hg w3 hbox hb; have n0_ := Aside0.mk (below_step hb_ hb); have n1_ := Aside0.mk (hbox); have n2_ : Aside0 (w.heap.size ≤ gb161) := gz_; have n3_ : Aside0 (w.heap.size ≤ gb161) := gz_; clear HB; have HB := n0_; have BK161 := n1_; have GW161 := n2_; have GE161 := n3_; clear n0_ n1_ n2_ n3_; clear hb hbox hg; have hcz4_0 : w3.cell? ⟨gb161, 0, none⟩ = some (.slice A0_0 l0_0.length c0_0) := (blk_cell BK161.out 0).trans rfl; have hcz4_1 : w3.cell? ⟨gb161, 1, none⟩ = some (.slice A0_1 l0_1.length c0_1) := (blk_cell BK161.out 1).trans rfl; have hcz4_2 : w3.cell? ⟨gb161, 2, none⟩ = some (.slice A0_2 l0_2.length c0_2) := (blk_cell BK161.out 2).trans rfl; have hfz4_0 := blk_frozen BK161.out 0; have hfz4_1 := blk_frozen BK161.out 1; have hfz4_2 := blk_frozen BK161.out 2))
  (try simp only [Act.put, List.setIfInBounds_toArray, List.set_cons_zero, List.set_cons_succ])
  go_cut [30] (fun v30 wc => ∃ (kq : Nat) (x30_1 : Bool), v30 = .bool x30_1 ∧ Aside0 (spec_GoodBoard.j0 kq (l0_0.length : Int) x30_1 l0_0 l0_1 l0_2 = some r) ∧ Aside0 (kq ≤ k) ∧ Aside0 (wc.heap[gb161]? = some (.cells #[(.slice A0_0 l0_0.length c0_0), (.slice A0_1 l0_1.length c0_1), (.slice A0_2 l0_2.length c0_2)] 34 (0, 0))) ∧ Aside0 (Below w.heap.size w wc))
  case first =>
   have H := HC2.out
   clear HC2
   by_cases c5 : (l0_0.length : Int) < 1
   ·rw [if_pos c5] at H
    have c5b0 : decide ((l0_0.length : Int) < 1) = true := decide_eq_true c5
    have c5b1 : decide (l0_0.length < 1) = true := decide_eq_true (by omega)
    clear c5
    (first | rw [c5b0] | (simp only [i64_w, i32_w]; rw [c5b0]) | skip)
    have H' := Aside0.mk H
    clear H
    go_wp2
    go_meet
    case rel => exact ⟨_, (true), es_, H', ⟨by first | omega | exact Nat.le_refl _⟩, ⟨bk_ BK161.out⟩, ⟨hb_⟩⟩
   ·rw [if_neg c5] at H
    have c5b0 : decide ((l0_0.length : Int) < 1) = false := decide_eq_false c5
    have c5b1 : decide (l0_0.length < 1) = false := decide_eq_false (by omega)
    clear c5
    (first | rw [c5b0] | (simp only [i64_w, i32_w]; rw [c5b0]) | skip)
    by_cases c6 : (l0_0.length : Int) > 14
    ·rw [if_pos c6] at H
     have c6b0 : decide (14 < (l0_0.length : Int)) = true := decide_eq_true c6
     have c6b1 : decide (14 < l0_0.length) = true := decide_eq_true (by omega)
     clear c6
     have H' := Aside0.mk H
     clear H
     go_wp2
     go_meet
     case rel => exact ⟨_, (true), es_, H', ⟨by first | omega | exact Nat.le_refl _⟩, ⟨bk_ BK161.out⟩, ⟨hb_⟩⟩
    ·rw [if_neg c6] at H
     have c6b0 : decide (14 < (l0_0.length : Int)) = false := decide_eq_false c6
     have c6b1 : decide (14 < l0_0.length) = false := decide_eq_false (by omega)
     clear c6
     by_cases c7 : (l0_1.length : Int) = (l0_0.length : Int)
     ·rw [if_pos c7] at H
      have c7b0 : ((l0_1.length : Int) == (l0_0.length : Int)) = true := beq_iff_eq.mpr c7
      have c7b1 : ((l0_1.length : Int) != (l0_0.length : Int)) = false := bne_eq_false_iff_eq.mpr c7
      have c7b2 : (l0_1.length == l0_0.length) = true := by first | simpa using c7 | (simp at c7 ⊢; omega)
      clear c7
      have H' := Aside0.mk H
      clear H
      have hcz8_0 : w3.cell? ⟨gb161, 0, none⟩ = some (.slice A0_0 l0_0.length c0_0) := (blk_cell BK161.out 0).trans rfl
      have hcz8_1 : w3.cell? ⟨gb161, 1, none⟩ = some (.slice A0_1 l0_1.length c0_1) := (blk_cell BK161.out 1).trans rfl
      have hcz8_2 : w3.cell? ⟨gb161, 2, none⟩ = some (.slice A0_2 l0_2.length c0_2) := (blk_cell BK161.out 2).trans rfl
      have hfz8_0 := blk_frozen BK161.out 0
      have hfz8_1 := blk_frozen BK161.out 1
      have hfz8_2 := blk_frozen BK161.out 2
      go_wp2
      go_meet
      case rel => exact ⟨_, (((l0_2.length : Int) != (l0_0.length : Int))), es_, H', ⟨by first | omega | exact Nat.le_refl _⟩, ⟨bk_ BK161.out⟩, ⟨hb_⟩⟩
     ·rw [if_neg c7] at H
      have c7b0 : ((l0_1.length : Int) == (l0_0.length : Int)) = false := beq_eq_false_iff_ne.mpr c7
      have c7b1 : ((l0_1.length : Int) != (l0_0.length : Int)) = true := bne_iff_ne.mpr c7
      have c7b2 : (l0_1.length == l0_0.length) = false := by first | simpa using c7 | (simp at c7 ⊢; omega)
      have H' := Aside0.mk H
      clear H
      have hcz9_0 : w3.cell? ⟨gb161, 0, none⟩ = some (.slice A0_0 l0_0.length c0_0) := (blk_cell BK161.out 0).trans rfl
      have hcz9_1 : w3.cell? ⟨gb161, 1, none⟩ = some (.slice A0_1 l0_1.length c0_1) := (blk_cell BK161.out 1).trans rfl
      have hcz9_2 : w3.cell? ⟨gb161, 2, none⟩ = some (.slice A0_2 l0_2.length c0_2) := (blk_cell BK161.out 2).trans rfl
      have hfz9_0 := blk_frozen BK161.out 0
      have hfz9_1 := blk_frozen BK161.out 1
      have hfz9_2 := blk_frozen BK161.out 2
      go_wp2
      go_meet
      case rel => exact ⟨_, (true), es_, H', ⟨by first | omega | exact Nat.le_refl _⟩, ⟨bk_ BK161.out⟩, ⟨hb_⟩⟩
  case rest =>
   clear HC2
   try clear c2
   try clear p2
   try clear c5
   try clear c5b0
   try clear c5b1
   try clear c6
   try clear c6b0
   try clear c6b1
   try clear c7
   try clear c7b0
   try clear c7b1
   try clear c7b2
   try clear hcz4_0
   try clear hcz4_1
   try clear hcz4_2
   try clear hcz8_0
   try clear hcz8_1
   try clear hcz8_2
   try clear hcz9_0
   try clear hcz9_1
   try clear hcz9_2
   try clear hfz4_0
   try clear hfz4_1
   try clear hfz4_2
   try clear hfz8_0
   try clear hfz8_1
   try clear hfz8_2
   try clear hfz9_0
   try clear hfz9_1
   try clear hfz9_2
   obtain ⟨kq, x30_1, rfl, HA, HJ1, BK161, HB⟩ := hcut
   cases kq with
   | zero => exact absurd HA.out (by simp [spec_GoodBoard.j0])
   | succ kj1 =>
    have H := HA.out
    clear HA
    simp only [spec_GoodBoard.j0] at H
    by_cases c10 : x30_1 = true
    ·subst c10
     rw [if_pos rfl] at H
     obtain rfl := Option.some.inj H
     go_wp2
     go_ret
     exact ⟨er_, hb_⟩
    ·replace c10 := Bool.eq_false_iff.mpr c10
     subst c10
     rw [if_neg (show ¬ (false = true) by decide)] at H
     have H' := Aside0.mk H
     clear H
     have hcz11_0 : wc.cell? ⟨gb161, 0, none⟩ = some (.slice A0_0 l0_0.length c0_0) := (blk_cell BK161.out 0).trans rfl
     have hcz11_1 : wc.cell? ⟨gb161, 1, none⟩ = some (.slice A0_1 l0_1.length c0_1) := (blk_cell BK161.out 1).trans rfl
     have hcz11_2 : wc.cell? ⟨gb161, 2, none⟩ = some (.slice A0_2 l0_2.length c0_2) := (blk_cell BK161.out 2).trans rfl
     have hfz11_0 := blk_frozen BK161.out 0
     have hfz11_1 := blk_frozen BK161.out 1
     have hfz11_2 := blk_frozen BK161.out 2
     go_wp2
     go_loopg [34] kj1 (fun kq v34 w' => ∃ (x34_2 : Int), v34 = .int .i64 x34_2 ∧ Aside0 (spec_GoodBoard.l0 kq (l0_0.length : Int) l0_0 (l0_0.length : Int) x34_2 l0_0 l0_1 l0_2 = some r) ∧ Aside0 (kq ≤ kj1) ∧ Aside0 (w'.heap[gb161]? = some (.cells #[(.slice A0_0 l0_0.length c0_0), (.slice A0_1 l0_1.length c0_1), (.slice A0_2 l0_2.length c0_2)] 34 (0, 0))) ∧ Aside0 (Below w.heap.size w w'))
     case atStart => exact ⟨(0), es_, H', ⟨Nat.le_refl _⟩, ⟨bk_ BK161.out⟩, ⟨hb_⟩⟩
     case round =>
      clear H'
      try clear c1
      try clear c2
      try clear p2
      try clear c5
      try clear c5b0
      try clear c5b1
      try clear c6
      try clear c6b0
      try clear c6b1
      try clear c7
      try clear c7b0
      try clear c7b1
      try clear c7b2
      try clear c10
      try clear hcz11_0
      try clear hcz11_1
      try clear hcz11_2
      try clear hcz4_0
      try clear hcz4_1
      try clear hcz4_2
      try clear hcz8_0
      try clear hcz8_1
      try clear hcz8_2
      try clear hcz9_0
      try clear hcz9_1
      try clear hcz9_2
      try clear hfz11_0
      try clear hfz11_1
      try clear hfz11_2
      try clear hfz4_0
      try clear hfz4_1
      try clear hfz4_2
      try clear hfz8_0
      try clear hfz8_1
      try clear hfz8_2
      try clear hfz9_0
      try clear hfz9_1
      try clear hfz9_2
      try clear p2
      obtain ⟨x34_2, rfl, HA, HK2, BK161, HB⟩ := hrel
      cases gk with
      | zero => exact absurd HA.out (by simp [spec_GoodBoard.l0])
      | succ k2 =>
       have H := HA.out
       clear HA
       simp only [spec_GoodBoard.l0] at H
       by_cases c12 : x34_2 < (l0_0.length : Int)
       ·rw [if_pos c12] at H
        have c12b0 : decide (x34_2 < (l0_0.length : Int)) = true := decide_eq_true c12
        clear c12
        by_cases c13 : 0 ≤ x34_2
        ·rw [if_pos c13] at H
         have c13b0 : decide (0 ≤ x34_2) = true := decide_eq_true c13
         clear c13
         by_cases c14 : x34_2 < (l0_0.length : Int)
         ·rw [if_pos c14] at H
          have c14b0 : decide (x34_2 < (l0_0.length : Int)) = true := decide_eq_true c14
          clear c14
          have HC15 := Aside0.mk H
          clear H
          have p162 : 0 ≤ (x34_2 : Int) := of_decide_eq_true as_
          have q162 : x34_2 < (l0_0.length : Int) := of_decide_eq_true as_
          obtain ⟨ad162, e162, hx162_0⟩ := Kd.at_string HR0_0.out x34_2 p162 q162
          cases e162
          replace hx162_0 := hc_ HB hx162_0
          replace p162 := eq_true p162
          replace q162 := eq_true q162
          go_upto_region 7 with (fail)
          go_cut [45] (fun v45 wc => ∃ (kq : Nat) (x45_14 : Bool), v45 = .bool x45_14 ∧ Aside0 (spec_GoodBoard.j2 kq (l0_0.length : Int) x34_2 l0_0 (l0_0.length : Int) x34_2 x45_14 l0_0 l0_1 l0_2 = some r) ∧ Aside0 (kq ≤ k2) ∧ Aside0 (wc.heap[gb161]? = some (.cells #[(.slice (some ad162) l0_0.length c0_0), (.slice A0_1 l0_1.length c0_1), (.slice A0_2 l0_2.length c0_2)] 34 (0, 0))) ∧ Aside0 (Below w.heap.size w wc))
          case first =>
           have H := HC15.out
           clear HC15
           by_cases c16 : (rdOf ByteArray.empty l0_0 x34_2).toList = ([] : List UInt8)
           ·rw [if_pos c16] at H
            have c16b0 : ((rdOf ByteArray.empty l0_0 x34_2).toList == ([] : List UInt8)) = true := beq_iff_eq.mpr c16
            have c16b1 : ((rdOf ByteArray.empty l0_0 x34_2).toList != ([] : List UInt8)) = false := bne_eq_false_iff_eq.mpr c16
            clear c16
            (first | rw [c16b0] | (simp only [i64_w, i32_w]; rw [c16b0]) | skip)
            have H' := Aside0.mk H
            clear H
            go_wp2
            go_meet
            case rel => exact ⟨_, (false), es_, H', ⟨by have := HJ1.out; have := HK2.out; first | omega | exact Nat.le_refl _⟩, ⟨bk_ BK161.out⟩, ⟨hb_⟩⟩
           ·rw [if_neg c16] at H
            have c16b0 : ((rdOf ByteArray.empty l0_0 x34_2).toList == ([] : List UInt8)) = false := beq_eq_false_iff_ne.mpr c16
            have c16b1 : ((rdOf ByteArray.empty l0_0 x34_2).toList != ([] : List UInt8)) = true := bne_iff_ne.mpr c16
            (first | rw [c16b0] | (simp only [i64_w, i32_w]; rw [c16b0]) | skip)
            replace H := Option.bind_eq_some_iff.mp H
            obtain ⟨t163, A170, H⟩ := H
            replace H : (spec_GoodBoard.j2 k2 (l0_0.length : Int) x34_2 l0_0 (l0_0.length : Int) x34_2 (!t163) l0_0 l0_1 l0_2) = some r := H
            have A17 := Aside0.mk A170
            clear A170
            have H' := Aside0.mk H
            clear H
            go_wp2_with (first | (go_at_call 64; (with_reducible refine (spec_l22Name.calls k2 (rdOf ByteArray.empty l0_0 x34_2) t163 _ A17.out).mono ?_); rintro e w' ⟨rfl, ⟨nd, rfl⟩⟩))
            go_meet
            case rel => exact ⟨_, (!t163), es_, H', ⟨by have := HJ1.out; have := HK2.out; first | omega | exact Nat.le_refl _⟩, ⟨bk_ BK161.out⟩, ⟨hb_⟩⟩
          case rest =>
           clear HC15
           try clear c1
           try clear p1
           try clear q1
           try clear hx1
           try clear c2
           try clear p2
           try clear c5
           try clear c5b0
           try clear c5b1
           try clear c6
           try clear c6b0
           try clear c6b1
           try clear c7
           try clear c7b0
           try clear c7b1
           try clear c7b2
           try clear c10
           try clear c12
           try clear c12b0
           try clear c13
           try clear c13b0
           try clear c14
           try clear c14b0
           try clear c16
           try clear c16b0
           try clear c16b1
           try clear p16
           try clear q16
           try clear hx16
           try clear hcz11_0
           try clear hcz11_1
           try clear hcz11_2
           try clear hcz4_0
           try clear hcz4_1
           try clear hcz4_2
           try clear hcz8_0
           try clear hcz8_1
           try clear hcz8_2
           try clear hcz9_0
           try clear hcz9_1
           try clear hcz9_2
           try clear hfz11_0
           try clear hfz11_1
           try clear hfz11_2
           try clear hfz4_0
           try clear hfz4_1
           try clear hfz4_2
           try clear hfz8_0
           try clear hfz8_1
           try clear hfz8_2
           try clear hfz9_0
           try clear hfz9_1
           try clear hfz9_2
           try clear hx162_0
           try clear p162
           try clear p2
           try clear q162
           obtain ⟨kq, x45_14, rfl, HA, HJ14, BK161, HB⟩ := hcut
           cases kq with
           | zero => exact absurd HA.out (by simp [spec_GoodBoard.j2])
           | succ kj14 =>
            have H := HA.out
            clear HA
            simp only [spec_GoodBoard.j2] at H
            by_cases c18 : x45_14 = true
            ·subst c18
             rw [if_pos rfl] at H
             obtain rfl := Option.some.inj H
             go_wp2
             go_ret
             exact ⟨er_, hb_⟩
            ·replace c18 := Bool.eq_false_iff.mpr c18
             subst c18
             rw [if_neg (show ¬ (false = true) by decide)] at H
             by_cases c19 : 0 ≤ x34_2
             ·rw [if_pos c19] at H
              have c19b0 : decide (0 ≤ x34_2) = true := decide_eq_true c19
              clear c19
              by_cases c20 : x34_2 < (l0_2.length : Int)
              ·rw [if_pos c20] at H
               have c20b0 : decide (x34_2 < (l0_2.length : Int)) = true := decide_eq_true c20
               clear c20
               have H' := Aside0.mk H
               clear H
               have hcz21_0 : wc.cell? ⟨gb161, 0, none⟩ = some (.slice (some ad162) l0_0.length c0_0) := (blk_cell BK161.out 0).trans rfl
               have hcz21_1 : wc.cell? ⟨gb161, 1, none⟩ = some (.slice A0_1 l0_1.length c0_1) := (blk_cell BK161.out 1).trans rfl
               have hcz21_2 : wc.cell? ⟨gb161, 2, none⟩ = some (.slice A0_2 l0_2.length c0_2) := (blk_cell BK161.out 2).trans rfl
               have hfz21_0 := blk_frozen BK161.out 0
               have hfz21_1 := blk_frozen BK161.out 1
               have hfz21_2 := blk_frozen BK161.out 2
               have p164 : 0 ≤ (x34_2 : Int) := of_decide_eq_true as_
               have q164 : x34_2 < (l0_2.length : Int) := of_decide_eq_true as_
               obtain ⟨ad164, A164_0, c164_0, e164, hx164_0, hl164_0, hi164_0⟩ := at_L3 HR0_2.out x34_2 p164 q164
               cases e164
               replace hx164_0 := hc_ HB hx164_0
               have HR164_0 := Aside0.mk hi164_0
               have HC164_0 := Aside0.mk hl164_0
               clear hi164_0 hl164_0
               replace p164 := eq_true p164
               replace q164 := eq_true q164
               go_wp2
               go_loopg [52] kj14 (fun kq v52 w' => ∃ (x52_4 : Int), v52 = .int .i64 x52_4 ∧ Aside0 (spec_GoodBoard.l1 kq (l0_0.length : Int) x34_2 l0_0 (l0_0.length : Int) x34_2 (rd_L3 l0_2 x34_2) ((rd_L3 l0_2 x34_2).length : Int) x52_4 l0_0 l0_1 l0_2 = some r) ∧ Aside0 (kq ≤ kj14) ∧ Aside0 (w'.heap[gb161]? = some (.cells #[(.slice (some ad162) l0_0.length c0_0), (.slice A0_1 l0_1.length c0_1), (.slice (some ad164) l0_2.length c0_2)] 34 (0, 0))) ∧ Aside0 (Below w.heap.size w w'))
               case atStart => exact ⟨(0), es_, H', ⟨Nat.le_refl _⟩, ⟨bk_ BK161.out⟩, ⟨hb_⟩⟩
               case round =>
                clear H'
                try clear c1
                try clear p1
                try clear q1
                try clear hx1
                try clear c2
                try clear p2
                try clear c5
                try clear c5b0
                try clear c5b1
                try clear c6
                try clear c6b0
                try clear c6b1
                try clear c7
                try clear c7b0
                try clear c7b1
                try clear c7b2
                try clear c10
                try clear c12
                try clear c12b0
                try clear c13
                try clear c13b0
                try clear c14
                try clear c14b0
                try clear c16
                try clear c16b0
                try clear c16b1
                try clear p16
                try clear q16
                try clear hx16
                try clear c18
                try clear c19
                try clear c19b0
                try clear c20
                try clear c20b0
                try clear hcz11_0
                try clear hcz11_1
                try clear hcz11_2
                try clear hcz21_0
                try clear hcz21_1
                try clear hcz21_2
                try clear hcz4_0
                try clear hcz4_1
                try clear hcz4_2
                try clear hcz8_0
                try clear hcz8_1
                try clear hcz8_2
                try clear hcz9_0
                try clear hcz9_1
                try clear hcz9_2
                try clear hfz11_0
                try clear hfz11_1
                try clear hfz11_2
                try clear hfz21_0
                try clear hfz21_1
                try clear hfz21_2
                try clear hfz4_0
                try clear hfz4_1
                try clear hfz4_2
                try clear hfz8_0
                try clear hfz8_1
                try clear hfz8_2
                try clear hfz9_0
                try clear hfz9_1
                try clear hfz9_2
                try clear hx162_0
                try clear hx164_0
                try clear p1
                try clear p16
                try clear p162
                try clear p164
                try clear p2
                try clear q1
                try clear q16
                try clear q162
                try clear q164
                obtain ⟨x52_4, rfl, HA, HK4, BK161, HB⟩ := hrel
                cases gk with
                | zero => exact absurd HA.out (by simp [spec_GoodBoard.l1])
                | succ k4 =>
                 have H := HA.out
                 clear HA
                 simp only [spec_GoodBoard.l1] at H
                 by_cases c22 : x52_4 < ((rd_L3 l0_2 x34_2).length : Int)
                 ·rw [if_pos c22] at H
                  have c22b0 : decide (x52_4 < ((rd_L3 l0_2 x34_2).length : Int)) = true := decide_eq_true c22
                  clear c22
                  by_cases c23 : 0 ≤ x52_4
                  ·rw [if_pos c23] at H
                   have c23b0 : decide (0 ≤ x52_4) = true := decide_eq_true c23
                   clear c23
                   by_cases c24 : x52_4 < ((rd_L3 l0_2 x34_2).length : Int)
                   ·rw [if_pos c24] at H
                    have c24b0 : decide (x52_4 < ((rd_L3 l0_2 x34_2).length : Int)) = true := decide_eq_true c24
                    clear c24
                    by_cases c25 : (rd (rd_L3 l0_2 x34_2) x52_4) < 0
                    ·rw [if_pos c25] at H
                     have c25b0 : decide ((rd (rd_L3 l0_2 x34_2) x52_4) < 0) = true := decide_eq_true c25
                     clear c25
                     obtain rfl := Option.some.inj H
                     have p165 : 0 ≤ (x52_4 : Int) := of_decide_eq_true as_
                     have q165 : x52_4 < ((rd_L3 l0_2 x34_2).length : Int) := of_decide_eq_true as_
                     obtain ⟨ad165, e165, hx165_0⟩ := Kd.at_int HR164_0.out x52_4 p165 q165
                     cases e165
                     replace hx165_0 := hc_ HB hx165_0
                     replace p165 := eq_true p165
                     replace q165 := eq_true q165
                     go_wp2
                     go_ret
                     exact ⟨er_, hb_⟩
                    ·rw [if_neg c25] at H
                     have c25b0 : decide ((rd (rd_L3 l0_2 x34_2) x52_4) < 0) = false := decide_eq_false c25
                     clear c25
                     by_cases c26 : (rd (rd_L3 l0_2 x34_2) x52_4) ≥ (l0_0.length : Int)
                     ·rw [if_pos c26] at H
                      have c26b0 : decide ((l0_0.length : Int) ≤ (rd (rd_L3 l0_2 x34_2) x52_4)) = true := decide_eq_true c26
                      clear c26
                      obtain rfl := Option.some.inj H
                      have p165 : 0 ≤ (x52_4 : Int) := of_decide_eq_true as_
                      have q165 : x52_4 < ((rd_L3 l0_2 x34_2).length : Int) := of_decide_eq_true as_
                      obtain ⟨ad165, e165, hx165_0⟩ := Kd.at_int HR164_0.out x52_4 p165 q165
                      cases e165
                      replace hx165_0 := hc_ HB hx165_0
                      replace p165 := eq_true p165
                      replace q165 := eq_true q165
                      go_wp2
                      go_ret
                      exact ⟨er_, hb_⟩
                     ·rw [if_neg c26] at H
                      have c26b0 : decide ((l0_0.length : Int) ≤ (rd (rd_L3 l0_2 x34_2) x52_4)) = false := decide_eq_false c26
                      clear c26
                      by_cases c27 : x52_4 > 0
                      ·rw [if_pos c27] at H
                       have c27b0 : decide (0 < x52_4) = true := decide_eq_true c27
                       clear c27
                       by_cases c28 : 0 ≤ x34_2
                       ·rw [if_pos c28] at H
                        have c28b0 : decide (0 ≤ x34_2) = true := decide_eq_true c28
                        clear c28
                        by_cases c29 : x34_2 < (l0_2.length : Int)
                        ·rw [if_pos c29] at H
                         have c29b0 : decide (x34_2 < (l0_2.length : Int)) = true := decide_eq_true c29
                         clear c29
                         obtain ⟨ji30, hji30⟩ : ∃ j_ : Int, (wrap64 (x52_4 - 1)) = j_ := ⟨_, rfl⟩
                         replace H : (if 0 ≤ (ji30) then (if (ji30) < ((rd_L3 l0_2 x34_2).length : Int) then (if (rd (rd_L3 l0_2 x34_2) (ji30)) ≥ (rd (rd_L3 l0_2 x34_2) x52_4) then (some false) else (spec_GoodBoard.l1 k4 (l0_0.length : Int) x34_2 l0_0 (l0_0.length : Int) x34_2 (rd_L3 l0_2 x34_2) ((rd_L3 l0_2 x34_2).length : Int) (wrap64 (x52_4 + 1)) l0_0 l0_1 l0_2)) else (none)) else (none)) = some r := by first | (rw [hji30] at H; exact H) | (simp only [hji30] at H ⊢; exact H)
                         have hji30w : (IntKind.i64.wrap (x52_4 - 1)) = ji30 := (i64_w _).trans hji30
                         by_cases c31 : 0 ≤ (ji30)
                         ·rw [if_pos c31] at H
                          have c31b0 : decide (0 ≤ (ji30)) = true := decide_eq_true c31
                          clear c31
                          by_cases c32 : (ji30) < ((rd_L3 l0_2 x34_2).length : Int)
                          ·rw [if_pos c32] at H
                           have c32b0 : decide ((ji30) < ((rd_L3 l0_2 x34_2).length : Int)) = true := decide_eq_true c32
                           clear c32
                           by_cases c33 : (rd (rd_L3 l0_2 x34_2) (ji30)) ≥ (rd (rd_L3 l0_2 x34_2) x52_4)
                           ·rw [if_pos c33] at H
                            have c33b0 : decide ((rd (rd_L3 l0_2 x34_2) x52_4) ≤ (rd (rd_L3 l0_2 x34_2) (ji30))) = true := decide_eq_true c33
                            clear c33
                            obtain rfl := Option.some.inj H
                            have p165 : 0 ≤ (x52_4 : Int) := of_decide_eq_true as_
                            have q165 : x52_4 < ((rd_L3 l0_2 x34_2).length : Int) := of_decide_eq_true as_
                            obtain ⟨ad165, e165, hx165_0⟩ := Kd.at_int HR164_0.out x52_4 p165 q165
                            cases e165
                            replace hx165_0 := hc_ HB hx165_0
                            replace p165 := eq_true p165
                            replace q165 := eq_true q165
                            have hcz34_0 : wr.cell? ⟨gb161, 0, none⟩ = some (.slice (some ad162) l0_0.length c0_0) := (blk_cell BK161.out 0).trans rfl
                            have hcz34_1 : wr.cell? ⟨gb161, 1, none⟩ = some (.slice A0_1 l0_1.length c0_1) := (blk_cell BK161.out 1).trans rfl
                            have hcz34_2 : wr.cell? ⟨gb161, 2, none⟩ = some (.slice (some ad164) l0_2.length c0_2) := (blk_cell BK161.out 2).trans rfl
                            have hfz34_0 := blk_frozen BK161.out 0
                            have hfz34_1 := blk_frozen BK161.out 1
                            have hfz34_2 := blk_frozen BK161.out 2
                            have p166 : 0 ≤ (x34_2 : Int) := of_decide_eq_true as_
                            have q166 : x34_2 < (l0_2.length : Int) := of_decide_eq_true as_
                            obtain ⟨ad166, A166_0, c166_0, e166, hx166_0, hl166_0, hi166_0⟩ := at_L3 HR0_2.out x34_2 p166 q166
                            obtain rfl : ad164 = ad166 := (by injection e166)
                            replace hx166_0 := hc_ HB hx166_0
                            have HR166_0 := Aside0.mk hi166_0
                            have HC166_0 := Aside0.mk hl166_0
                            clear hi166_0 hl166_0
                            replace p166 := eq_true p166
                            replace q166 := eq_true q166
                            have p167 : 0 ≤ ((ji30) : Int) := of_decide_eq_true as_
                            have q167 : (ji30) < ((rd_L3 l0_2 x34_2).length : Int) := of_decide_eq_true as_
                            obtain ⟨ad167, e167, hx167_0⟩ := Kd.at_int HR166_0.out (ji30) p167 q167
                            cases e167
                            replace hx167_0 := hc_ HB hx167_0
                            replace p167 := eq_true p167
                            replace q167 := eq_true q167
                            go_wp2
                            go_ret
                            exact ⟨by first | rfl | (simp [errW_none, errW_some] <;> rfl) | (simp only [← hji30]; first | rfl | (simp [errW_none, errW_some] <;> rfl)) | (simp [*, errW_none, errW_some] <;> rfl), hb_⟩
                           ·rw [if_neg c33] at H
                            have c33b0 : decide ((rd (rd_L3 l0_2 x34_2) x52_4) ≤ (rd (rd_L3 l0_2 x34_2) (ji30))) = false := decide_eq_false c33
                            clear c33
                            have H' := Aside0.mk H
                            clear H
                            have p165 : 0 ≤ (x52_4 : Int) := of_decide_eq_true as_
                            have q165 : x52_4 < ((rd_L3 l0_2 x34_2).length : Int) := of_decide_eq_true as_
                            obtain ⟨ad165, e165, hx165_0⟩ := Kd.at_int HR164_0.out x52_4 p165 q165
                            cases e165
                            replace hx165_0 := hc_ HB hx165_0
                            replace p165 := eq_true p165
                            replace q165 := eq_true q165
                            have hcz35_0 : wr.cell? ⟨gb161, 0, none⟩ = some (.slice (some ad162) l0_0.length c0_0) := (blk_cell BK161.out 0).trans rfl
                            have hcz35_1 : wr.cell? ⟨gb161, 1, none⟩ = some (.slice A0_1 l0_1.length c0_1) := (blk_cell BK161.out 1).trans rfl
                            have hcz35_2 : wr.cell? ⟨gb161, 2, none⟩ = some (.slice (some ad164) l0_2.length c0_2) := (blk_cell BK161.out 2).trans rfl
                            have hfz35_0 := blk_frozen BK161.out 0
                            have hfz35_1 := blk_frozen BK161.out 1
                            have hfz35_2 := blk_frozen BK161.out 2
                            have p166 : 0 ≤ (x34_2 : Int) := of_decide_eq_true as_
                            have q166 : x34_2 < (l0_2.length : Int) := of_decide_eq_true as_
                            obtain ⟨ad166, A166_0, c166_0, e166, hx166_0, hl166_0, hi166_0⟩ := at_L3 HR0_2.out x34_2 p166 q166
                            obtain rfl : ad164 = ad166 := (by injection e166)
                            replace hx166_0 := hc_ HB hx166_0
                            have HR166_0 := Aside0.mk hi166_0
                            have HC166_0 := Aside0.mk hl166_0
                            clear hi166_0 hl166_0
                            replace p166 := eq_true p166
                            replace q166 := eq_true q166
                            have p167 : 0 ≤ ((ji30) : Int) := of_decide_eq_true as_
                            have q167 : (ji30) < ((rd_L3 l0_2 x34_2).length : Int) := of_decide_eq_true as_
                            obtain ⟨ad167, e167, hx167_0⟩ := Kd.at_int HR166_0.out (ji30) p167 q167
                            cases e167
                            replace hx167_0 := hc_ HB hx167_0
                            replace p167 := eq_true p167
                            replace q167 := eq_true q167
                            go_wp2
                            go_roundg k4
                            case measure => have := HJ1.out; have := HK2.out; have := HJ14.out; have := HK4.out; omega
                            case rel => exact ⟨(wrap64 (x52_4 + 1)), es_, H', ⟨by have := HJ1.out; have := HK2.out; have := HJ14.out; have := HK4.out; omega⟩, ⟨bk_ BK161.out⟩, ⟨hb_⟩⟩
                          ·rw [if_neg c32] at H
                           exact absurd H (by simp)
                         ·rw [if_neg c31] at H
                          exact absurd H (by simp)
                        ·rw [if_neg c29] at H
                         exact absurd H (by simp)
                       ·rw [if_neg c28] at H
                        exact absurd H (by simp)
                      ·rw [if_neg c27] at H
                       have c27b0 : decide (0 < x52_4) = false := decide_eq_false c27
                       clear c27
                       have H' := Aside0.mk H
                       clear H
                       have p165 : 0 ≤ (x52_4 : Int) := of_decide_eq_true as_
                       have q165 : x52_4 < ((rd_L3 l0_2 x34_2).length : Int) := of_decide_eq_true as_
                       obtain ⟨ad165, e165, hx165_0⟩ := Kd.at_int HR164_0.out x52_4 p165 q165
                       cases e165
                       replace hx165_0 := hc_ HB hx165_0
                       replace p165 := eq_true p165
                       replace q165 := eq_true q165
                       go_wp2
                       go_roundg k4
                       case measure => have := HJ1.out; have := HK2.out; have := HJ14.out; have := HK4.out; omega
                       case rel => exact ⟨(wrap64 (x52_4 + 1)), es_, H', ⟨by have := HJ1.out; have := HK2.out; have := HJ14.out; have := HK4.out; omega⟩, ⟨bk_ BK161.out⟩, ⟨hb_⟩⟩
                   ·rw [if_neg c24] at H
                    exact absurd H (by simp)
                  ·rw [if_neg c23] at H
                   exact absurd H (by simp)
                 ·rw [if_neg c22] at H
                  have c22b0 : decide (x52_4 < ((rd_L3 l0_2 x34_2).length : Int)) = false := decide_eq_false c22
                  clear c22
                  have H' := Aside0.mk H
                  clear H
                  go_wp2
                  go_roundg k4
                  case measure => have := HJ1.out; have := HK2.out; have := HJ14.out; have := HK4.out; omega
                  case rel => exact ⟨(wrap64 (x34_2 + 1)), es_, H', ⟨by have := HJ1.out; have := HK2.out; have := HJ14.out; have := HK4.out; omega⟩, ⟨bk_ BK161.out⟩, ⟨hb_⟩⟩
              ·rw [if_neg c20] at H
               exact absurd H (by simp)
             ·rw [if_neg c19] at H
              exact absurd H (by simp)
         ·rw [if_neg c14] at H
          exact absurd H (by simp)
        ·rw [if_neg c13] at H
         exact absurd H (by simp)
       ·rw [if_neg c12] at H
        have c12b0 : decide (x34_2 < (l0_0.length : Int)) = false := decide_eq_false c12
        clear c12
        obtain rfl := Option.some.inj H
        go_wp2
        go_ret
        exact ⟨er_, hb_⟩

end Go.Proofs.YtdihodboopeakaaDoor.Pr
