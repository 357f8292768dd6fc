-- Joined and pruned by wip/tools/prune.py out of this session's own texts (Pr30, Pr18, Pr31)
import Derived.Test.YtdihodboopeakaaDoorZpb6
-- Written by this session's own print (wip/tools/mkmp.py) out of the translation. Lean checks it.
namespace Go.Proofs.YtdihodboopeakaaDoor.Pr
open Go.RowKit Go.Proofs.YtdihodboopeakaaDoorW.PrintWords Go.Proofs.YtdihodboopeakaaDoorW.PrintLast Go.Proofs.YtdihodboopeakaaDoorW.PrintMore
attribute [local go_sem] max2_int min2_int max_two min_two max_three min_three max_four min_four   -- for this text's walks alone
set_option linter.unusedVariables false
set_option linter.unusedSimpArgs false

set_option maxHeartbeats 8000000 in
set_option maxRecDepth 100000 in
theorem spec_PlayBoard.calls (k : Nat) (A0_0 : Option Addr) (c0_0 : Nat) (l0_0 : List ByteArray) (A0_1 : Option Addr) (c0_1 : Nat) (l0_1 : List Bool) (A0_2 : Option Addr) (c0_2 : Nat) (l0_2 : List (List Int)) (A1 : Option Addr) (c1 : Nat) (l1 : List Int) (a2 : Int) (A3 : Option Addr) (c3 : Nat) (l3 : List Int) (r1 : List Int) (r2 : Bool) (w : World) (hr0_0 : Kd.C Kd.string w A0_0 l0_0.length l0_0) (hc0_0 : l0_0.length ≤ c0_0) (hr0_1 : Kd.C Kd.bool w A0_1 l0_1.length l0_1) (hc0_1 : l0_1.length ≤ c0_1) (hr0_2 : Kd.C (Kd.slice 3 (Kd.int .i64)) w A0_2 l0_2.length l0_2) (hc0_2 : l0_2.length ≤ c0_2) (hr1 : Kd.C (Kd.int .i64) w A1 l1.length l1) (hc1 : l1.length ≤ c1) (hr3 : Kd.C (Kd.int .i64) w A3 l3.length l3) (hc3 : l3.length ≤ c3) (h : spec_PlayBoard.f k l0_0 l0_1 l0_2 l1 a2 l3 = some (r1, r2)) :
   Calls Tryd.prog 39 #[.agg #[.slice A0_0 l0_0.length c0_0, .slice A0_1 l0_1.length c0_1, .slice A0_2 l0_2.length c0_2], .slice A1 l1.length c1, .int .i64 a2, .slice A3 l3.length c3] w fun e w' => ∃ v0_ : Value, e = .returned (.tuple #[v0_, .bool r2]) ∧ Kd.R (Kd.int .i64) 3 w' w.heap.size (fun _ => True) v0_ r1 ∧ Below w.heap.size w w' := by
  have hu34 := Tryd.underlying34
  have HR0_0 := Aside0.mk hr0_0
  have HC0_0 := Aside0.mk hc0_0
  clear hr0_0 hc0_0
  have HR0_1 := Aside0.mk hr0_1
  have HC0_1 := Aside0.mk hc0_1
  clear hr0_1 hc0_1
  have HR0_2 := Aside0.mk hr0_2
  have HC0_2 := Aside0.mk hc0_2
  clear hr0_2 hc0_2
  have HR1 := Aside0.mk hr1
  have HC1 := Aside0.mk hc1
  clear hr1 hc1
  have HR3 := Aside0.mk hr3
  have HC3 := Aside0.mk hc3
  clear hr3 hc3
  have HB := Aside0.mk (Below.refl w.heap.size w)
  have H : ((spec_GoodBoard.f k l0_0 l0_1 l0_2).bind fun t633 => (if t633 = true then (if (l1.length : Int) = (l0_0.length : Int) then (if a2 < 0 then (spec_PlayBoard.j0 k l1 a2 l3 true l0_0 l0_1 l0_2) else (if a2 ≥ (l0_0.length : Int) then (spec_PlayBoard.j0 k l1 a2 l3 true l0_0 l0_1 l0_2) else (spec_PlayBoard.j0 k l1 a2 l3 (decide ((l3.length : Int) > 30)) l0_0 l0_1 l0_2))) else (spec_PlayBoard.j0 k l1 a2 l3 true l0_0 l0_1 l0_2)) else (spec_PlayBoard.j0 k l1 a2 l3 true l0_0 l0_1 l0_2))) = some (r1, r2) := h
  clear h
  have HC5 := Aside0.mk H
  clear H
  go_enter Tryd.func39, Tryd.ntmps39
  go_upto_region 1 with (first | ((with_reducible refine gate_dst (N := 4) rfl ?_); (try (refine gate_guard (by rfl) ?_; dsimp only)); refine box_event ?hg (N := 4) ?hd (cs := #[.slice A0_0 l0_0.length c0_0, .slice A0_1 l0_1.length c0_1, .slice A0_2 l0_2.length c0_2]) (t := 34) ?hr ?_; (case hd => rfl); (case hg => rfl); (case hr => first | (go_simp; done) | (go_simp; rfl)); intro gb632 hg w6 hbox hb; have n0_ := Aside0.mk (below_step hb_ hb); have n1_ := Aside0.mk (hbox); have n2_ : Aside0 (w.heap.size ≤ gb632) := gz_; have n3_ : Aside0 (w.heap.size ≤ gb632) := gz_; clear HB; have HB := n0_; have BK632 := n1_; have GW632 := n2_; have GE632 := n3_; clear n0_ n1_ n2_ n3_; clear hb hbox hg))
  (try simp only [Act.put, List.setIfInBounds_toArray, List.set_cons_zero, List.set_cons_succ])
  go_cut [47] (fun v47 wc => ∃ (kq : Nat) (x47_4 : Bool), v47 = .bool x47_4 ∧ Aside0 (spec_PlayBoard.j0 kq l1 a2 l3 x47_4 l0_0 l0_1 l0_2 = some (r1, r2)) ∧ Aside0 (kq ≤ k) ∧ Aside0 (wc.heap[gb632]? = some (.cells #[(.slice A0_0 l0_0.length c0_0), (.slice A0_1 l0_1.length c0_1), (.slice A0_2 l0_2.length c0_2)] 34 (0, 0))) ∧ Aside0 (Below w.heap.size w wc))
  case first =>
   have H := HC5.out
   clear HC5
   replace H := Option.bind_eq_some_iff.mp H
   obtain ⟨t633, A70, H⟩ := H
   replace H : (if t633 = true then (if (l1.length : Int) = (l0_0.length : Int) then (if a2 < 0 then (spec_PlayBoard.j0 k l1 a2 l3 true l0_0 l0_1 l0_2) else (if a2 ≥ (l0_0.length : Int) then (spec_PlayBoard.j0 k l1 a2 l3 true l0_0 l0_1 l0_2) else (spec_PlayBoard.j0 k l1 a2 l3 (decide ((l3.length : Int) > 30)) l0_0 l0_1 l0_2))) else (spec_PlayBoard.j0 k l1 a2 l3 true l0_0 l0_1 l0_2)) else (spec_PlayBoard.j0 k l1 a2 l3 true l0_0 l0_1 l0_2)) = some (r1, r2) := H
   have A7 := Aside0.mk A70
   clear A70
   by_cases c8 : t633 = true
   ·subst c8
    rw [if_pos rfl] at H
    by_cases c9 : (l1.length : Int) = (l0_0.length : Int)
    ·rw [if_pos c9] at H
     have c9b0 : ((l1.length : Int) == (l0_0.length : Int)) = true := beq_iff_eq.mpr c9
     have c9b1 : ((l1.length : Int) != (l0_0.length : Int)) = false := bne_eq_false_iff_eq.mpr c9
     have c9b2 : (l1.length == l0_0.length) = true := by first | simpa using c9 | (simp at c9 ⊢; omega)
     clear c9
     (first | rw [c9b0] | (simp only [i64_w, i32_w]; rw [c9b0]) | skip)
     by_cases c10 : a2 < 0
     ·rw [if_pos c10] at H
      have c10b0 : decide (a2 < 0) = true := decide_eq_true c10
      clear c10
      have H' := Aside0.mk H
      clear H
      have hcz11_0 : w6.cell? ⟨gb632, 0, none⟩ = some (.slice A0_0 l0_0.length c0_0) := (blk_cell BK632.out 0).trans rfl
      have hcz11_1 : w6.cell? ⟨gb632, 1, none⟩ = some (.slice A0_1 l0_1.length c0_1) := (blk_cell BK632.out 1).trans rfl
      have hcz11_2 : w6.cell? ⟨gb632, 2, none⟩ = some (.slice A0_2 l0_2.length c0_2) := (blk_cell BK632.out 2).trans rfl
      have hfz11_0 := blk_frozen BK632.out 0
      have hfz11_1 := blk_frozen BK632.out 1
      have hfz11_2 := blk_frozen BK632.out 2
      go_wp2_with (first | ((with_reducible refine gate_callee (f := 27) rfl ?_); refine goesL_ (some 22) rfl rfl Tryd.func27 (by kernel_rfl) rfl #[.agg #[.slice A0_0 l0_0.length c0_0, .slice A0_1 l0_1.length c0_1, .slice A0_2 l0_2.length c0_2]] rfl ls_ ?_; (with_reducible refine (spec_GoodBoard.calls k _ _ l0_0 _ _ l0_1 _ _ l0_2 true _ ?side1 ?side2 ?side3 ?side4 ?side5 ?side6 A7.out).mono ?_); (case side1 => exact cb_ HR0_0.out); (case side2 => exact HC0_0.out); (case side3 => exact cb_ HR0_1.out); (case side4 => exact HC0_1.out); (case side5 => exact cb_ HR0_2.out); (case side6 => exact HC0_2.out); rintro e w12 ⟨rfl, hb⟩; refine ⟨_, rfl, ?_⟩; have n0_ := bb_ BK632 hb; have n1_ := Aside0.mk (below_step hb_ hb); clear BK632; clear HB; have BK632 := n0_; have HB := n1_; clear n0_ n1_; (try clear hb); (try clear hb2); (try clear hk); (try clear hi); have hcz13_0 : w12.cell? ⟨gb632, 0, none⟩ = some (.slice A0_0 l0_0.length c0_0) := (blk_cell BK632.out 0).trans rfl; have hcz13_1 : w12.cell? ⟨gb632, 1, none⟩ = some (.slice A0_1 l0_1.length c0_1) := (blk_cell BK632.out 1).trans rfl; have hcz13_2 : w12.cell? ⟨gb632, 2, none⟩ = some (.slice A0_2 l0_2.length c0_2) := (blk_cell BK632.out 2).trans rfl; have hfz13_0 := blk_frozen BK632.out 0; have hfz13_1 := blk_frozen BK632.out 1; have hfz13_2 := blk_frozen BK632.out 2))
      go_meet
      case rel => exact ⟨_, (true), es_, H', ⟨by first | omega | exact Nat.le_refl _⟩, ⟨bk_ BK632.out⟩, ⟨hb_⟩⟩
     ·rw [if_neg c10] at H
      have c10b0 : decide (a2 < 0) = false := decide_eq_false c10
      clear c10
      by_cases c14 : a2 ≥ (l0_0.length : Int)
      ·rw [if_pos c14] at H
       have c14b0 : decide ((l0_0.length : Int) ≤ a2) = true := decide_eq_true c14
       clear c14
       have H' := Aside0.mk H
       clear H
       have hcz15_0 : w6.cell? ⟨gb632, 0, none⟩ = some (.slice A0_0 l0_0.length c0_0) := (blk_cell BK632.out 0).trans rfl
       have hcz15_1 : w6.cell? ⟨gb632, 1, none⟩ = some (.slice A0_1 l0_1.length c0_1) := (blk_cell BK632.out 1).trans rfl
       have hcz15_2 : w6.cell? ⟨gb632, 2, none⟩ = some (.slice A0_2 l0_2.length c0_2) := (blk_cell BK632.out 2).trans rfl
       have hfz15_0 := blk_frozen BK632.out 0
       have hfz15_1 := blk_frozen BK632.out 1
       have hfz15_2 := blk_frozen BK632.out 2
       go_wp2_with (first | ((with_reducible refine gate_callee (f := 27) rfl ?_); refine goesL_ (some 22) rfl rfl Tryd.func27 (by kernel_rfl) rfl #[.agg #[.slice A0_0 l0_0.length c0_0, .slice A0_1 l0_1.length c0_1, .slice A0_2 l0_2.length c0_2]] rfl ls_ ?_; (with_reducible refine (spec_GoodBoard.calls k _ _ l0_0 _ _ l0_1 _ _ l0_2 true _ ?side1 ?side2 ?side3 ?side4 ?side5 ?side6 A7.out).mono ?_); (case side1 => exact cb_ HR0_0.out); (case side2 => exact HC0_0.out); (case side3 => exact cb_ HR0_1.out); (case side4 => exact HC0_1.out); (case side5 => exact cb_ HR0_2.out); (case side6 => exact HC0_2.out); rintro e w16 ⟨rfl, hb⟩; refine ⟨_, rfl, ?_⟩; have n0_ := bb_ BK632 hb; have n1_ := Aside0.mk (below_step hb_ hb); clear BK632; clear HB; have BK632 := n0_; have HB := n1_; clear n0_ n1_; (try clear hb); (try clear hb2); (try clear hk); (try clear hi); have hcz17_0 : w16.cell? ⟨gb632, 0, none⟩ = some (.slice A0_0 l0_0.length c0_0) := (blk_cell BK632.out 0).trans rfl; have hcz17_1 : w16.cell? ⟨gb632, 1, none⟩ = some (.slice A0_1 l0_1.length c0_1) := (blk_cell BK632.out 1).trans rfl; have hcz17_2 : w16.cell? ⟨gb632, 2, none⟩ = some (.slice A0_2 l0_2.length c0_2) := (blk_cell BK632.out 2).trans rfl; have hfz17_0 := blk_frozen BK632.out 0; have hfz17_1 := blk_frozen BK632.out 1; have hfz17_2 := blk_frozen BK632.out 2))
       go_meet
       case rel => exact ⟨_, (true), es_, H', ⟨by first | omega | exact Nat.le_refl _⟩, ⟨bk_ BK632.out⟩, ⟨hb_⟩⟩
      ·rw [if_neg c14] at H
       have c14b0 : decide ((l0_0.length : Int) ≤ a2) = false := decide_eq_false c14
       clear c14
       have H' := Aside0.mk H
       clear H
       have hcz18_0 : w6.cell? ⟨gb632, 0, none⟩ = some (.slice A0_0 l0_0.length c0_0) := (blk_cell BK632.out 0).trans rfl
       have hcz18_1 : w6.cell? ⟨gb632, 1, none⟩ = some (.slice A0_1 l0_1.length c0_1) := (blk_cell BK632.out 1).trans rfl
       have hcz18_2 : w6.cell? ⟨gb632, 2, none⟩ = some (.slice A0_2 l0_2.length c0_2) := (blk_cell BK632.out 2).trans rfl
       have hfz18_0 := blk_frozen BK632.out 0
       have hfz18_1 := blk_frozen BK632.out 1
       have hfz18_2 := blk_frozen BK632.out 2
       go_wp2_with (first | ((with_reducible refine gate_callee (f := 27) rfl ?_); refine goesL_ (some 22) rfl rfl Tryd.func27 (by kernel_rfl) rfl #[.agg #[.slice A0_0 l0_0.length c0_0, .slice A0_1 l0_1.length c0_1, .slice A0_2 l0_2.length c0_2]] rfl ls_ ?_; (with_reducible refine (spec_GoodBoard.calls k _ _ l0_0 _ _ l0_1 _ _ l0_2 true _ ?side1 ?side2 ?side3 ?side4 ?side5 ?side6 A7.out).mono ?_); (case side1 => exact cb_ HR0_0.out); (case side2 => exact HC0_0.out); (case side3 => exact cb_ HR0_1.out); (case side4 => exact HC0_1.out); (case side5 => exact cb_ HR0_2.out); (case side6 => exact HC0_2.out); rintro e w19 ⟨rfl, hb⟩; refine ⟨_, rfl, ?_⟩; have n0_ := bb_ BK632 hb; have n1_ := Aside0.mk (below_step hb_ hb); clear BK632; clear HB; have BK632 := n0_; have HB := n1_; clear n0_ n1_; (try clear hb); (try clear hb2); (try clear hk); (try clear hi); have hcz20_0 : w19.cell? ⟨gb632, 0, none⟩ = some (.slice A0_0 l0_0.length c0_0) := (blk_cell BK632.out 0).trans rfl; have hcz20_1 : w19.cell? ⟨gb632, 1, none⟩ = some (.slice A0_1 l0_1.length c0_1) := (blk_cell BK632.out 1).trans rfl; have hcz20_2 : w19.cell? ⟨gb632, 2, none⟩ = some (.slice A0_2 l0_2.length c0_2) := (blk_cell BK632.out 2).trans rfl; have hfz20_0 := blk_frozen BK632.out 0; have hfz20_1 := blk_frozen BK632.out 1; have hfz20_2 := blk_frozen BK632.out 2))
       go_meet
       case rel => exact ⟨_, (decide ((l3.length : Int) > 30)), es_, H', ⟨by first | omega | exact Nat.le_refl _⟩, ⟨bk_ BK632.out⟩, ⟨hb_⟩⟩
    ·rw [if_neg c9] at H
     have c9b0 : ((l1.length : Int) == (l0_0.length : Int)) = false := beq_eq_false_iff_ne.mpr c9
     have c9b1 : ((l1.length : Int) != (l0_0.length : Int)) = true := bne_iff_ne.mpr c9
     have c9b2 : (l1.length == l0_0.length) = false := by first | simpa using c9 | (simp at c9 ⊢; omega)
     (first | rw [c9b0] | (simp only [i64_w, i32_w]; rw [c9b0]) | skip)
     have H' := Aside0.mk H
     clear H
     have hcz21_0 : w6.cell? ⟨gb632, 0, none⟩ = some (.slice A0_0 l0_0.length c0_0) := (blk_cell BK632.out 0).trans rfl
     have hcz21_1 : w6.cell? ⟨gb632, 1, none⟩ = some (.slice A0_1 l0_1.length c0_1) := (blk_cell BK632.out 1).trans rfl
     have hcz21_2 : w6.cell? ⟨gb632, 2, none⟩ = some (.slice A0_2 l0_2.length c0_2) := (blk_cell BK632.out 2).trans rfl
     have hfz21_0 := blk_frozen BK632.out 0
     have hfz21_1 := blk_frozen BK632.out 1
     have hfz21_2 := blk_frozen BK632.out 2
     go_wp2_with (first | ((with_reducible refine gate_callee (f := 27) rfl ?_); refine goesL_ (some 22) rfl rfl Tryd.func27 (by kernel_rfl) rfl #[.agg #[.slice A0_0 l0_0.length c0_0, .slice A0_1 l0_1.length c0_1, .slice A0_2 l0_2.length c0_2]] rfl ls_ ?_; (with_reducible refine (spec_GoodBoard.calls k _ _ l0_0 _ _ l0_1 _ _ l0_2 true _ ?side1 ?side2 ?side3 ?side4 ?side5 ?side6 A7.out).mono ?_); (case side1 => exact cb_ HR0_0.out); (case side2 => exact HC0_0.out); (case side3 => exact cb_ HR0_1.out); (case side4 => exact HC0_1.out); (case side5 => exact cb_ HR0_2.out); (case side6 => exact HC0_2.out); rintro e w22 ⟨rfl, hb⟩; refine ⟨_, rfl, ?_⟩; have n0_ := bb_ BK632 hb; have n1_ := Aside0.mk (below_step hb_ hb); clear BK632; clear HB; have BK632 := n0_; have HB := n1_; clear n0_ n1_; (try clear hb); (try clear hb2); (try clear hk); (try clear hi); have hcz23_0 : w22.cell? ⟨gb632, 0, none⟩ = some (.slice A0_0 l0_0.length c0_0) := (blk_cell BK632.out 0).trans rfl; have hcz23_1 : w22.cell? ⟨gb632, 1, none⟩ = some (.slice A0_1 l0_1.length c0_1) := (blk_cell BK632.out 1).trans rfl; have hcz23_2 : w22.cell? ⟨gb632, 2, none⟩ = some (.slice A0_2 l0_2.length c0_2) := (blk_cell BK632.out 2).trans rfl; have hfz23_0 := blk_frozen BK632.out 0; have hfz23_1 := blk_frozen BK632.out 1; have hfz23_2 := blk_frozen BK632.out 2))
     go_meet
     case rel => exact ⟨_, (true), es_, H', ⟨by first | omega | exact Nat.le_refl _⟩, ⟨bk_ BK632.out⟩, ⟨hb_⟩⟩
   ·replace c8 := Bool.eq_false_iff.mpr c8
    subst c8
    rw [if_neg (show ¬ (false = true) by decide)] at H
    have H' := Aside0.mk H
    clear H
    have hcz24_0 : w6.cell? ⟨gb632, 0, none⟩ = some (.slice A0_0 l0_0.length c0_0) := (blk_cell BK632.out 0).trans rfl
    have hcz24_1 : w6.cell? ⟨gb632, 1, none⟩ = some (.slice A0_1 l0_1.length c0_1) := (blk_cell BK632.out 1).trans rfl
    have hcz24_2 : w6.cell? ⟨gb632, 2, none⟩ = some (.slice A0_2 l0_2.length c0_2) := (blk_cell BK632.out 2).trans rfl
    have hfz24_0 := blk_frozen BK632.out 0
    have hfz24_1 := blk_frozen BK632.out 1
    have hfz24_2 := blk_frozen BK632.out 2
    go_wp2_with (first | ((with_reducible refine gate_callee (f := 27) rfl ?_); refine goesL_ (some 22) rfl rfl Tryd.func27 (by kernel_rfl) rfl #[.agg #[.slice A0_0 l0_0.length c0_0, .slice A0_1 l0_1.length c0_1, .slice A0_2 l0_2.length c0_2]] rfl ls_ ?_; (with_reducible refine (spec_GoodBoard.calls k _ _ l0_0 _ _ l0_1 _ _ l0_2 false _ ?side1 ?side2 ?side3 ?side4 ?side5 ?side6 A7.out).mono ?_); (case side1 => exact cb_ HR0_0.out); (case side2 => exact HC0_0.out); (case side3 => exact cb_ HR0_1.out); (case side4 => exact HC0_1.out); (case side5 => exact cb_ HR0_2.out); (case side6 => exact HC0_2.out); rintro e w25 ⟨rfl, hb⟩; refine ⟨_, rfl, ?_⟩; have n0_ := bb_ BK632 hb; have n1_ := Aside0.mk (below_step hb_ hb); clear BK632; clear HB; have BK632 := n0_; have HB := n1_; clear n0_ n1_; (try clear hb); (try clear hb2); (try clear hk); (try clear hi)))
    go_meet
    case rel => exact ⟨_, (true), es_, H', ⟨by first | omega | exact Nat.le_refl _⟩, ⟨bk_ BK632.out⟩, ⟨hb_⟩⟩
  case rest =>
   clear HC5
   obtain ⟨kq, x47_4, rfl, HA, HJ4, BK632, HB⟩ := hcut
   cases kq with
   | zero => exact absurd HA.out (by simp [spec_PlayBoard.j0])
   | succ kj4 =>
    have H := HA.out
    clear HA
    simp only [spec_PlayBoard.j0] at H
    by_cases c26 : x47_4 = true
    ·subst c26
     rw [if_pos rfl] at H
     simp only [Option.some.injEq, Prod.mk.injEq] at H
     obtain ⟨rfl, rfl⟩ := H
     go_wp2
     go_ret2
     exact ⟨_, er_, by first | exact Kd.R_nil _ _ _ _ _ | exact Kd.N_nil _ _ _ _ _ | exact Kd.V_nil _ _ _ _ _ | exact Kd.Q_nil _ _ _ _ _ | exact Kd.S_nil _ _ _ _ _, hb_⟩
    ·replace c26 := Bool.eq_false_iff.mpr c26
     subst c26
     rw [if_neg (show ¬ (false = true) by decide)] at H
     have H' := Aside0.mk H
     clear H
     go_wp2
     go_loopg [50] kj4 (fun kq v50 w' => ∃ (x50_2 : Int), v50 = .int .i64 x50_2 ∧ Aside0 (spec_PlayBoard.l0 kq l1 a2 l3 l3 (l3.length : Int) x50_2 l0_0 l0_1 l0_2 = some (r1, r2)) ∧ Aside0 (kq ≤ kj4) ∧ Aside0 (w'.heap[gb632]? = some (.cells #[(.slice A0_0 l0_0.length c0_0), (.slice A0_1 l0_1.length c0_1), (.slice A0_2 l0_2.length c0_2)] 34 (0, 0))) ∧ Aside0 (Below w.heap.size w w'))
     case atStart => exact ⟨(0), es_, H', ⟨Nat.le_refl _⟩, ⟨bk_ BK632.out⟩, ⟨hb_⟩⟩
     case round =>
      clear H'
      obtain ⟨x50_2, rfl, HA, HK2, BK632, HB⟩ := hrel
      cases gk with
      | zero => exact absurd HA.out (by simp [spec_PlayBoard.l0])
      | succ k2 =>
       have H := HA.out
       clear HA
       simp only [spec_PlayBoard.l0] at H
       by_cases c27 : x50_2 < (l3.length : Int)
       ·rw [if_pos c27] at H
        have c27b0 : decide (x50_2 < (l3.length : Int)) = true := decide_eq_true c27
        clear c27
        by_cases c28 : 0 ≤ x50_2
        ·rw [if_pos c28] at H
         have c28b0 : decide (0 ≤ x50_2) = true := decide_eq_true c28
         clear c28
         by_cases c29 : x50_2 < (l3.length : Int)
         ·rw [if_pos c29] at H
          have c29b0 : decide (x50_2 < (l3.length : Int)) = true := decide_eq_true c29
          clear c29
          by_cases c30 : (rd l3 x50_2) < 0
          ·rw [if_pos c30] at H
           have c30b0 : decide ((rd l3 x50_2) < 0) = true := decide_eq_true c30
           clear c30
           simp only [Option.some.injEq, Prod.mk.injEq] at H
           obtain ⟨rfl, rfl⟩ := H
           have p634 : 0 ≤ (x50_2 : Int) := of_decide_eq_true as_
           have q634 : x50_2 < (l3.length : Int) := of_decide_eq_true as_
           obtain ⟨ad634, e634, hx634_0⟩ := Kd.at_int HR3.out x50_2 p634 q634
           cases e634
           replace hx634_0 := hc_ HB hx634_0
           replace p634 := eq_true p634
           replace q634 := eq_true q634
           go_wp2
           go_ret2
           exact ⟨_, er_, by first | exact Kd.R_nil _ _ _ _ _ | exact Kd.N_nil _ _ _ _ _ | exact Kd.V_nil _ _ _ _ _ | exact Kd.Q_nil _ _ _ _ _ | exact Kd.S_nil _ _ _ _ _, hb_⟩
          ·rw [if_neg c30] at H
           have c30b0 : decide ((rd l3 x50_2) < 0) = false := decide_eq_false c30
           clear c30
           have H' := Aside0.mk H
           clear H
           have p634 : 0 ≤ (x50_2 : Int) := of_decide_eq_true as_
           have q634 : x50_2 < (l3.length : Int) := of_decide_eq_true as_
           obtain ⟨ad634, e634, hx634_0⟩ := Kd.at_int HR3.out x50_2 p634 q634
           cases e634
           replace hx634_0 := hc_ HB hx634_0
           replace p634 := eq_true p634
           replace q634 := eq_true q634
           go_wp2
           go_roundg k2
           case measure => have := HJ4.out; have := HK2.out; omega
           case rel => exact ⟨(wrap64 (x50_2 + 1)), es_, H', ⟨by have := HJ4.out; have := HK2.out; omega⟩, ⟨bk_ BK632.out⟩, ⟨hb_⟩⟩
         ·rw [if_neg c29] at H
          exact absurd H (by simp)
        ·rw [if_neg c28] at H
         exact absurd H (by simp)
       ·rw [if_neg c27] at H
        have c27b0 : decide (x50_2 < (l3.length : Int)) = false := decide_eq_false c27
        clear c27
        obtain ⟨y635, hy635⟩ : ∃ y_ : List Int, y_ = (([a2] : List Int)) := ⟨_, rfl⟩
        replace H : (spec_PlayBoard.l1 k2 l1 y635 a2 l3 (l3.length : Int) 0 l0_0 l0_1 l0_2) = some (r1, r2) := by first | (rw [hy635]; with_reducible exact H) | (have H2_ := (Option.bind_some _ _).symm.trans H; rw [hy635]; with_reducible exact H2_) | (have H2_ := (Option.bind_some _ _).symm.trans H; with_reducible exact H2_) | with_reducible exact H | (rw [hy635]; exact H) | exact H
        have Ny635 := Aside0.mk hy635
        clear hy635
        have H' := Aside0.mk H
        clear H
        go_wp2_with (first | ((with_reducible refine gate_dst (N := 58) rfl ?_); (try (refine gate_guard (by rfl) ?_; dsimp only)); refine Kd.R_lit (Kd.int .i64) _ 3 ?hg (N := 58) ?hd (xs := ([a2] : List Int)) (inner := [.int .i64 a2]) (ok := fun _ => True) (okp := fun _ => True) ?hr ?hp (fun _ hk => hk) trivial (Below.refl _ _) (Nat.le_refl _) (by simp) ?_; (case hd => rfl); (case hg => rfl); (case hr => first | (go_simp; done) | (go_simp; rfl)); (case hp => exact (Reps.one (show Kd.M (Kd.int .i64) _ _ _ a2 [.int .i64 a2] from rfl) (Reps.none _ _))); intro v636 w31 ho32 hb hg_ hnew_; clear hg_ hnew_; (first | rw [← Ny635.out] at ho32 | (simp only [Int.reduceToNat] at ho32; rw [← Ny635.out] at ho32)); have n0_ := Aside0.mk (Kd.R_lower ho32 (below_size hb_)); have n1_ := bb_ BK632 hb; have n2_ := Aside0.mk (below_step hb_ hb); clear BK632; clear HB; have HO637 := n0_; have BK632 := n1_; have HB := n2_; clear n0_ n1_ n2_; clear hb ho32))
        go_loopg [12, 13, 62] k2 (fun kq v12 v13 v62 w' => ∃ (x12_3 : List Int) (x13_3 : Int) (x62_3 : Int), v13 = .int .i64 x13_3 ∧ v62 = .int .i64 x62_3 ∧ Aside0 (spec_PlayBoard.l1 kq l1 x12_3 x13_3 l3 (l3.length : Int) x62_3 l0_0 l0_1 l0_2 = some (r1, r2)) ∧ Aside0 (kq ≤ k2) ∧ Aside0 (Kd.R (Kd.int .i64) 3 w' w.heap.size (fun _ => True) v12 x12_3) ∧ Aside0 (w'.heap[gb632]? = some (.cells #[(.slice A0_0 l0_0.length c0_0), (.slice A0_1 l0_1.length c0_1), (.slice A0_2 l0_2.length c0_2)] 34 (0, 0))) ∧ Aside0 (Below w.heap.size w w'))
        case atStart => exact ⟨(y635), (a2), (0), es_, es_, H', ⟨Nat.le_refl _⟩, ⟨ra_ HO637.out⟩, ⟨bk_ BK632.out⟩, ⟨hb_⟩⟩
        case round =>
         clear H'
         obtain ⟨x12_3, x13_3, x62_3, rfl, rfl, HA, HK3, HO_12, BK632, HB⟩ := hrel
         cases gk with
         | zero => exact absurd HA.out (by simp [spec_PlayBoard.l1])
         | succ k3 =>
          have H := HA.out
          clear HA
          simp only [spec_PlayBoard.l1] at H
          by_cases c33 : x62_3 < (l3.length : Int)
          ·rw [if_pos c33] at H
           have c33b0 : decide (x62_3 < (l3.length : Int)) = true := decide_eq_true c33
           clear c33
           by_cases c34 : 0 ≤ x62_3
           ·rw [if_pos c34] at H
            have c34b0 : decide (0 ≤ x62_3) = true := decide_eq_true c34
            clear c34
            by_cases c35 : x62_3 < (l3.length : Int)
            ·rw [if_pos c35] at H
             have c35b0 : decide (x62_3 < (l3.length : Int)) = true := decide_eq_true c35
             clear c35
             by_cases c36 : 0 ≤ x13_3
             ·rw [if_pos c36] at H
              have c36b0 : decide (0 ≤ x13_3) = true := decide_eq_true c36
              clear c36
              by_cases c37 : x13_3 < (l0_2.length : Int)
              ·rw [if_pos c37] at H
               have c37b0 : decide (x13_3 < (l0_2.length : Int)) = true := decide_eq_true c37
               clear c37
               by_cases c38 : ((rd_L3 l0_2 x13_3).length : Int) = 0
               ·rw [if_pos c38] at H
                have c38b0 : (((rd_L3 l0_2 x13_3).length : Int) == 0) = true := beq_iff_eq.mpr c38
                have c38b1 : (((rd_L3 l0_2 x13_3).length : Int) != 0) = false := bne_eq_false_iff_eq.mpr c38
                clear c38
                simp only [Option.some.injEq, Prod.mk.injEq] at H
                obtain ⟨rfl, rfl⟩ := H
                have p638 : 0 ≤ (x62_3 : Int) := of_decide_eq_true as_
                have q638 : x62_3 < (l3.length : Int) := of_decide_eq_true as_
                obtain ⟨ad638, e638, hx638_0⟩ := Kd.at_int HR3.out x62_3 p638 q638
                cases e638
                replace hx638_0 := hc_ HB hx638_0
                replace p638 := eq_true p638
                replace q638 := eq_true q638
                have hcz39_0 : wr.cell? ⟨gb632, 0, none⟩ = some (.slice A0_0 l0_0.length c0_0) := (blk_cell BK632.out 0).trans rfl
                have hcz39_1 : wr.cell? ⟨gb632, 1, none⟩ = some (.slice A0_1 l0_1.length c0_1) := (blk_cell BK632.out 1).trans rfl
                have hcz39_2 : wr.cell? ⟨gb632, 2, none⟩ = some (.slice A0_2 l0_2.length c0_2) := (blk_cell BK632.out 2).trans rfl
                have hfz39_0 := blk_frozen BK632.out 0
                have hfz39_1 := blk_frozen BK632.out 1
                have hfz39_2 := blk_frozen BK632.out 2
                have p639 : 0 ≤ (x13_3 : Int) := of_decide_eq_true as_
                have q639 : x13_3 < (l0_2.length : Int) := of_decide_eq_true as_
                obtain ⟨ad639, A639_0, c639_0, e639, hx639_0, hl639_0, hi639_0⟩ := at_L3 HR0_2.out x13_3 p639 q639
                cases e639
                replace hx639_0 := hc_ HB hx639_0
                have HR639_0 := Aside0.mk hi639_0
                have HC639_0 := Aside0.mk hl639_0
                clear hi639_0 hl639_0
                replace p639 := eq_true p639
                replace q639 := eq_true q639
                go_wp2
                go_ret2
                exact ⟨_, er_, by (with_reducible repeat (first | apply Kd.R_alloc | apply Kd.R_drewN | apply Kd.R_drew)); exact HO_12.out, hb_⟩
               ·rw [if_neg c38] at H
                have c38b0 : (((rd_L3 l0_2 x13_3).length : Int) == 0) = false := beq_eq_false_iff_ne.mpr c38
                have c38b1 : (((rd_L3 l0_2 x13_3).length : Int) != 0) = true := bne_iff_ne.mpr c38
                have c38b2 : ¬ ((rd_L3 l0_2 x13_3) = []) := fun h_ => c38 (by rw [h_]; rfl)
                obtain ⟨ji40, hji40⟩ : ∃ j_ : Int, (Int.tmod (rd l3 x62_3) ((rd_L3 l0_2 x13_3).length : Int)) = j_ := ⟨_, rfl⟩
                replace H : (if 0 ≤ (ji40) then (if (ji40) < ((rd_L3 l0_2 x13_3).length : Int) then (if x13_3 < (l0_1.length : Int) then (if rdOf false l0_1 x13_3 = true then (if x13_3 < (l1.length : Int) then (if (rd l1 x13_3) = (-1) then (some (x12_3, true)) else (spec_PlayBoard.l2 k3 l1 x12_3 (rd l1 x13_3) false l3 (l3.length : Int) x62_3 (rd_L3 l0_2 x13_3) ((rd_L3 l0_2 x13_3).length : Int) 0 l0_0 l0_1 l0_2)) else (none)) else (if x12_3.length < 17592186044416 then (spec_PlayBoard.l1 k3 l1 (x12_3 ++ [rd (rd_L3 l0_2 x13_3) (ji40)]) (rd (rd_L3 l0_2 x13_3) (ji40)) l3 (l3.length : Int) (wrap64 (x62_3 + 1)) l0_0 l0_1 l0_2) else (none))) else (none)) else (none)) else (none)) = some (r1, r2) := by first | (rw [hji40] at H; exact H) | (simp only [hji40] at H ⊢; exact H)
                by_cases c41 : 0 ≤ (ji40)
                ·rw [if_pos c41] at H
                 have c41b0 : decide (0 ≤ (ji40)) = true := decide_eq_true c41
                 clear c41
                 by_cases c42 : (ji40) < ((rd_L3 l0_2 x13_3).length : Int)
                 ·rw [if_pos c42] at H
                  have c42b0 : decide ((ji40) < ((rd_L3 l0_2 x13_3).length : Int)) = true := decide_eq_true c42
                  clear c42
                  by_cases c43 : x13_3 < (l0_1.length : Int)
                  ·rw [if_pos c43] at H
                   have c43b0 : decide (x13_3 < (l0_1.length : Int)) = true := decide_eq_true c43
                   clear c43
                   obtain ⟨bq44, hbq44⟩ : ∃ b_ : Bool, b_ = (rdOf false l0_1 x13_3) := ⟨_, rfl⟩
                   replace H : (if bq44 = true then (if x13_3 < (l1.length : Int) then (if (rd l1 x13_3) = (-1) then (some (x12_3, true)) else (spec_PlayBoard.l2 k3 l1 x12_3 (rd l1 x13_3) false l3 (l3.length : Int) x62_3 (rd_L3 l0_2 x13_3) ((rd_L3 l0_2 x13_3).length : Int) 0 l0_0 l0_1 l0_2)) else (none)) else (if x12_3.length < 17592186044416 then (spec_PlayBoard.l1 k3 l1 (x12_3 ++ [rd (rd_L3 l0_2 x13_3) (ji40)]) (rd (rd_L3 l0_2 x13_3) (ji40)) l3 (l3.length : Int) (wrap64 (x62_3 + 1)) l0_0 l0_1 l0_2) else (none))) = some (r1, r2) := by rw [← hbq44] at H; exact H
                   have Nbq44 := Aside0.mk hbq44
                   clear hbq44
                   by_cases c45 : bq44 = true
                   ·subst c45
                    rw [if_pos rfl] at H
                    by_cases c46 : x13_3 < (l1.length : Int)
                    ·rw [if_pos c46] at H
                     have c46b0 : decide (x13_3 < (l1.length : Int)) = true := decide_eq_true c46
                     clear c46
                     by_cases c47 : (rd l1 x13_3) = (-1)
                     ·rw [if_pos c47] at H
                      have c47b0 : ((rd l1 x13_3) == (-1)) = true := beq_iff_eq.mpr c47
                      have c47b1 : ((rd l1 x13_3) != (-1)) = false := bne_eq_false_iff_eq.mpr c47
                      clear c47
                      simp only [Option.some.injEq, Prod.mk.injEq] at H
                      obtain ⟨rfl, rfl⟩ := H
                      have p638 : 0 ≤ (x62_3 : Int) := of_decide_eq_true as_
                      have q638 : x62_3 < (l3.length : Int) := of_decide_eq_true as_
                      obtain ⟨ad638, e638, hx638_0⟩ := Kd.at_int HR3.out x62_3 p638 q638
                      cases e638
                      replace hx638_0 := hc_ HB hx638_0
                      replace p638 := eq_true p638
                      replace q638 := eq_true q638
                      have hcz48_0 : wr.cell? ⟨gb632, 0, none⟩ = some (.slice A0_0 l0_0.length c0_0) := (blk_cell BK632.out 0).trans rfl
                      have hcz48_1 : wr.cell? ⟨gb632, 1, none⟩ = some (.slice A0_1 l0_1.length c0_1) := (blk_cell BK632.out 1).trans rfl
                      have hcz48_2 : wr.cell? ⟨gb632, 2, none⟩ = some (.slice A0_2 l0_2.length c0_2) := (blk_cell BK632.out 2).trans rfl
                      have hfz48_0 := blk_frozen BK632.out 0
                      have hfz48_1 := blk_frozen BK632.out 1
                      have hfz48_2 := blk_frozen BK632.out 2
                      have p639 : 0 ≤ (x13_3 : Int) := of_decide_eq_true as_
                      have q639 : x13_3 < (l0_2.length : Int) := of_decide_eq_true as_
                      obtain ⟨ad639, A639_0, c639_0, e639, hx639_0, hl639_0, hi639_0⟩ := at_L3 HR0_2.out x13_3 p639 q639
                      cases e639
                      replace hx639_0 := hc_ HB hx639_0
                      have HR639_0 := Aside0.mk hi639_0
                      have HC639_0 := Aside0.mk hl639_0
                      clear hi639_0 hl639_0
                      replace p639 := eq_true p639
                      replace q639 := eq_true q639
                      have p640 : 0 ≤ ((ji40) : Int) := of_decide_eq_true as_
                      have q640 : (ji40) < ((rd_L3 l0_2 x13_3).length : Int) := of_decide_eq_true as_
                      obtain ⟨ad640, e640, hx640_0⟩ := Kd.at_int HR639_0.out (ji40) p640 q640
                      cases e640
                      replace hx640_0 := hc_ HB hx640_0
                      replace p640 := eq_true p640
                      replace q640 := eq_true q640
                      have p641 : 0 ≤ (x13_3 : Int) := of_decide_eq_true as_
                      have q641 : x13_3 < (l0_1.length : Int) := of_decide_eq_true as_
                      obtain ⟨ad641, e641, hx641_0⟩ := Kd.at_bool HR0_1.out x13_3 p641 q641
                      (try rw [← Nbq44.out] at hx641_0)
                      cases e641
                      replace hx641_0 := hc_ HB hx641_0
                      replace p641 := eq_true p641
                      replace q641 := eq_true q641
                      have p642 : 0 ≤ (x13_3 : Int) := of_decide_eq_true as_
                      have q642 : x13_3 < (l1.length : Int) := of_decide_eq_true as_
                      obtain ⟨ad642, e642, hx642_0⟩ := Kd.at_int HR1.out x13_3 p642 q642
                      cases e642
                      replace hx642_0 := hc_ HB hx642_0
                      replace p642 := eq_true p642
                      replace q642 := eq_true q642
                      go_wp2
                      go_ret2
                      exact ⟨_, by first | rfl | (simp [errW_none, errW_some] <;> rfl) | (simp only [← hji40]; first | rfl | (simp [errW_none, errW_some] <;> rfl)) | (simp [*, errW_none, errW_some] <;> rfl), by (with_reducible repeat (first | apply Kd.R_alloc | apply Kd.R_drewN | apply Kd.R_drew)); exact HO_12.out, hb_⟩
                     ·rw [if_neg c47] at H
                      have c47b0 : ((rd l1 x13_3) == (-1)) = false := beq_eq_false_iff_ne.mpr c47
                      have c47b1 : ((rd l1 x13_3) != (-1)) = true := bne_iff_ne.mpr c47
                      have H' := Aside0.mk H
                      clear H
                      have p638 : 0 ≤ (x62_3 : Int) := of_decide_eq_true as_
                      have q638 : x62_3 < (l3.length : Int) := of_decide_eq_true as_
                      obtain ⟨ad638, e638, hx638_0⟩ := Kd.at_int HR3.out x62_3 p638 q638
                      cases e638
                      replace hx638_0 := hc_ HB hx638_0
                      replace p638 := eq_true p638
                      replace q638 := eq_true q638
                      have hcz49_0 : wr.cell? ⟨gb632, 0, none⟩ = some (.slice A0_0 l0_0.length c0_0) := (blk_cell BK632.out 0).trans rfl
                      have hcz49_1 : wr.cell? ⟨gb632, 1, none⟩ = some (.slice A0_1 l0_1.length c0_1) := (blk_cell BK632.out 1).trans rfl
                      have hcz49_2 : wr.cell? ⟨gb632, 2, none⟩ = some (.slice A0_2 l0_2.length c0_2) := (blk_cell BK632.out 2).trans rfl
                      have hfz49_0 := blk_frozen BK632.out 0
                      have hfz49_1 := blk_frozen BK632.out 1
                      have hfz49_2 := blk_frozen BK632.out 2
                      have p639 : 0 ≤ (x13_3 : Int) := of_decide_eq_true as_
                      have q639 : x13_3 < (l0_2.length : Int) := of_decide_eq_true as_
                      obtain ⟨ad639, A639_0, c639_0, e639, hx639_0, hl639_0, hi639_0⟩ := at_L3 HR0_2.out x13_3 p639 q639
                      cases e639
                      replace hx639_0 := hc_ HB hx639_0
                      have HR639_0 := Aside0.mk hi639_0
                      have HC639_0 := Aside0.mk hl639_0
                      clear hi639_0 hl639_0
                      replace p639 := eq_true p639
                      replace q639 := eq_true q639
                      have p640 : 0 ≤ ((ji40) : Int) := of_decide_eq_true as_
                      have q640 : (ji40) < ((rd_L3 l0_2 x13_3).length : Int) := of_decide_eq_true as_
                      obtain ⟨ad640, e640, hx640_0⟩ := Kd.at_int HR639_0.out (ji40) p640 q640
                      cases e640
                      replace hx640_0 := hc_ HB hx640_0
                      replace p640 := eq_true p640
                      replace q640 := eq_true q640
                      have p641 : 0 ≤ (x13_3 : Int) := of_decide_eq_true as_
                      have q641 : x13_3 < (l0_1.length : Int) := of_decide_eq_true as_
                      obtain ⟨ad641, e641, hx641_0⟩ := Kd.at_bool HR0_1.out x13_3 p641 q641
                      (try rw [← Nbq44.out] at hx641_0)
                      cases e641
                      replace hx641_0 := hc_ HB hx641_0
                      replace p641 := eq_true p641
                      replace q641 := eq_true q641
                      have p642 : 0 ≤ (x13_3 : Int) := of_decide_eq_true as_
                      have q642 : x13_3 < (l1.length : Int) := of_decide_eq_true as_
                      obtain ⟨ad642, e642, hx642_0⟩ := Kd.at_int HR1.out x13_3 p642 q642
                      cases e642
                      replace hx642_0 := hc_ HB hx642_0
                      replace p642 := eq_true p642
                      replace q642 := eq_true q642
                      go_wp2
                      go_loopg [18, 94] k3 (fun kq v18 v94 w' => ∃ (x18_4 : Bool) (x94_4 : Int), v18 = .bool x18_4 ∧ v94 = .int .i64 x94_4 ∧ Aside0 (spec_PlayBoard.l2 kq l1 x12_3 (rd l1 x13_3) x18_4 l3 (l3.length : Int) x62_3 (rd_L3 l0_2 x13_3) ((rd_L3 l0_2 x13_3).length : Int) x94_4 l0_0 l0_1 l0_2 = some (r1, r2)) ∧ Aside0 (kq ≤ k3) ∧ Aside0 (Kd.R (Kd.int .i64) 3 w' w.heap.size (fun _ => True) u12 x12_3) ∧ Aside0 (w'.heap[gb632]? = some (.cells #[(.slice A0_0 l0_0.length c0_0), (.slice (some ad641) l0_1.length c0_1), (.slice (some ad639) l0_2.length c0_2)] 34 (0, 0))) ∧ Aside0 (Below w.heap.size w w'))
                      case atStart => exact ⟨(false), (0), es_, es_, H', ⟨Nat.le_refl _⟩, ⟨ra_ HO_12.out⟩, ⟨bk_ BK632.out⟩, ⟨hb_⟩⟩
                      case round =>
                       clear H'
                       obtain ⟨x18_4, x94_4, rfl, rfl, HA, HK4, HO_12, BK632, HB⟩ := hrel
                       cases gk with
                       | zero => exact absurd HA.out (by simp [spec_PlayBoard.l2])
                       | succ k4 =>
                        have H := HA.out
                        clear HA
                        simp only [spec_PlayBoard.l2] at H
                        by_cases c50 : x94_4 < ((rd_L3 l0_2 x13_3).length : Int)
                        ·rw [if_pos c50] at H
                         have c50b0 : decide (x94_4 < ((rd_L3 l0_2 x13_3).length : Int)) = true := decide_eq_true c50
                         clear c50
                         by_cases c51 : 0 ≤ x94_4
                         ·rw [if_pos c51] at H
                          have c51b0 : decide (0 ≤ x94_4) = true := decide_eq_true c51
                          clear c51
                          by_cases c52 : x94_4 < ((rd_L3 l0_2 x13_3).length : Int)
                          ·rw [if_pos c52] at H
                           have c52b0 : decide (x94_4 < ((rd_L3 l0_2 x13_3).length : Int)) = true := decide_eq_true c52
                           clear c52
                           by_cases c53 : x18_4 = true
                           ·subst c53
                            rw [if_pos rfl] at H
                            have H' := Aside0.mk H
                            clear H
                            have p643 : 0 ≤ (x94_4 : Int) := of_decide_eq_true as_
                            have q643 : x94_4 < ((rd_L3 l0_2 x13_3).length : Int) := of_decide_eq_true as_
                            obtain ⟨ad643, e643, hx643_0⟩ := Kd.at_int HR639_0.out x94_4 p643 q643
                            obtain rfl : ad640 = ad643 := (by injection e643)
                            replace hx643_0 := hc_ HB hx643_0
                            replace p643 := eq_true p643
                            replace q643 := eq_true q643
                            go_wp2
                            go_roundg k4
                            case measure => have := HJ4.out; have := HK2.out; have := HK3.out; have := HK4.out; omega
                            case rel => exact ⟨(true), (wrap64 (x94_4 + 1)), es_, es_, H', ⟨by have := HJ4.out; have := HK2.out; have := HK3.out; have := HK4.out; omega⟩, ⟨ra_ HO_12.out⟩, ⟨bk_ BK632.out⟩, ⟨hb_⟩⟩
                           ·replace c53 := Bool.eq_false_iff.mpr c53
                            subst c53
                            rw [if_neg (show ¬ (false = true) by decide)] at H
                            have H' := Aside0.mk H
                            clear H
                            have p643 : 0 ≤ (x94_4 : Int) := of_decide_eq_true as_
                            have q643 : x94_4 < ((rd_L3 l0_2 x13_3).length : Int) := of_decide_eq_true as_
                            obtain ⟨ad643, e643, hx643_0⟩ := Kd.at_int HR639_0.out x94_4 p643 q643
                            obtain rfl : ad640 = ad643 := (by injection e643)
                            replace hx643_0 := hc_ HB hx643_0
                            replace p643 := eq_true p643
                            replace q643 := eq_true q643
                            go_wp2
                            go_roundg k4
                            case measure => have := HJ4.out; have := HK2.out; have := HK3.out; have := HK4.out; omega
                            case rel => exact ⟨(((rd (rd_L3 l0_2 x13_3) x94_4) == (rd l1 x13_3))), (wrap64 (x94_4 + 1)), es_, es_, H', ⟨by have := HJ4.out; have := HK2.out; have := HK3.out; have := HK4.out; omega⟩, ⟨ra_ HO_12.out⟩, ⟨bk_ BK632.out⟩, ⟨hb_⟩⟩
                          ·rw [if_neg c52] at H
                           exact absurd H (by simp)
                         ·rw [if_neg c51] at H
                          exact absurd H (by simp)
                        ·rw [if_neg c50] at H
                         have c50b0 : decide (x94_4 < ((rd_L3 l0_2 x13_3).length : Int)) = false := decide_eq_false c50
                         clear c50
                         by_cases c54 : x18_4 = true
                         ·subst c54
                          rw [if_pos rfl] at H
                          by_cases c55 : x12_3.length < 17592186044416
                          ·rw [if_pos c55] at H
                           have LMc55 := Aside0.mk c55
                           clear c55
                           obtain ⟨y644, hy644⟩ : ∃ y_ : List Int, y_ = (x12_3 ++ [(rd l1 x13_3)]) := ⟨_, rfl⟩
                           replace H : (spec_PlayBoard.l1 k4 l1 y644 (rd l1 x13_3) l3 (l3.length : Int) (wrap64 (x62_3 + 1)) l0_0 l0_1 l0_2) = some (r1, r2) := by first | (rw [hy644]; with_reducible exact H) | (have H2_ := (Option.bind_some _ _).symm.trans H; rw [hy644]; with_reducible exact H2_) | (have H2_ := (Option.bind_some _ _).symm.trans H; with_reducible exact H2_) | with_reducible exact H | (rw [hy644]; exact H) | exact H
                           have Ny644 := Aside0.mk hy644
                           clear hy644
                           have H' := Aside0.mk H
                           clear H
                           go_wp2_with (first | ((with_reducible refine gate_builtin (b := .append) (xs := #[.tmp 108, .tmp 110]) rfl ?_); (try (refine gate_guard (by rfl) ?_; dsimp only)); at_builtin; refine Kd.R_append (Kd.int .i64) (w0 := w) w.heap.size rfl (.tmp 108) (.tmp 110) 31 3 (.int .i64 0) 8 rfl Tryd.underlying31 info3 rfl (by decide) (by omega) u12 x12_3 (rd l1 x13_3) [.int .i64 (rd l1 x13_3)] (fun _ => True) (fun _ => False) rfl rfl ?aP (fun _ hk => hk.elim) ?aF ?aO ?aB ?aS ?aL ?_; (case aP => exact rfl); (case aB => exact hb_); (case aF => exact (fun _ _ => trivial)); (case aO => exact (ra_ HO_12.out)); (case aS => exact (below_size hb_)); (case aL => have := LMc55.out; omega); intro v645 w56 ho hb hg hat; rw [← Ny644.out] at ho; have n0_ := Aside0.mk (blk_grown (g := gb632) (o := .cells #[.slice A0_0 l0_0.length c0_0, .slice (some ad641) l0_1.length c0_1, .slice (some ad639) l0_2.length c0_2] 34 (0, 0)) (bk_ BK632.out) hg (Kd.R_ne HO_12.out BK632.out (by decide))); have n1_ := Aside0.mk (hb); have n2_ := Aside0.mk (ho); clear BK632; clear HB; clear HO_12; have BK632 := n0_; have HB := n1_; have HO646 := n2_; clear n0_ n1_ n2_; clear ho hb hg hat))
                           go_roundg k4
                           case measure => have := HJ4.out; have := HK2.out; have := HK3.out; have := HK4.out; omega
                           case rel => exact ⟨(y644), ((rd l1 x13_3)), (wrap64 (x62_3 + 1)), es_, es_, H', ⟨by have := HJ4.out; have := HK2.out; have := HK3.out; have := HK4.out; omega⟩, ⟨ra_ HO646.out⟩, ⟨bk_ BK632.out⟩, ⟨hb_⟩⟩
                          ·rw [if_neg c55] at H
                           exact absurd H (by simp)
                         ·replace c54 := Bool.eq_false_iff.mpr c54
                          subst c54
                          rw [if_neg (show ¬ (false = true) by decide)] at H
                          simp only [Option.some.injEq, Prod.mk.injEq] at H
                          obtain ⟨rfl, rfl⟩ := H
                          go_wp2
                          go_ret2
                          exact ⟨_, by first | rfl | (simp [errW_none, errW_some] <;> rfl) | (simp only [← hji40]; first | rfl | (simp [errW_none, errW_some] <;> rfl)) | (simp [*, errW_none, errW_some] <;> rfl), by first | exact Kd.R_nil _ _ _ _ _ | exact Kd.N_nil _ _ _ _ _ | exact Kd.V_nil _ _ _ _ _ | exact Kd.Q_nil _ _ _ _ _ | exact Kd.S_nil _ _ _ _ _, hb_⟩
                    ·rw [if_neg c46] at H
                     exact absurd H (by simp)
                   ·replace c45 := Bool.eq_false_iff.mpr c45
                    subst c45
                    rw [if_neg (show ¬ (false = true) by decide)] at H
                    by_cases c57 : x12_3.length < 17592186044416
                    ·rw [if_pos c57] at H
                     have LMc57 := Aside0.mk c57
                     clear c57
                     obtain ⟨y647, hy647⟩ : ∃ y_ : List Int, y_ = (x12_3 ++ [rd (rd_L3 l0_2 x13_3) (ji40)]) := ⟨_, rfl⟩
                     replace H : (spec_PlayBoard.l1 k3 l1 y647 (rd (rd_L3 l0_2 x13_3) (ji40)) l3 (l3.length : Int) (wrap64 (x62_3 + 1)) l0_0 l0_1 l0_2) = some (r1, r2) := by first | (rw [hy647]; with_reducible exact H) | (have H2_ := (Option.bind_some _ _).symm.trans H; rw [hy647]; with_reducible exact H2_) | (have H2_ := (Option.bind_some _ _).symm.trans H; with_reducible exact H2_) | with_reducible exact H | (rw [hy647]; exact H) | exact H
                     have Ny647 := Aside0.mk hy647
                     clear hy647
                     have H' := Aside0.mk H
                     clear H
                     have p638 : 0 ≤ (x62_3 : Int) := of_decide_eq_true as_
                     have q638 : x62_3 < (l3.length : Int) := of_decide_eq_true as_
                     obtain ⟨ad638, e638, hx638_0⟩ := Kd.at_int HR3.out x62_3 p638 q638
                     cases e638
                     replace hx638_0 := hc_ HB hx638_0
                     replace p638 := eq_true p638
                     replace q638 := eq_true q638
                     have hcz58_0 : wr.cell? ⟨gb632, 0, none⟩ = some (.slice A0_0 l0_0.length c0_0) := (blk_cell BK632.out 0).trans rfl
                     have hcz58_1 : wr.cell? ⟨gb632, 1, none⟩ = some (.slice A0_1 l0_1.length c0_1) := (blk_cell BK632.out 1).trans rfl
                     have hcz58_2 : wr.cell? ⟨gb632, 2, none⟩ = some (.slice A0_2 l0_2.length c0_2) := (blk_cell BK632.out 2).trans rfl
                     have hfz58_0 := blk_frozen BK632.out 0
                     have hfz58_1 := blk_frozen BK632.out 1
                     have hfz58_2 := blk_frozen BK632.out 2
                     have p639 : 0 ≤ (x13_3 : Int) := of_decide_eq_true as_
                     have q639 : x13_3 < (l0_2.length : Int) := of_decide_eq_true as_
                     obtain ⟨ad639, A639_0, c639_0, e639, hx639_0, hl639_0, hi639_0⟩ := at_L3 HR0_2.out x13_3 p639 q639
                     cases e639
                     replace hx639_0 := hc_ HB hx639_0
                     have HR639_0 := Aside0.mk hi639_0
                     have HC639_0 := Aside0.mk hl639_0
                     clear hi639_0 hl639_0
                     replace p639 := eq_true p639
                     replace q639 := eq_true q639
                     have p640 : 0 ≤ ((ji40) : Int) := of_decide_eq_true as_
                     have q640 : (ji40) < ((rd_L3 l0_2 x13_3).length : Int) := of_decide_eq_true as_
                     obtain ⟨ad640, e640, hx640_0⟩ := Kd.at_int HR639_0.out (ji40) p640 q640
                     cases e640
                     replace hx640_0 := hc_ HB hx640_0
                     replace p640 := eq_true p640
                     replace q640 := eq_true q640
                     have p641 : 0 ≤ (x13_3 : Int) := of_decide_eq_true as_
                     have q641 : x13_3 < (l0_1.length : Int) := of_decide_eq_true as_
                     obtain ⟨ad641, e641, hx641_0⟩ := Kd.at_bool HR0_1.out x13_3 p641 q641
                     (try rw [← Nbq44.out] at hx641_0)
                     cases e641
                     replace hx641_0 := hc_ HB hx641_0
                     replace p641 := eq_true p641
                     replace q641 := eq_true q641
                     go_wp2_with (first | ((with_reducible refine gate_builtin (b := .append) (xs := #[.tmp 108, .tmp 110]) rfl ?_); (try (refine gate_guard (by rfl) ?_; dsimp only)); at_builtin; refine Kd.R_append (Kd.int .i64) (w0 := w) w.heap.size rfl (.tmp 108) (.tmp 110) 31 3 (.int .i64 0) 8 rfl Tryd.underlying31 info3 rfl (by decide) (by omega) u12 x12_3 (rd (rd_L3 l0_2 x13_3) (ji40)) [.int .i64 (rd (rd_L3 l0_2 x13_3) (ji40))] (fun _ => True) (fun _ => False) rfl rfl ?aP (fun _ hk => hk.elim) ?aF ?aO ?aB ?aS ?aL ?_; (case aP => exact rfl); (case aB => exact hb_); (case aF => exact (fun _ _ => trivial)); (case aO => exact (ra_ HO_12.out)); (case aS => exact (below_size hb_)); (case aL => have := LMc57.out; omega); intro v648 w59 ho hb hg hat; rw [← Ny647.out] at ho; have n0_ := Aside0.mk (blk_grown (g := gb632) (o := .cells #[.slice A0_0 l0_0.length c0_0, .slice (some ad641) l0_1.length c0_1, .slice (some ad639) l0_2.length c0_2] 34 (0, 0)) (bk_ BK632.out) hg (Kd.R_ne HO_12.out BK632.out (by decide))); have n1_ := Aside0.mk (hb); have n2_ := Aside0.mk (ho); clear BK632; clear HB; clear HO_12; have BK632 := n0_; have HB := n1_; have HO649 := n2_; clear n0_ n1_ n2_; clear ho hb hg hat))
                     go_roundg k3
                     case measure => have := HJ4.out; have := HK2.out; have := HK3.out; omega
                     case rel => exact ⟨(y647), (rd (rd_L3 l0_2 x13_3) (ji40)), (wrap64 (x62_3 + 1)), (by first | rfl | (simp; done) | (simp only [← hji40] <;> (first | rfl | simp)) | (simp [*]; done)), es_, H', ⟨by have := HJ4.out; have := HK2.out; have := HK3.out; omega⟩, ⟨ra_ HO649.out⟩, ⟨bk_ BK632.out⟩, ⟨hb_⟩⟩
                    ·rw [if_neg c57] at H
                     exact absurd H (by simp)
                  ·rw [if_neg c43] at H
                   exact absurd H (by simp)
                 ·rw [if_neg c42] at H
                  exact absurd H (by simp)
                ·rw [if_neg c41] at H
                 exact absurd H (by simp)
              ·rw [if_neg c37] at H
               exact absurd H (by simp)
             ·rw [if_neg c36] at H
              exact absurd H (by simp)
            ·rw [if_neg c35] at H
             exact absurd H (by simp)
           ·rw [if_neg c34] at H
            exact absurd H (by simp)
          ·rw [if_neg c33] at H
           have c33b0 : decide (x62_3 < (l3.length : Int)) = false := decide_eq_false c33
           clear c33
           simp only [Option.some.injEq, Prod.mk.injEq] at H
           obtain ⟨rfl, rfl⟩ := H
           go_wp2
           go_ret2
           exact ⟨_, er_, by (with_reducible repeat (first | apply Kd.R_alloc | apply Kd.R_drewN | apply Kd.R_drew)); exact HO_12.out, hb_⟩

end Go.Proofs.YtdihodboopeakaaDoor.Pr
-- Written by this session's own print (wip/tools/mkmp.py) out of the translation. Lean checks it.
namespace Go.Proofs.YtdihodboopeakaaDoor.Pr
open Go.RowKit Go.Proofs.YtdihodboopeakaaDoorW.PrintWords Go.Proofs.YtdihodboopeakaaDoorW.PrintLast Go.Proofs.YtdihodboopeakaaDoorW.PrintMore
attribute [local go_sem] max2_int min2_int max_two min_two max_three min_three max_four min_four   -- for this text's walks alone
set_option linter.unusedVariables false
set_option linter.unusedSimpArgs false

set_option maxHeartbeats 8000000 in
set_option maxRecDepth 100000 in
theorem impl_between.calls (a0 : Int) (a1 : Int) (a2 : Int) (r : Bool) (w : World) (h : impl_between.f a0 a1 a2 = some r) :
   Calls Tryd.prog 77 #[.int .i64 a0, .int .i64 a1, .int .i64 a2] w fun e w' => e = .returned (.bool r) ∧ Drawn0 w w' := by
  have H : (if a0 ≥ a1 then (some (decide (a0 ≤ a2))) else (some false)) = some r := h
  clear h
  by_cases c4 : a0 ≥ a1
  ·rw [if_pos c4] at H
   have c4b0 : decide (a1 ≤ a0) = true := decide_eq_true c4
   clear c4
   obtain rfl := Option.some.inj H
   go_enter Tryd.func77, Tryd.ntmps77
   go_wp2
   go_ret
   exact ⟨es_, by repeat (first | exact Drawn0.refl _ | apply Drawn0.step)⟩
  ·rw [if_neg c4] at H
   have c4b0 : decide (a1 ≤ a0) = false := decide_eq_false c4
   clear c4
   obtain rfl := Option.some.inj H
   go_enter Tryd.func77, Tryd.ntmps77
   go_wp2
   go_ret
   exact ⟨es_, by repeat (first | exact Drawn0.refl _ | apply Drawn0.step)⟩

set_option maxHeartbeats 8000000 in
set_option maxRecDepth 100000 in
theorem slices_Index_int_int.calls (k : Nat) (A0 : Option Addr) (c0 : Nat) (l0 : List Int) (a1 : Int) (r : Int) (w : World) (hr0 : Kd.C (Kd.int .i64) w A0 l0.length l0) (hc0 : l0.length ≤ c0) (h : slices_Index_int_int.f k l0 a1 = some r) :
   Calls Tryd.prog 100 #[.slice A0 l0.length c0, .int .i64 a1] w fun e w' => e = .returned (.int .i64 r) ∧ Drawn0 w w' := by
  have HR0 := Aside0.mk hr0
  have HC0 := Aside0.mk hc0
  clear hr0 hc0
  have H : (slices_Index_int_int.l0 k l0 a1 (l0.length : Int) 0) = some r := h
  clear h
  have H' := Aside0.mk H
  clear H
  go_enter Tryd.func100, Tryd.ntmps100
  go_wp2
  go_loopg [8] k (fun kq v8 w' => ∃ (x8_1 : Int), v8 = .int .i64 x8_1 ∧ Aside0 (slices_Index_int_int.l0 kq l0 a1 (l0.length : Int) x8_1 = some r) ∧ Aside0 (kq ≤ k) ∧ Drawn0 w w')
  case atStart => exact ⟨(0), es_, H', ⟨Nat.le_refl _⟩, by repeat (first | exact Drawn0.refl _ | apply Drawn0.step)⟩
  case round =>
   clear H'
   obtain ⟨x8_1, rfl, HA, HK1, ⟨m1, rfl⟩⟩ := hrel
   cases gk with
   | zero => exact absurd HA.out (by simp [slices_Index_int_int.l0])
   | succ k1 =>
    have H := HA.out
    clear HA
    simp only [slices_Index_int_int.l0] at H
    by_cases c3 : x8_1 < (l0.length : Int)
    ·rw [if_pos c3] at H
     have c3b0 : decide (x8_1 < (l0.length : Int)) = true := decide_eq_true c3
     clear c3
     by_cases c4 : 0 ≤ x8_1
     ·rw [if_pos c4] at H
      have c4b0 : decide (0 ≤ x8_1) = true := decide_eq_true c4
      clear c4
      by_cases c5 : x8_1 < (l0.length : Int)
      ·rw [if_pos c5] at H
       have c5b0 : decide (x8_1 < (l0.length : Int)) = true := decide_eq_true c5
       clear c5
       by_cases c6 : a1 = (rd l0 x8_1)
       ·rw [if_pos c6] at H
        have c6b0 : (a1 == (rd l0 x8_1)) = true := beq_iff_eq.mpr c6
        have c6b1 : (a1 != (rd l0 x8_1)) = false := bne_eq_false_iff_eq.mpr c6
        clear c6
        obtain rfl := Option.some.inj H
        have p258 : 0 ≤ (x8_1 : Int) := of_decide_eq_true as_
        have q258 : x8_1 < (l0.length : Int) := of_decide_eq_true as_
        obtain ⟨ad258, e258, hx258_0⟩ := Kd.at_int HR0.out x8_1 p258 q258
        cases e258
        replace p258 := eq_true p258
        replace q258 := eq_true q258
        go_wp2
        go_ret
        exact ⟨es_, by repeat (first | exact Drawn0.refl _ | apply Drawn0.step)⟩
       ·rw [if_neg c6] at H
        have c6b0 : (a1 == (rd l0 x8_1)) = false := beq_eq_false_iff_ne.mpr c6
        have c6b1 : (a1 != (rd l0 x8_1)) = true := bne_iff_ne.mpr c6
        have H' := Aside0.mk H
        clear H
        have p258 : 0 ≤ (x8_1 : Int) := of_decide_eq_true as_
        have q258 : x8_1 < (l0.length : Int) := of_decide_eq_true as_
        obtain ⟨ad258, e258, hx258_0⟩ := Kd.at_int HR0.out x8_1 p258 q258
        cases e258
        replace p258 := eq_true p258
        replace q258 := eq_true q258
        go_wp2
        go_roundg k1
        case measure => have := HK1.out; omega
        case rel => exact ⟨(wrap64 (x8_1 + 1)), es_, H', ⟨by have := HK1.out; omega⟩, by repeat (first | exact Drawn0.refl _ | apply Drawn0.step)⟩
      ·rw [if_neg c5] at H
       exact absurd H (by simp)
     ·rw [if_neg c4] at H
      exact absurd H (by simp)
    ·rw [if_neg c3] at H
     have c3b0 : decide (x8_1 < (l0.length : Int)) = false := decide_eq_false c3
     clear c3
     obtain rfl := Option.some.inj H
     go_wp2
     go_ret
     exact ⟨es_, by repeat (first | exact Drawn0.refl _ | apply Drawn0.step)⟩

set_option maxHeartbeats 8000000 in
set_option maxRecDepth 100000 in
theorem slices_Contains_int_int.calls (k : Nat) (A0 : Option Addr) (c0 : Nat) (l0 : List Int) (a1 : Int) (r : Bool) (w : World) (hr0 : Kd.C (Kd.int .i64) w A0 l0.length l0) (hc0 : l0.length ≤ c0) (h : slices_Contains_int_int.f k l0 a1 = some r) :
   Calls Tryd.prog 78 #[.slice A0 l0.length c0, .int .i64 a1] w fun e w' => e = .returned (.bool r) ∧ Drawn0 w w' := by
  have HR0 := Aside0.mk hr0
  have HC0 := Aside0.mk hc0
  clear hr0 hc0
  have H : ((slices_Index_int_int.f k l0 a1).bind fun t259 => (some (decide (t259 ≥ 0)))) = some r := h
  clear h
  replace H := Option.bind_eq_some_iff.mp H
  obtain ⟨t259, A30, H⟩ := H
  replace H : (some (decide (t259 ≥ 0))) = some r := H
  have A3 := Aside0.mk A30
  clear A30
  obtain rfl := Option.some.inj H
  go_enter Tryd.func78, Tryd.ntmps78
  go_wp2_with (first | ((with_reducible refine gate_callee (f := 100) rfl ?_); refine goesL_ (some 7) rfl rfl Tryd.func100 (by kernel_rfl) rfl #[.slice A0 l0.length c0, .int .i64 a1] rfl ls_ ?_; (with_reducible refine (slices_Index_int_int.calls k _ _ l0 a1 t259 _ ?side1 ?side2 A3.out).mono ?_); (case side1 => repeat (first | exact HR0.out | (with_reducible refine Kd.C_alloc ?_ _) | (with_reducible refine Kd.C_drewN ?_ _) | (with_reducible refine Kd.C_drew ?_))); (case side2 => exact HC0.out); rintro e w' ⟨rfl, ⟨nd, rfl⟩⟩; refine ⟨_, rfl, ?_⟩))
  go_ret
  exact ⟨es_, by repeat (first | exact Drawn0.refl _ | apply Drawn0.step)⟩

end Go.Proofs.YtdihodboopeakaaDoor.Pr
-- Written by this session's own print (wip/tools/mkmp.py) out of the translation. Lean checks it.
namespace Go.Proofs.YtdihodboopeakaaDoor.Pr
open Go.RowKit Go.Proofs.YtdihodboopeakaaDoorW.PrintWords Go.Proofs.YtdihodboopeakaaDoorW.PrintLast Go.Proofs.YtdihodboopeakaaDoorW.PrintMore
attribute [local go_sem] max2_int min2_int max_two min_two max_three min_three max_four min_four   -- for this text's walks alone
set_option linter.unusedVariables false
set_option linter.unusedSimpArgs false

set_option maxHeartbeats 8000000 in
set_option maxRecDepth 100000 in
theorem impl_PlayBoard.calls (k : Nat) (A0_0 : Option Addr) (c0_0 : Nat) (l0_0 : List ByteArray) (A0_1 : Option Addr) (c0_1 : Nat) (l0_1 : List Bool) (A0_2 : Option Addr) (c0_2 : Nat) (l0_2 : List (List Int)) (A1 : Option Addr) (c1 : Nat) (l1 : List Int) (a2 : Int) (A3 : Option Addr) (c3 : Nat) (l3 : List Int) (r1 : List Int) (r2 : Bool) (w : World) (hr0_0 : Kd.C Kd.string w A0_0 l0_0.length l0_0) (hc0_0 : l0_0.length ≤ c0_0) (hr0_1 : Kd.C Kd.bool w A0_1 l0_1.length l0_1) (hc0_1 : l0_1.length ≤ c0_1) (hr0_2 : Kd.C (Kd.slice 3 (Kd.int .i64)) w A0_2 l0_2.length l0_2) (hc0_2 : l0_2.length ≤ c0_2) (hr1 : Kd.C (Kd.int .i64) w A1 l1.length l1) (hc1 : l1.length ≤ c1) (hr3 : Kd.C (Kd.int .i64) w A3 l3.length l3) (hc3 : l3.length ≤ c3) (h : impl_PlayBoard.f k l0_0 l0_1 l0_2 l1 a2 l3 = some (r1, r2)) (ht_ : Tabs w := by exact tb_ HTb_) :
   Calls Tryd.prog 40 #[.agg #[.slice A0_0 l0_0.length c0_0, .slice A0_1 l0_1.length c0_1, .slice A0_2 l0_2.length c0_2], .slice A1 l1.length c1, .int .i64 a2, .slice A3 l3.length c3] w fun e w' => ∃ v0_ : Value, e = .returned (.tuple #[v0_, .bool r2]) ∧ Kd.R (Kd.int .i64) 3 w' w.heap.size (fun _ => True) v0_ r1 ∧ Below w.heap.size w w' := by
  have HTb_ := Aside0.mk ht_
  clear ht_
  have hu34 := Tryd.underlying34
  have HR0_0 := Aside0.mk hr0_0
  have HC0_0 := Aside0.mk hc0_0
  clear hr0_0 hc0_0
  have HR0_1 := Aside0.mk hr0_1
  have HC0_1 := Aside0.mk hc0_1
  clear hr0_1 hc0_1
  have HR0_2 := Aside0.mk hr0_2
  have HC0_2 := Aside0.mk hc0_2
  clear hr0_2 hc0_2
  have HR1 := Aside0.mk hr1
  have HC1 := Aside0.mk hc1
  clear hr1 hc1
  have HR3 := Aside0.mk hr3
  have HC3 := Aside0.mk hc3
  clear hr3 hc3
  have HB := Aside0.mk (Below.refl w.heap.size w)
  have H : ((impl_GoodBoard.f k l0_0 l0_1 l0_2).bind fun t651 => (if t651 = true then (if (l1.length : Int) = (l0_0.length : Int) then ((impl_between.f a2 0 (wrap64 ((l0_0.length : Int) - 1))).bind fun t652 => (if t652 = true then (impl_PlayBoard.j0 k l1 a2 l3 (decide ((l3.length : Int) > 30)) l0_0 l0_1 l0_2) else (impl_PlayBoard.j0 k l1 a2 l3 true l0_0 l0_1 l0_2))) else (impl_PlayBoard.j0 k l1 a2 l3 true l0_0 l0_1 l0_2)) else (impl_PlayBoard.j0 k l1 a2 l3 true l0_0 l0_1 l0_2))) = some (r1, r2) := h
  clear h
  have HC5 := Aside0.mk H
  clear H
  go_enter Tryd.func40, Tryd.ntmps40
  go_upto_region 1 with (first | ((with_reducible refine gate_dst (N := 4) rfl ?_); (try (refine gate_guard (by rfl) ?_; dsimp only)); refine box_event ?hg (N := 4) ?hd (cs := #[.slice A0_0 l0_0.length c0_0, .slice A0_1 l0_1.length c0_1, .slice A0_2 l0_2.length c0_2]) (t := 34) ?hr ?_; (case hd => rfl); (case hg => rfl); (case hr => first | (go_simp; done) | (go_simp; rfl)); intro gb650 hg w6 hbox hb; have n0_ := Aside0.mk (below_step hb_ hb); have n1_ := Aside0.mk (hbox); have n2_ : Aside0 (w.heap.size ≤ gb650) := gz_; have n3_ : Aside0 (w.heap.size ≤ gb650) := gz_; clear HB; have HB := n0_; have BK650 := n1_; have GW650 := n2_; have GE650 := n3_; clear n0_ n1_ n2_ n3_; clear hb hbox hg))
  (try simp only [Act.put, List.setIfInBounds_toArray, List.set_cons_zero, List.set_cons_succ])
  go_cut [41] (fun v41 wc => ∃ (kq : Nat) (x41_4 : Bool), v41 = .bool x41_4 ∧ Aside0 (impl_PlayBoard.j0 kq l1 a2 l3 x41_4 l0_0 l0_1 l0_2 = some (r1, r2)) ∧ Aside0 (kq ≤ k) ∧ Aside0 (wc.heap[gb650]? = some (.cells #[(.slice A0_0 l0_0.length c0_0), (.slice A0_1 l0_1.length c0_1), (.slice A0_2 l0_2.length c0_2)] 34 (0, 0))) ∧ Aside0 (Below w.heap.size w wc))
  case first =>
   have H := HC5.out
   clear HC5
   replace H := Option.bind_eq_some_iff.mp H
   obtain ⟨t651, A70, H⟩ := H
   replace H : (if t651 = true then (if (l1.length : Int) = (l0_0.length : Int) then ((impl_between.f a2 0 (wrap64 ((l0_0.length : Int) - 1))).bind fun t652 => (if t652 = true then (impl_PlayBoard.j0 k l1 a2 l3 (decide ((l3.length : Int) > 30)) l0_0 l0_1 l0_2) else (impl_PlayBoard.j0 k l1 a2 l3 true l0_0 l0_1 l0_2))) else (impl_PlayBoard.j0 k l1 a2 l3 true l0_0 l0_1 l0_2)) else (impl_PlayBoard.j0 k l1 a2 l3 true l0_0 l0_1 l0_2)) = some (r1, r2) := H
   have A7 := Aside0.mk A70
   clear A70
   by_cases c8 : t651 = true
   ·subst c8
    rw [if_pos rfl] at H
    by_cases c9 : (l1.length : Int) = (l0_0.length : Int)
    ·rw [if_pos c9] at H
     have c9b0 : ((l1.length : Int) == (l0_0.length : Int)) = true := beq_iff_eq.mpr c9
     have c9b1 : ((l1.length : Int) != (l0_0.length : Int)) = false := bne_eq_false_iff_eq.mpr c9
     have c9b2 : (l1.length == l0_0.length) = true := by first | simpa using c9 | (simp at c9 ⊢; omega)
     clear c9
     (first | rw [c9b0] | (simp only [i64_w, i32_w]; rw [c9b0]) | skip)
     replace H := Option.bind_eq_some_iff.mp H
     obtain ⟨t652, A100, H⟩ := H
     replace H : (if t652 = true then (impl_PlayBoard.j0 k l1 a2 l3 (decide ((l3.length : Int) > 30)) l0_0 l0_1 l0_2) else (impl_PlayBoard.j0 k l1 a2 l3 true l0_0 l0_1 l0_2)) = some (r1, r2) := H
     have A10 := Aside0.mk A100
     clear A100
     by_cases c11 : t652 = true
     ·subst c11
      rw [if_pos rfl] at H
      have H' := Aside0.mk H
      clear H
      have hcz12_0 : w6.cell? ⟨gb650, 0, none⟩ = some (.slice A0_0 l0_0.length c0_0) := (blk_cell BK650.out 0).trans rfl
      have hcz12_1 : w6.cell? ⟨gb650, 1, none⟩ = some (.slice A0_1 l0_1.length c0_1) := (blk_cell BK650.out 1).trans rfl
      have hcz12_2 : w6.cell? ⟨gb650, 2, none⟩ = some (.slice A0_2 l0_2.length c0_2) := (blk_cell BK650.out 2).trans rfl
      have hfz12_0 := blk_frozen BK650.out 0
      have hfz12_1 := blk_frozen BK650.out 1
      have hfz12_2 := blk_frozen BK650.out 2
      go_wp2_with (first | ((with_reducible refine gate_callee (f := 28) rfl ?_); refine goesL_ (some 18) rfl rfl Tryd.func28 (by kernel_rfl) rfl #[.agg #[.slice A0_0 l0_0.length c0_0, .slice A0_1 l0_1.length c0_1, .slice A0_2 l0_2.length c0_2]] rfl ls_ ?_; (with_reducible refine (impl_GoodBoard.calls k _ _ l0_0 _ _ l0_1 _ _ l0_2 true _ ?side1 ?side2 ?side3 ?side4 ?side5 ?side6 A7.out).mono ?_); (case side1 => exact cb_ HR0_0.out); (case side2 => exact HC0_0.out); (case side3 => exact cb_ HR0_1.out); (case side4 => exact HC0_1.out); (case side5 => exact cb_ HR0_2.out); (case side6 => exact HC0_2.out); rintro e w13 ⟨rfl, hb⟩; refine ⟨_, rfl, ?_⟩; have n0_ := bb_ BK650 hb; have n1_ := Aside0.mk (below_step hb_ hb); clear BK650; clear HB; have BK650 := n0_; have HB := n1_; clear n0_ n1_; (try clear hb); (try clear hb2); (try clear hk); (try clear hi); have hcz14_0 : w13.cell? ⟨gb650, 0, none⟩ = some (.slice A0_0 l0_0.length c0_0) := (blk_cell BK650.out 0).trans rfl; have hcz14_1 : w13.cell? ⟨gb650, 1, none⟩ = some (.slice A0_1 l0_1.length c0_1) := (blk_cell BK650.out 1).trans rfl; have hcz14_2 : w13.cell? ⟨gb650, 2, none⟩ = some (.slice A0_2 l0_2.length c0_2) := (blk_cell BK650.out 2).trans rfl; have hfz14_0 := blk_frozen BK650.out 0; have hfz14_1 := blk_frozen BK650.out 1; have hfz14_2 := blk_frozen BK650.out 2) | (go_at_call 77; (with_reducible refine (impl_between.calls a2 0 (wrap64 ((l0_0.length : Int) - 1)) true _ A10.out).mono ?_); rintro e w' ⟨rfl, ⟨nd, rfl⟩⟩))
      go_meet
      case rel => exact ⟨_, (decide ((l3.length : Int) > 30)), es_, H', ⟨by first | omega | exact Nat.le_refl _⟩, ⟨bk_ BK650.out⟩, ⟨hb_⟩⟩
     ·replace c11 := Bool.eq_false_iff.mpr c11
      subst c11
      rw [if_neg (show ¬ (false = true) by decide)] at H
      have H' := Aside0.mk H
      clear H
      have hcz15_0 : w6.cell? ⟨gb650, 0, none⟩ = some (.slice A0_0 l0_0.length c0_0) := (blk_cell BK650.out 0).trans rfl
      have hcz15_1 : w6.cell? ⟨gb650, 1, none⟩ = some (.slice A0_1 l0_1.length c0_1) := (blk_cell BK650.out 1).trans rfl
      have hcz15_2 : w6.cell? ⟨gb650, 2, none⟩ = some (.slice A0_2 l0_2.length c0_2) := (blk_cell BK650.out 2).trans rfl
      have hfz15_0 := blk_frozen BK650.out 0
      have hfz15_1 := blk_frozen BK650.out 1
      have hfz15_2 := blk_frozen BK650.out 2
      go_wp2_with (first | ((with_reducible refine gate_callee (f := 28) rfl ?_); refine goesL_ (some 18) rfl rfl Tryd.func28 (by kernel_rfl) rfl #[.agg #[.slice A0_0 l0_0.length c0_0, .slice A0_1 l0_1.length c0_1, .slice A0_2 l0_2.length c0_2]] rfl ls_ ?_; (with_reducible refine (impl_GoodBoard.calls k _ _ l0_0 _ _ l0_1 _ _ l0_2 true _ ?side1 ?side2 ?side3 ?side4 ?side5 ?side6 A7.out).mono ?_); (case side1 => exact cb_ HR0_0.out); (case side2 => exact HC0_0.out); (case side3 => exact cb_ HR0_1.out); (case side4 => exact HC0_1.out); (case side5 => exact cb_ HR0_2.out); (case side6 => exact HC0_2.out); rintro e w16 ⟨rfl, hb⟩; refine ⟨_, rfl, ?_⟩; have n0_ := bb_ BK650 hb; have n1_ := Aside0.mk (below_step hb_ hb); clear BK650; clear HB; have BK650 := n0_; have HB := n1_; clear n0_ n1_; (try clear hb); (try clear hb2); (try clear hk); (try clear hi); have hcz17_0 : w16.cell? ⟨gb650, 0, none⟩ = some (.slice A0_0 l0_0.length c0_0) := (blk_cell BK650.out 0).trans rfl; have hcz17_1 : w16.cell? ⟨gb650, 1, none⟩ = some (.slice A0_1 l0_1.length c0_1) := (blk_cell BK650.out 1).trans rfl; have hcz17_2 : w16.cell? ⟨gb650, 2, none⟩ = some (.slice A0_2 l0_2.length c0_2) := (blk_cell BK650.out 2).trans rfl; have hfz17_0 := blk_frozen BK650.out 0; have hfz17_1 := blk_frozen BK650.out 1; have hfz17_2 := blk_frozen BK650.out 2) | (go_at_call 77; (with_reducible refine (impl_between.calls a2 0 (wrap64 ((l0_0.length : Int) - 1)) false _ A10.out).mono ?_); rintro e w' ⟨rfl, ⟨nd, rfl⟩⟩))
      go_meet
      case rel => exact ⟨_, (true), es_, H', ⟨by first | omega | exact Nat.le_refl _⟩, ⟨bk_ BK650.out⟩, ⟨hb_⟩⟩
    ·rw [if_neg c9] at H
     have c9b0 : ((l1.length : Int) == (l0_0.length : Int)) = false := beq_eq_false_iff_ne.mpr c9
     have c9b1 : ((l1.length : Int) != (l0_0.length : Int)) = true := bne_iff_ne.mpr c9
     have c9b2 : (l1.length == l0_0.length) = false := by first | simpa using c9 | (simp at c9 ⊢; omega)
     (first | rw [c9b0] | (simp only [i64_w, i32_w]; rw [c9b0]) | skip)
     have H' := Aside0.mk H
     clear H
     have hcz18_0 : w6.cell? ⟨gb650, 0, none⟩ = some (.slice A0_0 l0_0.length c0_0) := (blk_cell BK650.out 0).trans rfl
     have hcz18_1 : w6.cell? ⟨gb650, 1, none⟩ = some (.slice A0_1 l0_1.length c0_1) := (blk_cell BK650.out 1).trans rfl
     have hcz18_2 : w6.cell? ⟨gb650, 2, none⟩ = some (.slice A0_2 l0_2.length c0_2) := (blk_cell BK650.out 2).trans rfl
     have hfz18_0 := blk_frozen BK650.out 0
     have hfz18_1 := blk_frozen BK650.out 1
     have hfz18_2 := blk_frozen BK650.out 2
     go_wp2_with (first | ((with_reducible refine gate_callee (f := 28) rfl ?_); refine goesL_ (some 18) rfl rfl Tryd.func28 (by kernel_rfl) rfl #[.agg #[.slice A0_0 l0_0.length c0_0, .slice A0_1 l0_1.length c0_1, .slice A0_2 l0_2.length c0_2]] rfl ls_ ?_; (with_reducible refine (impl_GoodBoard.calls k _ _ l0_0 _ _ l0_1 _ _ l0_2 true _ ?side1 ?side2 ?side3 ?side4 ?side5 ?side6 A7.out).mono ?_); (case side1 => exact cb_ HR0_0.out); (case side2 => exact HC0_0.out); (case side3 => exact cb_ HR0_1.out); (case side4 => exact HC0_1.out); (case side5 => exact cb_ HR0_2.out); (case side6 => exact HC0_2.out); rintro e w19 ⟨rfl, hb⟩; refine ⟨_, rfl, ?_⟩; have n0_ := bb_ BK650 hb; have n1_ := Aside0.mk (below_step hb_ hb); clear BK650; clear HB; have BK650 := n0_; have HB := n1_; clear n0_ n1_; (try clear hb); (try clear hb2); (try clear hk); (try clear hi); have hcz20_0 : w19.cell? ⟨gb650, 0, none⟩ = some (.slice A0_0 l0_0.length c0_0) := (blk_cell BK650.out 0).trans rfl; have hcz20_1 : w19.cell? ⟨gb650, 1, none⟩ = some (.slice A0_1 l0_1.length c0_1) := (blk_cell BK650.out 1).trans rfl; have hcz20_2 : w19.cell? ⟨gb650, 2, none⟩ = some (.slice A0_2 l0_2.length c0_2) := (blk_cell BK650.out 2).trans rfl; have hfz20_0 := blk_frozen BK650.out 0; have hfz20_1 := blk_frozen BK650.out 1; have hfz20_2 := blk_frozen BK650.out 2))
     go_meet
     case rel => exact ⟨_, (true), es_, H', ⟨by first | omega | exact Nat.le_refl _⟩, ⟨bk_ BK650.out⟩, ⟨hb_⟩⟩
   ·replace c8 := Bool.eq_false_iff.mpr c8
    subst c8
    rw [if_neg (show ¬ (false = true) by decide)] at H
    have H' := Aside0.mk H
    clear H
    have hcz21_0 : w6.cell? ⟨gb650, 0, none⟩ = some (.slice A0_0 l0_0.length c0_0) := (blk_cell BK650.out 0).trans rfl
    have hcz21_1 : w6.cell? ⟨gb650, 1, none⟩ = some (.slice A0_1 l0_1.length c0_1) := (blk_cell BK650.out 1).trans rfl
    have hcz21_2 : w6.cell? ⟨gb650, 2, none⟩ = some (.slice A0_2 l0_2.length c0_2) := (blk_cell BK650.out 2).trans rfl
    have hfz21_0 := blk_frozen BK650.out 0
    have hfz21_1 := blk_frozen BK650.out 1
    have hfz21_2 := blk_frozen BK650.out 2
    go_wp2_with (first | ((with_reducible refine gate_callee (f := 28) rfl ?_); refine goesL_ (some 18) rfl rfl Tryd.func28 (by kernel_rfl) rfl #[.agg #[.slice A0_0 l0_0.length c0_0, .slice A0_1 l0_1.length c0_1, .slice A0_2 l0_2.length c0_2]] rfl ls_ ?_; (with_reducible refine (impl_GoodBoard.calls k _ _ l0_0 _ _ l0_1 _ _ l0_2 false _ ?side1 ?side2 ?side3 ?side4 ?side5 ?side6 A7.out).mono ?_); (case side1 => exact cb_ HR0_0.out); (case side2 => exact HC0_0.out); (case side3 => exact cb_ HR0_1.out); (case side4 => exact HC0_1.out); (case side5 => exact cb_ HR0_2.out); (case side6 => exact HC0_2.out); rintro e w22 ⟨rfl, hb⟩; refine ⟨_, rfl, ?_⟩; have n0_ := bb_ BK650 hb; have n1_ := Aside0.mk (below_step hb_ hb); clear BK650; clear HB; have BK650 := n0_; have HB := n1_; clear n0_ n1_; (try clear hb); (try clear hb2); (try clear hk); (try clear hi)))
    go_meet
    case rel => exact ⟨_, (true), es_, H', ⟨by first | omega | exact Nat.le_refl _⟩, ⟨bk_ BK650.out⟩, ⟨hb_⟩⟩
  case rest =>
   clear HC5
   obtain ⟨kq, x41_4, rfl, HA, HJ4, BK650, HB⟩ := hcut
   cases kq with
   | zero => exact absurd HA.out (by simp [impl_PlayBoard.j0])
   | succ kj4 =>
    have H := HA.out
    clear HA
    simp only [impl_PlayBoard.j0] at H
    by_cases c23 : x41_4 = true
    ·subst c23
     rw [if_pos rfl] at H
     simp only [Option.some.injEq, Prod.mk.injEq] at H
     obtain ⟨rfl, rfl⟩ := H
     go_wp2
     go_ret2
     exact ⟨_, er_, by first | exact Kd.R_nil _ _ _ _ _ | exact Kd.N_nil _ _ _ _ _ | exact Kd.V_nil _ _ _ _ _ | exact Kd.Q_nil _ _ _ _ _ | exact Kd.S_nil _ _ _ _ _, hb_⟩
    ·replace c23 := Bool.eq_false_iff.mpr c23
     subst c23
     rw [if_neg (show ¬ (false = true) by decide)] at H
     have H' := Aside0.mk H
     clear H
     go_wp2
     go_loopg [44] kj4 (fun kq v44 w' => ∃ (x44_2 : Int), v44 = .int .i64 x44_2 ∧ Aside0 (impl_PlayBoard.l0 kq l1 a2 l3 l3 (l3.length : Int) x44_2 l0_0 l0_1 l0_2 = some (r1, r2)) ∧ Aside0 (kq ≤ kj4) ∧ Aside0 (w'.heap[gb650]? = some (.cells #[(.slice A0_0 l0_0.length c0_0), (.slice A0_1 l0_1.length c0_1), (.slice A0_2 l0_2.length c0_2)] 34 (0, 0))) ∧ Aside0 (Below w.heap.size w w'))
     case atStart => exact ⟨(0), es_, H', ⟨Nat.le_refl _⟩, ⟨bk_ BK650.out⟩, ⟨hb_⟩⟩
     case round =>
      clear H'
      obtain ⟨x44_2, rfl, HA, HK2, BK650, HB⟩ := hrel
      cases gk with
      | zero => exact absurd HA.out (by simp [impl_PlayBoard.l0])
      | succ k2 =>
       have H := HA.out
       clear HA
       simp only [impl_PlayBoard.l0] at H
       by_cases c24 : x44_2 < (l3.length : Int)
       ·rw [if_pos c24] at H
        have c24b0 : decide (x44_2 < (l3.length : Int)) = true := decide_eq_true c24
        clear c24
        by_cases c25 : 0 ≤ x44_2
        ·rw [if_pos c25] at H
         have c25b0 : decide (0 ≤ x44_2) = true := decide_eq_true c25
         clear c25
         by_cases c26 : x44_2 < (l3.length : Int)
         ·rw [if_pos c26] at H
          have c26b0 : decide (x44_2 < (l3.length : Int)) = true := decide_eq_true c26
          clear c26
          by_cases c27 : (rd l3 x44_2) < 0
          ·rw [if_pos c27] at H
           have c27b0 : decide ((rd l3 x44_2) < 0) = true := decide_eq_true c27
           clear c27
           simp only [Option.some.injEq, Prod.mk.injEq] at H
           obtain ⟨rfl, rfl⟩ := H
           have p653 : 0 ≤ (x44_2 : Int) := of_decide_eq_true as_
           have q653 : x44_2 < (l3.length : Int) := of_decide_eq_true as_
           obtain ⟨ad653, e653, hx653_0⟩ := Kd.at_int HR3.out x44_2 p653 q653
           cases e653
           replace hx653_0 := hc_ HB hx653_0
           replace p653 := eq_true p653
           replace q653 := eq_true q653
           go_wp2
           go_ret2
           exact ⟨_, er_, by first | exact Kd.R_nil _ _ _ _ _ | exact Kd.N_nil _ _ _ _ _ | exact Kd.V_nil _ _ _ _ _ | exact Kd.Q_nil _ _ _ _ _ | exact Kd.S_nil _ _ _ _ _, hb_⟩
          ·rw [if_neg c27] at H
           have c27b0 : decide ((rd l3 x44_2) < 0) = false := decide_eq_false c27
           clear c27
           have H' := Aside0.mk H
           clear H
           have p653 : 0 ≤ (x44_2 : Int) := of_decide_eq_true as_
           have q653 : x44_2 < (l3.length : Int) := of_decide_eq_true as_
           obtain ⟨ad653, e653, hx653_0⟩ := Kd.at_int HR3.out x44_2 p653 q653
           cases e653
           replace hx653_0 := hc_ HB hx653_0
           replace p653 := eq_true p653
           replace q653 := eq_true q653
           go_wp2
           go_roundg k2
           case measure => have := HJ4.out; have := HK2.out; omega
           case rel => exact ⟨(wrap64 (x44_2 + 1)), es_, H', ⟨by have := HJ4.out; have := HK2.out; omega⟩, ⟨bk_ BK650.out⟩, ⟨hb_⟩⟩
         ·rw [if_neg c26] at H
          exact absurd H (by simp)
        ·rw [if_neg c25] at H
         exact absurd H (by simp)
       ·rw [if_neg c24] at H
        have c24b0 : decide (x44_2 < (l3.length : Int)) = false := decide_eq_false c24
        clear c24
        obtain ⟨y654, hy654⟩ : ∃ y_ : List Int, y_ = (([a2] : List Int)) := ⟨_, rfl⟩
        replace H : (impl_PlayBoard.l1 k2 l1 y654 a2 l3 (l3.length : Int) 0 l0_0 l0_1 l0_2) = some (r1, r2) := by first | (rw [hy654]; with_reducible exact H) | (have H2_ := (Option.bind_some _ _).symm.trans H; rw [hy654]; with_reducible exact H2_) | (have H2_ := (Option.bind_some _ _).symm.trans H; with_reducible exact H2_) | with_reducible exact H | (rw [hy654]; exact H) | exact H
        have Ny654 := Aside0.mk hy654
        clear hy654
        have H' := Aside0.mk H
        clear H
        go_wp2_with (first | ((with_reducible refine gate_dst (N := 52) rfl ?_); (try (refine gate_guard (by rfl) ?_; dsimp only)); refine Kd.R_lit (Kd.int .i64) _ 3 ?hg (N := 52) ?hd (xs := ([a2] : List Int)) (inner := [.int .i64 a2]) (ok := fun _ => True) (okp := fun _ => True) ?hr ?hp (fun _ hk => hk) trivial (Below.refl _ _) (Nat.le_refl _) (by simp) ?_; (case hd => rfl); (case hg => rfl); (case hr => first | (go_simp; done) | (go_simp; rfl)); (case hp => exact (Reps.one (show Kd.M (Kd.int .i64) _ _ _ a2 [.int .i64 a2] from rfl) (Reps.none _ _))); intro v655 w28 ho29 hb hg_ hnew_; clear hg_ hnew_; (first | rw [← Ny654.out] at ho29 | (simp only [Int.reduceToNat] at ho29; rw [← Ny654.out] at ho29)); have n0_ := Aside0.mk (Kd.R_lower ho29 (below_size hb_)); have n1_ := bb_ BK650 hb; have n2_ := Aside0.mk (below_step hb_ hb); clear BK650; clear HB; have HO656 := n0_; have BK650 := n1_; have HB := n2_; clear n0_ n1_ n2_; clear hb ho29))
        go_loopg [12, 13, 56] k2 (fun kq v12 v13 v56 w' => ∃ (x12_3 : List Int) (x13_3 : Int) (x56_3 : Int), v13 = .int .i64 x13_3 ∧ v56 = .int .i64 x56_3 ∧ Aside0 (impl_PlayBoard.l1 kq l1 x12_3 x13_3 l3 (l3.length : Int) x56_3 l0_0 l0_1 l0_2 = some (r1, r2)) ∧ Aside0 (kq ≤ k2) ∧ Aside0 (Kd.R (Kd.int .i64) 3 w' w.heap.size (fun _ => True) v12 x12_3) ∧ Aside0 (w'.heap[gb650]? = some (.cells #[(.slice A0_0 l0_0.length c0_0), (.slice A0_1 l0_1.length c0_1), (.slice A0_2 l0_2.length c0_2)] 34 (0, 0))) ∧ Aside0 (Below w.heap.size w w'))
        case atStart => exact ⟨(y654), (a2), (0), es_, es_, H', ⟨Nat.le_refl _⟩, ⟨ra_ HO656.out⟩, ⟨bk_ BK650.out⟩, ⟨hb_⟩⟩
        case round =>
         clear H'
         obtain ⟨x12_3, x13_3, x56_3, rfl, rfl, HA, HK3, HO_12, BK650, HB⟩ := hrel
         cases gk with
         | zero => exact absurd HA.out (by simp [impl_PlayBoard.l1])
         | succ k3 =>
          have H := HA.out
          clear HA
          simp only [impl_PlayBoard.l1] at H
          by_cases c30 : x56_3 < (l3.length : Int)
          ·rw [if_pos c30] at H
           have c30b0 : decide (x56_3 < (l3.length : Int)) = true := decide_eq_true c30
           clear c30
           by_cases c31 : 0 ≤ x56_3
           ·rw [if_pos c31] at H
            have c31b0 : decide (0 ≤ x56_3) = true := decide_eq_true c31
            clear c31
            by_cases c32 : x56_3 < (l3.length : Int)
            ·rw [if_pos c32] at H
             have c32b0 : decide (x56_3 < (l3.length : Int)) = true := decide_eq_true c32
             clear c32
             by_cases c33 : 0 ≤ x13_3
             ·rw [if_pos c33] at H
              have c33b0 : decide (0 ≤ x13_3) = true := decide_eq_true c33
              clear c33
              by_cases c34 : x13_3 < (l0_2.length : Int)
              ·rw [if_pos c34] at H
               have c34b0 : decide (x13_3 < (l0_2.length : Int)) = true := decide_eq_true c34
               clear c34
               by_cases c35 : ((rd_L3 l0_2 x13_3).length : Int) = 0
               ·rw [if_pos c35] at H
                have c35b0 : (((rd_L3 l0_2 x13_3).length : Int) == 0) = true := beq_iff_eq.mpr c35
                have c35b1 : (((rd_L3 l0_2 x13_3).length : Int) != 0) = false := bne_eq_false_iff_eq.mpr c35
                clear c35
                simp only [Option.some.injEq, Prod.mk.injEq] at H
                obtain ⟨rfl, rfl⟩ := H
                have p657 : 0 ≤ (x56_3 : Int) := of_decide_eq_true as_
                have q657 : x56_3 < (l3.length : Int) := of_decide_eq_true as_
                obtain ⟨ad657, e657, hx657_0⟩ := Kd.at_int HR3.out x56_3 p657 q657
                cases e657
                replace hx657_0 := hc_ HB hx657_0
                replace p657 := eq_true p657
                replace q657 := eq_true q657
                have hcz36_0 : wr.cell? ⟨gb650, 0, none⟩ = some (.slice A0_0 l0_0.length c0_0) := (blk_cell BK650.out 0).trans rfl
                have hcz36_1 : wr.cell? ⟨gb650, 1, none⟩ = some (.slice A0_1 l0_1.length c0_1) := (blk_cell BK650.out 1).trans rfl
                have hcz36_2 : wr.cell? ⟨gb650, 2, none⟩ = some (.slice A0_2 l0_2.length c0_2) := (blk_cell BK650.out 2).trans rfl
                have hfz36_0 := blk_frozen BK650.out 0
                have hfz36_1 := blk_frozen BK650.out 1
                have hfz36_2 := blk_frozen BK650.out 2
                have p658 : 0 ≤ (x13_3 : Int) := of_decide_eq_true as_
                have q658 : x13_3 < (l0_2.length : Int) := of_decide_eq_true as_
                obtain ⟨ad658, A658_0, c658_0, e658, hx658_0, hl658_0, hi658_0⟩ := at_L3 HR0_2.out x13_3 p658 q658
                cases e658
                replace hx658_0 := hc_ HB hx658_0
                have HR658_0 := Aside0.mk hi658_0
                have HC658_0 := Aside0.mk hl658_0
                clear hi658_0 hl658_0
                replace p658 := eq_true p658
                replace q658 := eq_true q658
                go_wp2
                go_ret2
                exact ⟨_, er_, by (with_reducible repeat (first | apply Kd.R_alloc | apply Kd.R_drewN | apply Kd.R_drew)); exact HO_12.out, hb_⟩
               ·rw [if_neg c35] at H
                have c35b0 : (((rd_L3 l0_2 x13_3).length : Int) == 0) = false := beq_eq_false_iff_ne.mpr c35
                have c35b1 : (((rd_L3 l0_2 x13_3).length : Int) != 0) = true := bne_iff_ne.mpr c35
                have c35b2 : ¬ ((rd_L3 l0_2 x13_3) = []) := fun h_ => c35 (by rw [h_]; rfl)
                by_cases c37 : x13_3 < (l0_1.length : Int)
                ·rw [if_pos c37] at H
                 have c37b0 : decide (x13_3 < (l0_1.length : Int)) = true := decide_eq_true c37
                 clear c37
                 obtain ⟨bq38, hbq38⟩ : ∃ b_ : Bool, b_ = (rdOf false l0_1 x13_3) := ⟨_, rfl⟩
                 replace H : (if bq38 = true then (if x13_3 < (l1.length : Int) then (if (rd l1 x13_3) = (-1) then (some (x12_3, true)) else ((slices_Contains_int_int.f k3 (rd_L3 l0_2 x13_3) (rd l1 x13_3)).bind fun t662 => (if t662 = true then (if x12_3.length < 17592186044416 then (impl_PlayBoard.l1 k3 l1 (x12_3 ++ [rd l1 x13_3]) (rd l1 x13_3) l3 (l3.length : Int) (wrap64 (x56_3 + 1)) l0_0 l0_1 l0_2) else (none)) else (some (([] : List Int), false))))) else (none)) else (if 0 ≤ (Int.tmod (rd l3 x56_3) ((rd_L3 l0_2 x13_3).length : Int)) then (if (Int.tmod (rd l3 x56_3) ((rd_L3 l0_2 x13_3).length : Int)) < ((rd_L3 l0_2 x13_3).length : Int) then (if x12_3.length < 17592186044416 then (impl_PlayBoard.l1 k3 l1 (x12_3 ++ [rd (rd_L3 l0_2 x13_3) (Int.tmod (rd l3 x56_3) ((rd_L3 l0_2 x13_3).length : Int))]) (rd (rd_L3 l0_2 x13_3) (Int.tmod (rd l3 x56_3) ((rd_L3 l0_2 x13_3).length : Int))) l3 (l3.length : Int) (wrap64 (x56_3 + 1)) l0_0 l0_1 l0_2) else (none)) else (none)) else (none))) = some (r1, r2) := by rw [← hbq38] at H; exact H
                 have Nbq38 := Aside0.mk hbq38
                 clear hbq38
                 by_cases c39 : bq38 = true
                 ·subst c39
                  rw [if_pos rfl] at H
                  by_cases c40 : x13_3 < (l1.length : Int)
                  ·rw [if_pos c40] at H
                   have c40b0 : decide (x13_3 < (l1.length : Int)) = true := decide_eq_true c40
                   clear c40
                   by_cases c41 : (rd l1 x13_3) = (-1)
                   ·rw [if_pos c41] at H
                    have c41b0 : ((rd l1 x13_3) == (-1)) = true := beq_iff_eq.mpr c41
                    have c41b1 : ((rd l1 x13_3) != (-1)) = false := bne_eq_false_iff_eq.mpr c41
                    clear c41
                    simp only [Option.some.injEq, Prod.mk.injEq] at H
                    obtain ⟨rfl, rfl⟩ := H
                    have p657 : 0 ≤ (x56_3 : Int) := of_decide_eq_true as_
                    have q657 : x56_3 < (l3.length : Int) := of_decide_eq_true as_
                    obtain ⟨ad657, e657, hx657_0⟩ := Kd.at_int HR3.out x56_3 p657 q657
                    cases e657
                    replace hx657_0 := hc_ HB hx657_0
                    replace p657 := eq_true p657
                    replace q657 := eq_true q657
                    have hcz42_0 : wr.cell? ⟨gb650, 0, none⟩ = some (.slice A0_0 l0_0.length c0_0) := (blk_cell BK650.out 0).trans rfl
                    have hcz42_1 : wr.cell? ⟨gb650, 1, none⟩ = some (.slice A0_1 l0_1.length c0_1) := (blk_cell BK650.out 1).trans rfl
                    have hcz42_2 : wr.cell? ⟨gb650, 2, none⟩ = some (.slice A0_2 l0_2.length c0_2) := (blk_cell BK650.out 2).trans rfl
                    have hfz42_0 := blk_frozen BK650.out 0
                    have hfz42_1 := blk_frozen BK650.out 1
                    have hfz42_2 := blk_frozen BK650.out 2
                    have p658 : 0 ≤ (x13_3 : Int) := of_decide_eq_true as_
                    have q658 : x13_3 < (l0_2.length : Int) := of_decide_eq_true as_
                    obtain ⟨ad658, A658_0, c658_0, e658, hx658_0, hl658_0, hi658_0⟩ := at_L3 HR0_2.out x13_3 p658 q658
                    cases e658
                    replace hx658_0 := hc_ HB hx658_0
                    have HR658_0 := Aside0.mk hi658_0
                    have HC658_0 := Aside0.mk hl658_0
                    clear hi658_0 hl658_0
                    replace p658 := eq_true p658
                    replace q658 := eq_true q658
                    have p659 : 0 ≤ (x13_3 : Int) := of_decide_eq_true as_
                    have q659 : x13_3 < (l0_1.length : Int) := of_decide_eq_true as_
                    obtain ⟨ad659, e659, hx659_0⟩ := Kd.at_bool HR0_1.out x13_3 p659 q659
                    (try rw [← Nbq38.out] at hx659_0)
                    cases e659
                    replace hx659_0 := hc_ HB hx659_0
                    replace p659 := eq_true p659
                    replace q659 := eq_true q659
                    have p660 : 0 ≤ (x13_3 : Int) := of_decide_eq_true as_
                    have q660 : x13_3 < (l1.length : Int) := of_decide_eq_true as_
                    obtain ⟨ad660, e660, hx660_0⟩ := Kd.at_int HR1.out x13_3 p660 q660
                    cases e660
                    replace hx660_0 := hc_ HB hx660_0
                    replace p660 := eq_true p660
                    replace q660 := eq_true q660
                    go_wp2
                    go_ret2
                    exact ⟨_, er_, by (with_reducible repeat (first | apply Kd.R_alloc | apply Kd.R_drewN | apply Kd.R_drew)); exact HO_12.out, hb_⟩
                   ·rw [if_neg c41] at H
                    have c41b0 : ((rd l1 x13_3) == (-1)) = false := beq_eq_false_iff_ne.mpr c41
                    have c41b1 : ((rd l1 x13_3) != (-1)) = true := bne_iff_ne.mpr c41
                    replace H := Option.bind_eq_some_iff.mp H
                    obtain ⟨t662, A430, H⟩ := H
                    replace H : (if t662 = true then (if x12_3.length < 17592186044416 then (impl_PlayBoard.l1 k3 l1 (x12_3 ++ [rd l1 x13_3]) (rd l1 x13_3) l3 (l3.length : Int) (wrap64 (x56_3 + 1)) l0_0 l0_1 l0_2) else (none)) else (some (([] : List Int), false))) = some (r1, r2) := H
                    have A43 := Aside0.mk A430
                    clear A430
                    by_cases c44 : t662 = true
                    ·subst c44
                     rw [if_pos rfl] at H
                     by_cases c45 : x12_3.length < 17592186044416
                     ·rw [if_pos c45] at H
                      have LMc45 := Aside0.mk c45
                      clear c45
                      obtain ⟨y664, hy664⟩ : ∃ y_ : List Int, y_ = (x12_3 ++ [rd l1 x13_3]) := ⟨_, rfl⟩
                      replace H : (impl_PlayBoard.l1 k3 l1 y664 (rd l1 x13_3) l3 (l3.length : Int) (wrap64 (x56_3 + 1)) l0_0 l0_1 l0_2) = some (r1, r2) := by first | (rw [hy664]; with_reducible exact H) | (have H2_ := (Option.bind_some _ _).symm.trans H; rw [hy664]; with_reducible exact H2_) | (have H2_ := (Option.bind_some _ _).symm.trans H; with_reducible exact H2_) | with_reducible exact H | (rw [hy664]; exact H) | exact H
                      have Ny664 := Aside0.mk hy664
                      clear hy664
                      have H' := Aside0.mk H
                      clear H
                      have p657 : 0 ≤ (x56_3 : Int) := of_decide_eq_true as_
                      have q657 : x56_3 < (l3.length : Int) := of_decide_eq_true as_
                      obtain ⟨ad657, e657, hx657_0⟩ := Kd.at_int HR3.out x56_3 p657 q657
                      cases e657
                      replace hx657_0 := hc_ HB hx657_0
                      replace p657 := eq_true p657
                      replace q657 := eq_true q657
                      have hcz46_0 : wr.cell? ⟨gb650, 0, none⟩ = some (.slice A0_0 l0_0.length c0_0) := (blk_cell BK650.out 0).trans rfl
                      have hcz46_1 : wr.cell? ⟨gb650, 1, none⟩ = some (.slice A0_1 l0_1.length c0_1) := (blk_cell BK650.out 1).trans rfl
                      have hcz46_2 : wr.cell? ⟨gb650, 2, none⟩ = some (.slice A0_2 l0_2.length c0_2) := (blk_cell BK650.out 2).trans rfl
                      have hfz46_0 := blk_frozen BK650.out 0
                      have hfz46_1 := blk_frozen BK650.out 1
                      have hfz46_2 := blk_frozen BK650.out 2
                      have p658 : 0 ≤ (x13_3 : Int) := of_decide_eq_true as_
                      have q658 : x13_3 < (l0_2.length : Int) := of_decide_eq_true as_
                      obtain ⟨ad658, A658_0, c658_0, e658, hx658_0, hl658_0, hi658_0⟩ := at_L3 HR0_2.out x13_3 p658 q658
                      cases e658
                      replace hx658_0 := hc_ HB hx658_0
                      have HR658_0 := Aside0.mk hi658_0
                      have HC658_0 := Aside0.mk hl658_0
                      clear hi658_0 hl658_0
                      replace p658 := eq_true p658
                      replace q658 := eq_true q658
                      have p659 : 0 ≤ (x13_3 : Int) := of_decide_eq_true as_
                      have q659 : x13_3 < (l0_1.length : Int) := of_decide_eq_true as_
                      obtain ⟨ad659, e659, hx659_0⟩ := Kd.at_bool HR0_1.out x13_3 p659 q659
                      (try rw [← Nbq38.out] at hx659_0)
                      cases e659
                      replace hx659_0 := hc_ HB hx659_0
                      replace p659 := eq_true p659
                      replace q659 := eq_true q659
                      have p660 : 0 ≤ (x13_3 : Int) := of_decide_eq_true as_
                      have q660 : x13_3 < (l1.length : Int) := of_decide_eq_true as_
                      obtain ⟨ad660, e660, hx660_0⟩ := Kd.at_int HR1.out x13_3 p660 q660
                      cases e660
                      replace hx660_0 := hc_ HB hx660_0
                      replace p660 := eq_true p660
                      replace q660 := eq_true q660
                      have p661 : 0 ≤ (x13_3 : Int) := of_decide_eq_true as_
                      have q661 : x13_3 < (l1.length : Int) := of_decide_eq_true as_
                      obtain ⟨ad661, e661, hx661_0⟩ := Kd.at_int HR1.out x13_3 p661 q661
                      obtain rfl : ad660 = ad661 := (by injection e661)
                      replace hx661_0 := hc_ HB hx661_0
                      replace p661 := eq_true p661
                      replace q661 := eq_true q661
                      go_wp2_with (first | ((with_reducible refine gate_callee (f := 78) rfl ?_); refine goesL_ (some 83) rfl rfl Tryd.func78 (by kernel_rfl) rfl #[.slice A658_0 (rd_L3 l0_2 x13_3).length c658_0, .int .i64 (rd l1 x13_3)] rfl ls_ ?_; (with_reducible refine (slices_Contains_int_int.calls k3 _ _ (rd_L3 l0_2 x13_3) (rd l1 x13_3) true _ ?side1 ?side2 A43.out).mono ?_); (case side1 => exact cb_ HR658_0.out); (case side2 => exact HC658_0.out); rintro e w' ⟨rfl, ⟨nd, rfl⟩⟩; refine ⟨_, rfl, ?_⟩; have p663 : 0 ≤ (x13_3 : Int) := of_decide_eq_true as_; have q663 : x13_3 < (l1.length : Int) := of_decide_eq_true as_; obtain ⟨ad663, e663, hx663_0⟩ := Kd.at_int HR1.out x13_3 p663 q663; obtain rfl : ad660 = ad663 := (by injection e663); replace hx663_0 := hc_ HB hx663_0; replace p663 := eq_true p663; replace q663 := eq_true q663) | ((with_reducible refine gate_builtin (b := .append) (xs := #[.tmp 96, .tmp 98]) rfl ?_); (try (refine gate_guard (by rfl) ?_; dsimp only)); at_builtin; refine Kd.R_append (Kd.int .i64) (w0 := w) w.heap.size rfl (.tmp 96) (.tmp 98) 31 3 (.int .i64 0) 8 rfl Tryd.underlying31 info3 rfl (by decide) (by omega) u12 x12_3 (rd l1 x13_3) [.int .i64 (rd l1 x13_3)] (fun _ => True) (fun _ => False) rfl rfl ?aP (fun _ hk => hk.elim) ?aF ?aO ?aB ?aS ?aL ?_; (case aP => exact rfl); (case aB => exact hb_); (case aF => exact (fun _ _ => trivial)); (case aO => exact (ra_ HO_12.out)); (case aS => exact (below_size hb_)); (case aL => have := LMc45.out; omega); intro v665 w47 ho hb hg hat; rw [← Ny664.out] at ho; have n0_ := Aside0.mk (blk_grown (g := gb650) (o := .cells #[.slice A0_0 l0_0.length c0_0, .slice (some ad659) l0_1.length c0_1, .slice (some ad658) l0_2.length c0_2] 34 (0, 0)) (bk_ BK650.out) hg (Kd.R_ne HO_12.out BK650.out (by decide))); have n1_ := Aside0.mk (hb); have n2_ := Aside0.mk (ho); clear BK650; clear HB; clear HO_12; have BK650 := n0_; have HB := n1_; have HO666 := n2_; clear n0_ n1_ n2_; clear ho hb hg hat))
                      go_roundg k3
                      case measure => have := HJ4.out; have := HK2.out; have := HK3.out; omega
                      case rel => exact ⟨(y664), (rd l1 x13_3), (wrap64 (x56_3 + 1)), es_, es_, H', ⟨by have := HJ4.out; have := HK2.out; have := HK3.out; omega⟩, ⟨ra_ HO666.out⟩, ⟨bk_ BK650.out⟩, ⟨hb_⟩⟩
                     ·rw [if_neg c45] at H
                      exact absurd H (by simp)
                    ·replace c44 := Bool.eq_false_iff.mpr c44
                     subst c44
                     rw [if_neg (show ¬ (false = true) by decide)] at H
                     simp only [Option.some.injEq, Prod.mk.injEq] at H
                     obtain ⟨rfl, rfl⟩ := H
                     have p657 : 0 ≤ (x56_3 : Int) := of_decide_eq_true as_
                     have q657 : x56_3 < (l3.length : Int) := of_decide_eq_true as_
                     obtain ⟨ad657, e657, hx657_0⟩ := Kd.at_int HR3.out x56_3 p657 q657
                     cases e657
                     replace hx657_0 := hc_ HB hx657_0
                     replace p657 := eq_true p657
                     replace q657 := eq_true q657
                     have hcz48_0 : wr.cell? ⟨gb650, 0, none⟩ = some (.slice A0_0 l0_0.length c0_0) := (blk_cell BK650.out 0).trans rfl
                     have hcz48_1 : wr.cell? ⟨gb650, 1, none⟩ = some (.slice A0_1 l0_1.length c0_1) := (blk_cell BK650.out 1).trans rfl
                     have hcz48_2 : wr.cell? ⟨gb650, 2, none⟩ = some (.slice A0_2 l0_2.length c0_2) := (blk_cell BK650.out 2).trans rfl
                     have hfz48_0 := blk_frozen BK650.out 0
                     have hfz48_1 := blk_frozen BK650.out 1
                     have hfz48_2 := blk_frozen BK650.out 2
                     have p658 : 0 ≤ (x13_3 : Int) := of_decide_eq_true as_
                     have q658 : x13_3 < (l0_2.length : Int) := of_decide_eq_true as_
                     obtain ⟨ad658, A658_0, c658_0, e658, hx658_0, hl658_0, hi658_0⟩ := at_L3 HR0_2.out x13_3 p658 q658
                     cases e658
                     replace hx658_0 := hc_ HB hx658_0
                     have HR658_0 := Aside0.mk hi658_0
                     have HC658_0 := Aside0.mk hl658_0
                     clear hi658_0 hl658_0
                     replace p658 := eq_true p658
                     replace q658 := eq_true q658
                     have p659 : 0 ≤ (x13_3 : Int) := of_decide_eq_true as_
                     have q659 : x13_3 < (l0_1.length : Int) := of_decide_eq_true as_
                     obtain ⟨ad659, e659, hx659_0⟩ := Kd.at_bool HR0_1.out x13_3 p659 q659
                     (try rw [← Nbq38.out] at hx659_0)
                     cases e659
                     replace hx659_0 := hc_ HB hx659_0
                     replace p659 := eq_true p659
                     replace q659 := eq_true q659
                     have p660 : 0 ≤ (x13_3 : Int) := of_decide_eq_true as_
                     have q660 : x13_3 < (l1.length : Int) := of_decide_eq_true as_
                     obtain ⟨ad660, e660, hx660_0⟩ := Kd.at_int HR1.out x13_3 p660 q660
                     cases e660
                     replace hx660_0 := hc_ HB hx660_0
                     replace p660 := eq_true p660
                     replace q660 := eq_true q660
                     have p661 : 0 ≤ (x13_3 : Int) := of_decide_eq_true as_
                     have q661 : x13_3 < (l1.length : Int) := of_decide_eq_true as_
                     obtain ⟨ad661, e661, hx661_0⟩ := Kd.at_int HR1.out x13_3 p661 q661
                     obtain rfl : ad660 = ad661 := (by injection e661)
                     replace hx661_0 := hc_ HB hx661_0
                     replace p661 := eq_true p661
                     replace q661 := eq_true q661
                     go_wp2_with (first | ((with_reducible refine gate_callee (f := 78) rfl ?_); refine goesL_ (some 83) rfl rfl Tryd.func78 (by kernel_rfl) rfl #[.slice A658_0 (rd_L3 l0_2 x13_3).length c658_0, .int .i64 (rd l1 x13_3)] rfl ls_ ?_; (with_reducible refine (slices_Contains_int_int.calls k3 _ _ (rd_L3 l0_2 x13_3) (rd l1 x13_3) false _ ?side1 ?side2 A43.out).mono ?_); (case side1 => exact cb_ HR658_0.out); (case side2 => exact HC658_0.out); rintro e w' ⟨rfl, ⟨nd, rfl⟩⟩; refine ⟨_, rfl, ?_⟩))
                     go_ret2
                     exact ⟨_, er_, by first | exact Kd.R_nil _ _ _ _ _ | exact Kd.N_nil _ _ _ _ _ | exact Kd.V_nil _ _ _ _ _ | exact Kd.Q_nil _ _ _ _ _ | exact Kd.S_nil _ _ _ _ _, hb_⟩
                  ·rw [if_neg c40] at H
                   exact absurd H (by simp)
                 ·replace c39 := Bool.eq_false_iff.mpr c39
                  subst c39
                  rw [if_neg (show ¬ (false = true) by decide)] at H
                  obtain ⟨ji49, hji49⟩ : ∃ j_ : Int, (Int.tmod (rd l3 x56_3) ((rd_L3 l0_2 x13_3).length : Int)) = j_ := ⟨_, rfl⟩
                  replace H : (if 0 ≤ (ji49) then (if (ji49) < ((rd_L3 l0_2 x13_3).length : Int) then (if x12_3.length < 17592186044416 then (impl_PlayBoard.l1 k3 l1 (x12_3 ++ [rd (rd_L3 l0_2 x13_3) (ji49)]) (rd (rd_L3 l0_2 x13_3) (ji49)) l3 (l3.length : Int) (wrap64 (x56_3 + 1)) l0_0 l0_1 l0_2) else (none)) else (none)) else (none)) = some (r1, r2) := by first | (rw [hji49] at H; exact H) | (simp only [hji49] at H ⊢; exact H)
                  by_cases c50 : 0 ≤ (ji49)
                  ·rw [if_pos c50] at H
                   have c50b0 : decide (0 ≤ (ji49)) = true := decide_eq_true c50
                   clear c50
                   by_cases c51 : (ji49) < ((rd_L3 l0_2 x13_3).length : Int)
                   ·rw [if_pos c51] at H
                    have c51b0 : decide ((ji49) < ((rd_L3 l0_2 x13_3).length : Int)) = true := decide_eq_true c51
                    clear c51
                    by_cases c52 : x12_3.length < 17592186044416
                    ·rw [if_pos c52] at H
                     have LMc52 := Aside0.mk c52
                     clear c52
                     obtain ⟨y668, hy668⟩ : ∃ y_ : List Int, y_ = (x12_3 ++ [rd (rd_L3 l0_2 x13_3) (ji49)]) := ⟨_, rfl⟩
                     replace H : (impl_PlayBoard.l1 k3 l1 y668 (rd (rd_L3 l0_2 x13_3) (ji49)) l3 (l3.length : Int) (wrap64 (x56_3 + 1)) l0_0 l0_1 l0_2) = some (r1, r2) := by first | (rw [hy668]; with_reducible exact H) | (have H2_ := (Option.bind_some _ _).symm.trans H; rw [hy668]; with_reducible exact H2_) | (have H2_ := (Option.bind_some _ _).symm.trans H; with_reducible exact H2_) | with_reducible exact H | (rw [hy668]; exact H) | exact H
                     have Ny668 := Aside0.mk hy668
                     clear hy668
                     have H' := Aside0.mk H
                     clear H
                     have p657 : 0 ≤ (x56_3 : Int) := of_decide_eq_true as_
                     have q657 : x56_3 < (l3.length : Int) := of_decide_eq_true as_
                     obtain ⟨ad657, e657, hx657_0⟩ := Kd.at_int HR3.out x56_3 p657 q657
                     cases e657
                     replace hx657_0 := hc_ HB hx657_0
                     replace p657 := eq_true p657
                     replace q657 := eq_true q657
                     have hcz53_0 : wr.cell? ⟨gb650, 0, none⟩ = some (.slice A0_0 l0_0.length c0_0) := (blk_cell BK650.out 0).trans rfl
                     have hcz53_1 : wr.cell? ⟨gb650, 1, none⟩ = some (.slice A0_1 l0_1.length c0_1) := (blk_cell BK650.out 1).trans rfl
                     have hcz53_2 : wr.cell? ⟨gb650, 2, none⟩ = some (.slice A0_2 l0_2.length c0_2) := (blk_cell BK650.out 2).trans rfl
                     have hfz53_0 := blk_frozen BK650.out 0
                     have hfz53_1 := blk_frozen BK650.out 1
                     have hfz53_2 := blk_frozen BK650.out 2
                     have p658 : 0 ≤ (x13_3 : Int) := of_decide_eq_true as_
                     have q658 : x13_3 < (l0_2.length : Int) := of_decide_eq_true as_
                     obtain ⟨ad658, A658_0, c658_0, e658, hx658_0, hl658_0, hi658_0⟩ := at_L3 HR0_2.out x13_3 p658 q658
                     cases e658
                     replace hx658_0 := hc_ HB hx658_0
                     have HR658_0 := Aside0.mk hi658_0
                     have HC658_0 := Aside0.mk hl658_0
                     clear hi658_0 hl658_0
                     replace p658 := eq_true p658
                     replace q658 := eq_true q658
                     have p659 : 0 ≤ (x13_3 : Int) := of_decide_eq_true as_
                     have q659 : x13_3 < (l0_1.length : Int) := of_decide_eq_true as_
                     obtain ⟨ad659, e659, hx659_0⟩ := Kd.at_bool HR0_1.out x13_3 p659 q659
                     (try rw [← Nbq38.out] at hx659_0)
                     cases e659
                     replace hx659_0 := hc_ HB hx659_0
                     replace p659 := eq_true p659
                     replace q659 := eq_true q659
                     have p667 : 0 ≤ ((ji49) : Int) := of_decide_eq_true as_
                     have q667 : (ji49) < ((rd_L3 l0_2 x13_3).length : Int) := of_decide_eq_true as_
                     obtain ⟨ad667, e667, hx667_0⟩ := Kd.at_int HR658_0.out (ji49) p667 q667
                     cases e667
                     replace hx667_0 := hc_ HB hx667_0
                     replace p667 := eq_true p667
                     replace q667 := eq_true q667
                     go_wp2_with (first | ((with_reducible refine gate_builtin (b := .append) (xs := #[.tmp 96, .tmp 98]) rfl ?_); (try (refine gate_guard (by rfl) ?_; dsimp only)); at_builtin; refine Kd.R_append (Kd.int .i64) (w0 := w) w.heap.size rfl (.tmp 96) (.tmp 98) 31 3 (.int .i64 0) 8 rfl Tryd.underlying31 info3 rfl (by decide) (by omega) u12 x12_3 (rd (rd_L3 l0_2 x13_3) (ji49)) [.int .i64 (rd (rd_L3 l0_2 x13_3) (ji49))] (fun _ => True) (fun _ => False) rfl rfl ?aP (fun _ hk => hk.elim) ?aF ?aO ?aB ?aS ?aL ?_; (case aP => exact rfl); (case aB => exact hb_); (case aF => exact (fun _ _ => trivial)); (case aO => exact (ra_ HO_12.out)); (case aS => exact (below_size hb_)); (case aL => have := LMc52.out; omega); intro v669 w54 ho hb hg hat; rw [← Ny668.out] at ho; have n0_ := Aside0.mk (blk_grown (g := gb650) (o := .cells #[.slice A0_0 l0_0.length c0_0, .slice (some ad659) l0_1.length c0_1, .slice (some ad658) l0_2.length c0_2] 34 (0, 0)) (bk_ BK650.out) hg (Kd.R_ne HO_12.out BK650.out (by decide))); have n1_ := Aside0.mk (hb); have n2_ := Aside0.mk (ho); clear BK650; clear HB; clear HO_12; have BK650 := n0_; have HB := n1_; have HO670 := n2_; clear n0_ n1_ n2_; clear ho hb hg hat))
                     go_roundg k3
                     case measure => have := HJ4.out; have := HK2.out; have := HK3.out; omega
                     case rel => exact ⟨(y668), (rd (rd_L3 l0_2 x13_3) (ji49)), (wrap64 (x56_3 + 1)), (by first | rfl | (simp; done) | (simp only [← hji49] <;> (first | rfl | simp)) | (simp [*]; done)), es_, H', ⟨by have := HJ4.out; have := HK2.out; have := HK3.out; omega⟩, ⟨ra_ HO670.out⟩, ⟨bk_ BK650.out⟩, ⟨hb_⟩⟩
                    ·rw [if_neg c52] at H
                     exact absurd H (by simp)
                   ·rw [if_neg c51] at H
                    exact absurd H (by simp)
                  ·rw [if_neg c50] at H
                   exact absurd H (by simp)
                ·rw [if_neg c37] at H
                 exact absurd H (by simp)
              ·rw [if_neg c34] at H
               exact absurd H (by simp)
             ·rw [if_neg c33] at H
              exact absurd H (by simp)
            ·rw [if_neg c32] at H
             exact absurd H (by simp)
           ·rw [if_neg c31] at H
            exact absurd H (by simp)
          ·rw [if_neg c30] at H
           have c30b0 : decide (x56_3 < (l3.length : Int)) = false := decide_eq_false c30
           clear c30
           simp only [Option.some.injEq, Prod.mk.injEq] at H
           obtain ⟨rfl, rfl⟩ := H
           go_wp2
           go_ret2
           exact ⟨_, er_, by (with_reducible repeat (first | apply Kd.R_alloc | apply Kd.R_drewN | apply Kd.R_drew)); exact HO_12.out, hb_⟩

end Go.Proofs.YtdihodboopeakaaDoor.Pr
