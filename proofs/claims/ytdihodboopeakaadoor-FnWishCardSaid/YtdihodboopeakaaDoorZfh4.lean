-- Joined and pruned by wip/tools/prune.py out of this session's own texts (Pr20, Pr21, Jnd, Prd4, Pr14, Sla, Ow)
import Derived.Test.YtdihodboopeakaaDoorZfh3
import Derived.Lib.Join
import Derived.Ground.NamesProg
import Derived.Shelf.Utf8.RuneCount
import Derived.Shelf.Unicode.DecodeSlow
import Derived.Shelf.Unicode.DecodeAny
import Derived.Test.YtdihodboopeakaaDoorProg
import Derived.Lib.TrimUEq
import Derived.Lib.DecodeN
import Derived.Outline
-- Written by this session's own print (wip/tools/mkmp.py) out of the translation. Lean checks it.
namespace Go.Proofs.YtdihodboopeakaaDoor.Pr
open Go.RowKit Go.Proofs.YtdihodboopeakaaDoorW.PrintWords Go.Proofs.YtdihodboopeakaaDoorW.PrintLast Go.Proofs.YtdihodboopeakaaDoorW.PrintMore
attribute [local go_sem] max2_int min2_int max_two min_two max_three min_three max_four min_four   -- for this text's walks alone
set_option linter.unusedVariables false
set_option linter.unusedSimpArgs false

set_option maxHeartbeats 8000000 in
set_option maxRecDepth 100000 in
theorem spec_WriteWish.calls (k : Nat) (P0_0_ : Nat → Prop) (A0_0 : Option Addr) (c0_0 : Nat) (l0_0 : List ByteArray) (P0_1_ : Nat → Prop) (A0_1 : Option Addr) (c0_1 : Nat) (l0_1 : List ByteArray) (r1 : ByteArray) (r2 : Bool) (w : World) (hs0_0 : Kd.V Kd.string 9 w w.heap.size (fun k_ => P0_0_ k_) (.slice A0_0 l0_0.length c0_0) l0_0) (hs0_1 : Kd.V Kd.string 9 w w.heap.size (fun k_ => P0_1_ k_) (.slice A0_1 l0_1.length c0_1) l0_1) (h : spec_WriteWish.f k l0_0 l0_1 = some (r1, r2)) :
   Calls Tryd.prog 34 #[.agg #[.slice A0_0 l0_0.length c0_0, .slice A0_1 l0_1.length c0_1]] w fun e w' => e = .returned (.tuple #[.string r1, .bool r2]) ∧ Below w.heap.size w w' := by
  have hu36 := Tryd.underlying36
  have HO0_0 := Aside0.mk (show Kd.V Kd.string 9 w w.heap.size (fun k_ => ((P0_0_ k_ ∨ P0_1_ k_) ∨ w.heap.size ≤ k_)) (.slice A0_0 l0_0.length c0_0) l0_0 from Kd.V_mono hs0_0 (fun k_ hk => .inl (.inl hk)))
  have HO0_1 := Aside0.mk (show Kd.V Kd.string 9 w w.heap.size (fun k_ => ((P0_0_ k_ ∨ P0_1_ k_) ∨ w.heap.size ≤ k_)) (.slice A0_1 l0_1.length c0_1) l0_1 from Kd.V_mono hs0_1 (fun k_ hk => .inl (.inr hk)))
  have HB := Aside0.mk (Below.refl w.heap.size w)
  have H : ((spec_l22Good.f k l0_0 l0_1).bind fun t307 => (if t307 = true then ((some (([l0_0, l0_1] : List (List ByteArray)) : List (List ByteArray))).bind fun y308 => (spec_WriteWish.l0 k (⟨#[]⟩ : ByteArray) y308 (y308.length : Int) 0)) else (some ((⟨#[]⟩ : ByteArray), false)))) = some (r1, r2) := h
  clear h
  replace H := Option.bind_eq_some_iff.mp H
  obtain ⟨t307, A20, H⟩ := H
  replace H : (if t307 = true then ((some (([l0_0, l0_1] : List (List ByteArray)) : List (List ByteArray))).bind fun y308 => (spec_WriteWish.l0 k (⟨#[]⟩ : ByteArray) y308 (y308.length : Int) 0)) else (some ((⟨#[]⟩ : ByteArray), false))) = some (r1, r2) := H
  have A2 := Aside0.mk A20
  clear A20
  by_cases c3 : t307 = true
  ·subst c3
   rw [if_pos rfl] at H
   obtain ⟨y308, hy308⟩ : ∃ y_ : List (List ByteArray), y_ = (([l0_0, l0_1] : List (List ByteArray))) := ⟨_, rfl⟩
   replace H : (spec_WriteWish.l0 k (⟨#[]⟩ : ByteArray) y308 (y308.length : Int) 0) = some (r1, r2) := by first | (rw [hy308]; with_reducible exact H) | (have H2_ := (Option.bind_some _ _).symm.trans H; rw [hy308]; with_reducible exact H2_) | (have H2_ := (Option.bind_some _ _).symm.trans H; with_reducible exact H2_) | with_reducible exact H | (rw [hy308]; exact H) | exact H
   have Ny308 := Aside0.mk hy308
   clear hy308
   have H' := Aside0.mk H
   clear H
   go_enter Tryd.func34, Tryd.ntmps34
   go_wp2_with (first | ((with_reducible refine gate_dst (N := 1) rfl ?_); refine box_event ?hg (N := 1) ?hd (cs := #[.slice A0_0 l0_0.length c0_0, .slice A0_1 l0_1.length c0_1]) (t := 36) ?hr ?_; (case hd => rfl); (case hg => rfl); (case hr => first | (go_simp; done) | (go_simp; rfl)); intro gb306 hg w4 hbox hb; have n0_ := Aside0.mk (Kd.V_below (Kd.V_elderB (by (with_reducible repeat (first | apply Kd.V_alloc | apply Kd.V_drewN | apply Kd.V_drew)); exact HO0_0.out) gb306 (Nat.le_of_eq hg.symm)) hb); have n1_ := Aside0.mk (Kd.V_below (Kd.V_elderB (by (with_reducible repeat (first | apply Kd.V_alloc | apply Kd.V_drewN | apply Kd.V_drew)); exact HO0_1.out) gb306 (Nat.le_of_eq hg.symm)) hb); have n2_ := Aside0.mk (below_step hb_ hb); have n3_ := Aside0.mk (hbox); have n4_ : Aside0 (w.heap.size ≤ gb306) := gz_; have n5_ : Aside0 (w.heap.size ≤ gb306) := gz_; clear HO0_0; clear HO0_1; clear HB; have HO0_0 := n0_; have HO0_1 := n1_; have HB := n2_; have BK306 := n3_; have GW306 := n4_; have GE306 := n5_; clear n0_ n1_ n2_ n3_ n4_ n5_; clear hb hbox hg; have hcz5_0 : w4.cell? ⟨gb306, 0, none⟩ = some (.slice A0_0 l0_0.length c0_0) := (blk_cell BK306.out 0).trans rfl; have hcz5_1 : w4.cell? ⟨gb306, 1, none⟩ = some (.slice A0_1 l0_1.length c0_1) := (blk_cell BK306.out 1).trans rfl; have hfz5_0 := blk_frozen BK306.out 0; have hfz5_1 := blk_frozen BK306.out 1) | ((with_reducible refine gate_callee (f := 50) rfl ?_); refine goesL_ (some 10) rfl rfl Tryd.func50 (by kernel_rfl) rfl #[.agg #[.slice A0_0 l0_0.length c0_0, .slice A0_1 l0_1.length c0_1]] rfl ls_ ?_; (with_reducible refine (spec_l22Good.calls k _ _ l0_0 _ _ l0_1 true _ ?side1 ?side2 ?side3 ?side4 A2.out).mono ?_); (case side1 => exact ca_ (Kd.V_reads' HO0_0.out).2.2); (case side2 => exact (Kd.V_reads' HO0_0.out).2.1); (case side3 => exact ca_ (Kd.V_reads' HO0_1.out).2.2); (case side4 => exact (Kd.V_reads' HO0_1.out).2.1); rintro e w6 ⟨rfl, hb⟩; refine ⟨_, rfl, ?_⟩; have n0_ := Aside0.mk (Kd.V_below (by (with_reducible repeat (first | apply Kd.V_alloc | apply Kd.V_drewN | apply Kd.V_drew)); exact HO0_0.out) hb); have n1_ := Aside0.mk (Kd.V_below (by (with_reducible repeat (first | apply Kd.V_alloc | apply Kd.V_drewN | apply Kd.V_drew)); exact HO0_1.out) hb); have n2_ := bb_ BK306 hb; have n3_ := Aside0.mk (below_step hb_ hb); clear HO0_0; clear HO0_1; clear BK306; clear HB; have HO0_0 := n0_; have HO0_1 := n1_; have BK306 := n2_; have HB := n3_; clear n0_ n1_ n2_ n3_; (try clear hb); (try clear hb2); (try clear hk); (try clear hi); have hcz7_0 : w6.cell? ⟨gb306, 0, none⟩ = some (.slice A0_0 l0_0.length c0_0) := (blk_cell BK306.out 0).trans rfl; have hcz7_1 : w6.cell? ⟨gb306, 1, none⟩ = some (.slice A0_1 l0_1.length c0_1) := (blk_cell BK306.out 1).trans rfl; have hfz7_0 := blk_frozen BK306.out 0; have hfz7_1 := blk_frozen BK306.out 1) | ((with_reducible refine gate_dst (N := 16) rfl ?_); refine Kd.N_lit (Kd.slice 9 Kd.string) _ 22 ?hg (N' := 16) ?hd (xs := ([l0_0, l0_1] : List (List ByteArray))) (inner := [.slice A0_0 l0_0.length c0_0, .slice A0_1 l0_1.length c0_1]) (ok := (fun k_ => ((P0_0_ k_ ∨ P0_1_ k_) ∨ w.heap.size ≤ k_) ∧ k_ ≠ gb306)) (okp := (fun k_ => ((P0_0_ k_ ∨ P0_1_ k_) ∨ w.heap.size ≤ k_) ∧ k_ ≠ gb306)) ?hr ?hp (fun _ hk => hk) ((show ∀ k_, w6.heap.size ≤ k_ → (fun k_ => ((P0_0_ k_ ∨ P0_1_ k_) ∨ w.heap.size ≤ k_) ∧ k_ ≠ gb306) k_ from fun k_ hk => ⟨(.inr (Nat.le_trans (below_size hb_) hk)), Kd.freshB (g := gb306) (o := .cells #[.slice A0_0 l0_0.length c0_0, .slice A0_1 l0_1.length c0_1] 36 (0, 0)) (bk_ BK306.out) k_ hk⟩) _ (Nat.le_refl _)) (Below.refl _ _) (Nat.le_refl _) (by simp) ?_; (case hd => rfl); (case hg => rfl); (case hr => first | (go_simp; done) | (go_simp; rfl)); (case hp => exact (Reps.one (show Kd.FK (Kd.slice 9 Kd.string) _ _ l0_0 [.slice A0_0 l0_0.length c0_0] from (Kd.FK_slice_mk (Kd.V_reads' (Kd.V_mono (ok' := (fun k_ => ((P0_0_ k_ ∨ P0_1_ k_) ∨ w.heap.size ≤ k_) ∧ k_ ≠ gb306)) (HO0_0.out) (fun k_ hk => ⟨hk.1, hk.2⟩))).2.1 (Kd.V_F (Kd.V_mono (ok' := (fun k_ => ((P0_0_ k_ ∨ P0_1_ k_) ∨ w.heap.size ≤ k_) ∧ k_ ≠ gb306)) (HO0_0.out) (fun k_ hk => ⟨hk.1, hk.2⟩))))) (Reps.one (show Kd.FK (Kd.slice 9 Kd.string) _ _ l0_1 [.slice A0_1 l0_1.length c0_1] from (Kd.FK_slice_mk (Kd.V_reads' (Kd.V_mono (ok' := (fun k_ => ((P0_0_ k_ ∨ P0_1_ k_) ∨ w.heap.size ≤ k_) ∧ k_ ≠ gb306)) (HO0_1.out) (fun k_ hk => ⟨hk.1, hk.2⟩))).2.1 (Kd.V_F (Kd.V_mono (ok' := (fun k_ => ((P0_0_ k_ ∨ P0_1_ k_) ∨ w.heap.size ≤ k_) ∧ k_ ≠ gb306)) (HO0_1.out) (fun k_ hk => ⟨hk.1, hk.2⟩))))) (Reps.none _ _)))); intro v309 w8 ho9 hb hg_ hnew_; clear hg_ hnew_; (first | rw [← Ny308.out] at ho9 | (simp only [Int.reduceToNat] at ho9; rw [← Ny308.out] at ho9)); have n0_ := Aside0.mk (Kd.V_elder' (by (with_reducible repeat (first | apply Kd.V_alloc | apply Kd.V_drewN | apply Kd.V_drew)); exact HO0_0.out) (Kd.N_base ho9) hb); have n1_ := Aside0.mk (Kd.V_elder' (by (with_reducible repeat (first | apply Kd.V_alloc | apply Kd.V_drewN | apply Kd.V_drew)); exact HO0_1.out) (Kd.N_base ho9) hb); have n2_ := Aside0.mk (Kd.N_lower ho9 (below_size hb_)); have n3_ := bb_ BK306 hb; have n4_ := Aside0.mk (below_step hb_ hb); clear HO0_0; clear HO0_1; clear BK306; clear HB; have HO0_0 := n0_; have HO0_1 := n1_; have HO310 := n2_; have BK306 := n3_; have HB := n4_; clear n0_ n1_ n2_ n3_ n4_; clear hb ho9; obtain ⟨Ao10, co10, eo10⟩ := Kd.N_slice HO310.out; subst eo10))
   go_loopg [4, 18] k (fun kq v4 v18 w' => ∃ (x4_1 : ByteArray) (x18_1 : Int), v4 = .string x4_1 ∧ v18 = .int .i64 x18_1 ∧ Aside0 (spec_WriteWish.l0 kq x4_1 y308 (y308.length : Int) x18_1 = some (r1, r2)) ∧ Aside0 (kq ≤ k) ∧ Aside0 (Kd.N (Kd.slice 9 Kd.string) 22 w' w.heap.size (fun k_ => ((P0_0_ k_ ∨ P0_1_ k_) ∨ w.heap.size ≤ k_) ∧ k_ ≠ gb306) (.slice Ao10 y308.length co10) y308) ∧ Aside0 (Kd.V Kd.string 9 w' w.heap.size (fun k_ => ((P0_0_ k_ ∨ P0_1_ k_) ∨ w.heap.size ≤ k_) ∧ some k_ ≠ ((.slice Ao10 y308.length co10) : Value).ownBlock ∧ k_ ≠ gb306) (.slice A0_0 l0_0.length c0_0) l0_0) ∧ Aside0 (Kd.V Kd.string 9 w' w.heap.size (fun k_ => ((P0_0_ k_ ∨ P0_1_ k_) ∨ w.heap.size ≤ k_) ∧ some k_ ≠ ((.slice Ao10 y308.length co10) : Value).ownBlock ∧ k_ ≠ gb306) (.slice A0_1 l0_1.length c0_1) l0_1) ∧ Aside0 (w'.heap[gb306]? = some (.cells #[(.slice A0_0 l0_0.length c0_0), (.slice A0_1 l0_1.length c0_1)] 36 (0, 0))) ∧ Aside0 (Below w.heap.size w w'))
   case atStart => exact ⟨((⟨#[]⟩ : ByteArray)), (0), es_, es_, H', ⟨Nat.le_refl _⟩, ⟨by (with_reducible repeat (first | apply Kd.N_alloc | apply Kd.N_drewN | apply Kd.N_drew)); exact HO310.out⟩, ⟨by (with_reducible repeat (first | apply Kd.V_alloc | apply Kd.V_drewN | apply Kd.V_drew)); exact Kd.V_mono HO0_0.out (fun _ hk => ⟨hk.1.1, ⟨hk.2, hk.1.2⟩⟩)⟩, ⟨by (with_reducible repeat (first | apply Kd.V_alloc | apply Kd.V_drewN | apply Kd.V_drew)); exact Kd.V_mono HO0_1.out (fun _ hk => ⟨hk.1.1, ⟨hk.2, hk.1.2⟩⟩)⟩, ⟨bk_ BK306.out⟩, ⟨hb_⟩⟩
   case round =>
    clear H'
    try clear p2
    try clear c3
    try clear c5
    try clear hcz5_0
    try clear hcz5_1
    try clear hcz7_0
    try clear hcz7_1
    try clear hfz5_0
    try clear hfz5_1
    try clear hfz7_0
    try clear hfz7_1
    obtain ⟨x4_1, x18_1, rfl, rfl, HA, HK1, HO_16, HO_307000, HO_307001, BK306, HB⟩ := hrel
    cases gk with
    | zero => exact absurd HA.out (by simp [spec_WriteWish.l0])
    | succ k1 =>
     have H := HA.out
     clear HA
     simp only [spec_WriteWish.l0] at H
     by_cases c11 : x18_1 < (y308.length : Int)
     ·rw [if_pos c11] at H
      have c11b0 : decide (x18_1 < (y308.length : Int)) = true := decide_eq_true c11
      clear c11
      by_cases c12 : 0 ≤ x18_1
      ·rw [if_pos c12] at H
       have c12b0 : decide (0 ≤ x18_1) = true := decide_eq_true c12
       clear c12
       by_cases c13 : x18_1 < (y308.length : Int)
       ·rw [if_pos c13] at H
        have c13b0 : decide (x18_1 < (y308.length : Int)) = true := decide_eq_true c13
        clear c13
        by_cases c14 : ((rd_L4 y308 x18_1).length : Int) = 0
        ·rw [if_pos c14] at H
         have c14b0 : (((rd_L4 y308 x18_1).length : Int) == 0) = true := beq_iff_eq.mpr c14
         have c14b1 : (((rd_L4 y308 x18_1).length : Int) != 0) = false := bne_eq_false_iff_eq.mpr c14
         clear c14
         have H' := Aside0.mk H
         clear H
         have p311 : 0 ≤ (x18_1 : Int) := of_decide_eq_true as_
         have q311 : x18_1 < (y308.length : Int) := of_decide_eq_true as_
         obtain ⟨ad311, A311_0, c311_0, e311, hx311_0, hl311_0, hi311_0⟩ := at_L4 (Kd.N_reads' HO_16.out).2.2 x18_1 p311 q311
         cases e311
         obtain ⟨ce311, hce311, hMe311, hcc311⟩ := Kd.N_get HO_16.out [] x18_1 p311 (by first | exact q311 | exact of_decide_eq_true as_ | (have e_ := (Kd.N_reads' HO_16.out).1; omega))
         obtain ⟨ua311_0, uc311_0, rfl, ul311_0, ge311_0⟩ := Kd.FK_slice_open hMe311
         have hv311_0 := hcc311 0 _ rfl
         rw [Nat.add_zero, show ((Kd.slice 9 Kd.string)).sz = 1 from rfl, Nat.mul_one] at hv311_0
         replace hv311_0 := Option.some.inj (hv311_0.symm.trans hx311_0)
         injection hv311_0 with hva_ hvn_ hvc_
         rw [hva_] at ge311_0
         rw [hvc_] at ul311_0
         have HL311_0 := Aside0.mk (show Kd.V Kd.string 9 _ w.heap.size _ _ (rd_L4 y308 x18_1) from Kd.V_mk ul311_0 ge311_0)
         clear hva_ hvn_ hvc_ ge311_0 ul311_0
         clear hcc311 hce311
         have HR311_0 := Aside0.mk hi311_0
         have HC311_0 := Aside0.mk hl311_0
         clear hi311_0 hl311_0
         replace p311 := eq_true p311
         replace q311 := eq_true q311
         go_wp2
         go_roundg k1
         case measure => have := HK1.out; omega
         case rel => exact ⟨(x4_1), (wrap64 (x18_1 + 1)), es_, es_, H', ⟨by have := HK1.out; omega⟩, ⟨by (with_reducible repeat (first | apply Kd.N_alloc | apply Kd.N_drewN | apply Kd.N_drew)); exact HO_16.out⟩, ⟨by (with_reducible repeat (first | apply Kd.V_alloc | apply Kd.V_drewN | apply Kd.V_drew)); exact HO_307000.out⟩, ⟨by (with_reducible repeat (first | apply Kd.V_alloc | apply Kd.V_drewN | apply Kd.V_drew)); exact HO_307001.out⟩, ⟨bk_ BK306.out⟩, ⟨hb_⟩⟩
        ·rw [if_neg c14] at H
         have c14b0 : (((rd_L4 y308 x18_1).length : Int) == 0) = false := beq_eq_false_iff_ne.mpr c14
         have c14b1 : (((rd_L4 y308 x18_1).length : Int) != 0) = true := bne_iff_ne.mpr c14
         have c14b2 : ¬ ((rd_L4 y308 x18_1) = []) := fun h_ => c14 (by rw [h_]; rfl)
         by_cases c15 : x4_1.toList = ([] : List UInt8)
         ·rw [if_pos c15] at H
          have c15b0 : (x4_1.toList == ([] : List UInt8)) = true := beq_iff_eq.mpr c15
          have c15b1 : (x4_1.toList != ([] : List UInt8)) = false := bne_eq_false_iff_eq.mpr c15
          clear c15
          by_cases c16 : x18_1 = 0
          ·rw [if_pos c16] at H
           have c16b0 : (x18_1 == 0) = true := beq_iff_eq.mpr c16
           have c16b1 : (x18_1 != 0) = false := bne_eq_false_iff_eq.mpr c16
           clear c16
           by_cases c17 : x4_1.size + 5 ≤ 9223372036854775807
           ·rw [if_pos c17] at H
            have c17b0 := eq_true c17
            have c17b1 : decide (x4_1.size + 5 ≤ 9223372036854775807) = true := decide_eq_true c17
            try have c17b2 : (9223372036854775807 < x4_1.size + 5) = False := eq_false (Nat.not_lt.2 c17)
            have H' := Aside0.mk H
            clear H
            have p311 : 0 ≤ (x18_1 : Int) := of_decide_eq_true as_
            have q311 : x18_1 < (y308.length : Int) := of_decide_eq_true as_
            obtain ⟨ad311, A311_0, c311_0, e311, hx311_0, hl311_0, hi311_0⟩ := at_L4 (Kd.N_reads' HO_16.out).2.2 x18_1 p311 q311
            cases e311
            obtain ⟨ce311, hce311, hMe311, hcc311⟩ := Kd.N_get HO_16.out [] x18_1 p311 (by first | exact q311 | exact of_decide_eq_true as_ | (have e_ := (Kd.N_reads' HO_16.out).1; omega))
            obtain ⟨ua311_0, uc311_0, rfl, ul311_0, ge311_0⟩ := Kd.FK_slice_open hMe311
            have hv311_0 := hcc311 0 _ rfl
            rw [Nat.add_zero, show ((Kd.slice 9 Kd.string)).sz = 1 from rfl, Nat.mul_one] at hv311_0
            replace hv311_0 := Option.some.inj (hv311_0.symm.trans hx311_0)
            injection hv311_0 with hva_ hvn_ hvc_
            rw [hva_] at ge311_0
            rw [hvc_] at ul311_0
            have HL311_0 := Aside0.mk (show Kd.V Kd.string 9 _ w.heap.size _ _ (rd_L4 y308 x18_1) from Kd.V_mk ul311_0 ge311_0)
            clear hva_ hvn_ hvc_ ge311_0 ul311_0
            clear hcc311 hce311
            have HR311_0 := Aside0.mk hi311_0
            have HC311_0 := Aside0.mk hl311_0
            clear hi311_0 hl311_0
            replace p311 := eq_true p311
            replace q311 := eq_true q311
            go_wp2
            go_loopg [4, 38] k1 (fun kq v4 v38 w' => ∃ (x4_2 : ByteArray) (x38_2 : Int), v4 = .string x4_2 ∧ v38 = .int .i64 x38_2 ∧ Aside0 (spec_WriteWish.l1 kq x4_2 y308 (y308.length : Int) x18_1 (rd_L4 y308 x18_1) ((rd_L4 y308 x18_1).length : Int) x38_2 = some (r1, r2)) ∧ Aside0 (kq ≤ k1) ∧ Aside0 (Kd.N (Kd.slice 9 Kd.string) 22 w' w.heap.size (fun k_ => ((P0_0_ k_ ∨ P0_1_ k_) ∨ w.heap.size ≤ k_) ∧ k_ ≠ gb306) (.slice (some ad311) y308.length co10) y308) ∧ Aside0 (Kd.V Kd.string 9 w' w.heap.size (fun k_ => ((P0_0_ k_ ∨ P0_1_ k_) ∨ w.heap.size ≤ k_) ∧ some k_ ≠ ((.slice (some ad311) y308.length co10) : Value).ownBlock ∧ k_ ≠ gb306) (.slice A0_0 l0_0.length c0_0) l0_0) ∧ Aside0 (Kd.V Kd.string 9 w' w.heap.size (fun k_ => ((P0_0_ k_ ∨ P0_1_ k_) ∨ w.heap.size ≤ k_) ∧ some k_ ≠ ((.slice (some ad311) y308.length co10) : Value).ownBlock ∧ k_ ≠ gb306) (.slice A0_1 l0_1.length c0_1) l0_1) ∧ Aside0 (w'.heap[gb306]? = some (.cells #[(.slice A0_0 l0_0.length c0_0), (.slice A0_1 l0_1.length c0_1)] 36 (0, 0))) ∧ Aside0 (Kd.C Kd.string w' A311_0 (rd_L4 y308 x18_1).length (rd_L4 y308 x18_1)) ∧ Aside0 (Below w.heap.size w w'))
            case atStart => exact ⟨(x4_1 ++ (⟨#[114, 101, 97, 99, 104]⟩ : ByteArray)), (0), es_, es_, H', ⟨Nat.le_refl _⟩, ⟨by (with_reducible repeat (first | apply Kd.N_alloc | apply Kd.N_drewN | apply Kd.N_drew)); exact HO_16.out⟩, ⟨by (with_reducible repeat (first | apply Kd.V_alloc | apply Kd.V_drewN | apply Kd.V_drew)); exact HO_307000.out⟩, ⟨by (with_reducible repeat (first | apply Kd.V_alloc | apply Kd.V_drewN | apply Kd.V_drew)); exact HO_307001.out⟩, ⟨bk_ BK306.out⟩, ⟨by repeat (first | (with_reducible exact HR311_0.out) | (with_reducible refine Kd.C_alloc ?_ _) | (with_reducible refine Kd.C_drewN ?_ _) | (with_reducible refine Kd.C_drew ?_) | exact HR311_0.out)⟩, ⟨hb_⟩⟩
            case round =>
             clear H'
             try clear c1
             try clear p2
             try clear c3
             try clear p3
             try clear q3
             try clear hx3
             try clear c5
             try clear p6
             try clear c11
             try clear c11b0
             try clear c12
             try clear c12b0
             try clear c13
             try clear c13b0
             try clear c14
             try clear c14b0
             try clear c14b1
             try clear c14b2
             try clear c14b9
             try clear c15
             try clear c15b0
             try clear c15b1
             try clear c16
             try clear c16b0
             try clear c16b1
             try clear c17
             try clear c17b0
             try clear c17b1
             try clear c17b2
             try clear c17b9
             try clear hcz5_0
             try clear hcz5_1
             try clear hcz7_0
             try clear hcz7_1
             try clear hfz5_0
             try clear hfz5_1
             try clear hfz7_0
             try clear hfz7_1
             try clear hx311_0
             try clear p2
             try clear p311
             try clear q311
             obtain ⟨x4_2, x38_2, rfl, rfl, HA, HK2, HO_16, HO_307000, HO_307001, BK306, HR311_0, HB⟩ := hrel
             cases gk with
             | zero => exact absurd HA.out (by simp [spec_WriteWish.l1])
             | succ k2 =>
              have H := HA.out
              clear HA
              simp only [spec_WriteWish.l1] at H
              by_cases c18 : x38_2 < ((rd_L4 y308 x18_1).length : Int)
              ·rw [if_pos c18] at H
               have c18b0 : decide (x38_2 < ((rd_L4 y308 x18_1).length : Int)) = true := decide_eq_true c18
               clear c18
               by_cases c19 : 0 ≤ x38_2
               ·rw [if_pos c19] at H
                have c19b0 : decide (0 ≤ x38_2) = true := decide_eq_true c19
                clear c19
                by_cases c20 : x38_2 < ((rd_L4 y308 x18_1).length : Int)
                ·rw [if_pos c20] at H
                 have c20b0 : decide (x38_2 < ((rd_L4 y308 x18_1).length : Int)) = true := decide_eq_true c20
                 clear c20
                 by_cases c21 : (rdOf ByteArray.empty (rd_L4 y308 x18_1) x38_2).toList = ([114, 101, 97, 99, 104] : List UInt8)
                 ·rw [if_pos c21] at H
                  have c21b0 : ((rdOf ByteArray.empty (rd_L4 y308 x18_1) x38_2).toList == ([114, 101, 97, 99, 104] : List UInt8)) = true := beq_iff_eq.mpr c21
                  have c21b1 : ((rdOf ByteArray.empty (rd_L4 y308 x18_1) x38_2).toList != ([114, 101, 97, 99, 104] : List UInt8)) = false := bne_eq_false_iff_eq.mpr c21
                  clear c21
                  simp only [Option.some.injEq, Prod.mk.injEq] at H
                  obtain ⟨rfl, rfl⟩ := H
                  have p312 : 0 ≤ (x38_2 : Int) := of_decide_eq_true as_
                  have q312 : x38_2 < ((rd_L4 y308 x18_1).length : Int) := of_decide_eq_true as_
                  obtain ⟨ad312, e312, hx312_0⟩ := Kd.at_string HR311_0.out x38_2 p312 q312
                  cases e312
                  try replace hx312_0 := hc_ HB hx312_0
                  replace p312 := eq_true p312
                  replace q312 := eq_true q312
                  go_wp2
                  go_ret2
                  exact ⟨er_, hb_⟩
                 ·rw [if_neg c21] at H
                  have c21b0 : ((rdOf ByteArray.empty (rd_L4 y308 x18_1) x38_2).toList == ([114, 101, 97, 99, 104] : List UInt8)) = false := beq_eq_false_iff_ne.mpr c21
                  have c21b1 : ((rdOf ByteArray.empty (rd_L4 y308 x18_1) x38_2).toList != ([114, 101, 97, 99, 104] : List UInt8)) = true := bne_iff_ne.mpr c21
                  by_cases c22 : (rdOf ByteArray.empty (rd_L4 y308 x18_1) x38_2).toList = ([97, 118, 111, 105, 100] : List UInt8)
                  ·rw [if_pos c22] at H
                   have c22b0 : ((rdOf ByteArray.empty (rd_L4 y308 x18_1) x38_2).toList == ([97, 118, 111, 105, 100] : List UInt8)) = true := beq_iff_eq.mpr c22
                   have c22b1 : ((rdOf ByteArray.empty (rd_L4 y308 x18_1) x38_2).toList != ([97, 118, 111, 105, 100] : List UInt8)) = false := bne_eq_false_iff_eq.mpr c22
                   clear c22
                   simp only [Option.some.injEq, Prod.mk.injEq] at H
                   obtain ⟨rfl, rfl⟩ := H
                   have p312 : 0 ≤ (x38_2 : Int) := of_decide_eq_true as_
                   have q312 : x38_2 < ((rd_L4 y308 x18_1).length : Int) := of_decide_eq_true as_
                   obtain ⟨ad312, e312, hx312_0⟩ := Kd.at_string HR311_0.out x38_2 p312 q312
                   cases e312
                   try replace hx312_0 := hc_ HB hx312_0
                   replace p312 := eq_true p312
                   replace q312 := eq_true q312
                   go_wp2
                   go_ret2
                   exact ⟨er_, hb_⟩
                  ·rw [if_neg c22] at H
                   have c22b0 : ((rdOf ByteArray.empty (rd_L4 y308 x18_1) x38_2).toList == ([97, 118, 111, 105, 100] : List UInt8)) = false := beq_eq_false_iff_ne.mpr c22
                   have c22b1 : ((rdOf ByteArray.empty (rd_L4 y308 x18_1) x38_2).toList != ([97, 118, 111, 105, 100] : List UInt8)) = true := bne_iff_ne.mpr c22
                   by_cases c23 : 1 + (rdOf ByteArray.empty (rd_L4 y308 x18_1) x38_2).size ≤ 9223372036854775807
                   ·rw [if_pos c23] at H
                    have c23b0 := eq_true c23
                    have c23b1 : decide (1 + (rdOf ByteArray.empty (rd_L4 y308 x18_1) x38_2).size ≤ 9223372036854775807) = true := decide_eq_true c23
                    try have c23b2 : (9223372036854775807 < 1 + (rdOf ByteArray.empty (rd_L4 y308 x18_1) x38_2).size) = False := eq_false (Nat.not_lt.2 c23)
                    by_cases c24 : x4_2.size + ((⟨#[32]⟩ : ByteArray) ++ (rdOf ByteArray.empty (rd_L4 y308 x18_1) x38_2)).size ≤ 9223372036854775807
                    ·rw [if_pos c24] at H
                     have c24b0 := eq_true c24
                     have c24b1 : decide (x4_2.size + ((⟨#[32]⟩ : ByteArray) ++ (rdOf ByteArray.empty (rd_L4 y308 x18_1) x38_2)).size ≤ 9223372036854775807) = true := decide_eq_true c24
                     try have c24b2 : (9223372036854775807 < x4_2.size + ((⟨#[32]⟩ : ByteArray) ++ (rdOf ByteArray.empty (rd_L4 y308 x18_1) x38_2)).size) = False := eq_false (Nat.not_lt.2 c24)
                     have c24b9 : (9223372036854775807 < x4_2.size + (1 + (rdOf ByteArray.empty (rd_L4 y308 x18_1) x38_2).size)) = False := eq_false (Nat.not_lt.2 (by have z_ := c24; rw [ByteArray.size_append] at z_; exact z_))
                     have H' := Aside0.mk H
                     clear H
                     have p312 : 0 ≤ (x38_2 : Int) := of_decide_eq_true as_
                     have q312 : x38_2 < ((rd_L4 y308 x18_1).length : Int) := of_decide_eq_true as_
                     obtain ⟨ad312, e312, hx312_0⟩ := Kd.at_string HR311_0.out x38_2 p312 q312
                     cases e312
                     try replace hx312_0 := hc_ HB hx312_0
                     replace p312 := eq_true p312
                     replace q312 := eq_true q312
                     go_wp2
                     go_roundg k2
                     case measure => have := HK1.out; have := HK2.out; omega
                     case rel => exact ⟨(x4_2 ++ ((⟨#[32]⟩ : ByteArray) ++ (rdOf ByteArray.empty (rd_L4 y308 x18_1) x38_2))), (wrap64 (x38_2 + 1)), es_, es_, H', ⟨by have := HK1.out; have := HK2.out; omega⟩, ⟨by (with_reducible repeat (first | apply Kd.N_alloc | apply Kd.N_drewN | apply Kd.N_drew)); exact HO_16.out⟩, ⟨by (with_reducible repeat (first | apply Kd.V_alloc | apply Kd.V_drewN | apply Kd.V_drew)); exact HO_307000.out⟩, ⟨by (with_reducible repeat (first | apply Kd.V_alloc | apply Kd.V_drewN | apply Kd.V_drew)); exact HO_307001.out⟩, ⟨bk_ BK306.out⟩, ⟨by repeat (first | (with_reducible exact HR311_0.out) | (with_reducible refine Kd.C_alloc ?_ _) | (with_reducible refine Kd.C_drewN ?_ _) | (with_reducible refine Kd.C_drew ?_) | exact HR311_0.out)⟩, ⟨hb_⟩⟩
                    ·rw [if_neg c24] at H
                     exact absurd H (by simp)
                   ·rw [if_neg c23] at H
                    exact absurd H (by simp)
                ·rw [if_neg c20] at H
                 exact absurd H (by simp)
               ·rw [if_neg c19] at H
                exact absurd H (by simp)
              ·rw [if_neg c18] at H
               have c18b0 : decide (x38_2 < ((rd_L4 y308 x18_1).length : Int)) = false := decide_eq_false c18
               clear c18
               have H' := Aside0.mk H
               clear H
               go_wp2
               go_roundg k2
               case measure => have := HK1.out; have := HK2.out; omega
               case rel => exact ⟨(x4_2), (wrap64 (x18_1 + 1)), es_, es_, H', ⟨by have := HK1.out; have := HK2.out; omega⟩, ⟨by (with_reducible repeat (first | apply Kd.N_alloc | apply Kd.N_drewN | apply Kd.N_drew)); exact HO_16.out⟩, ⟨by (with_reducible repeat (first | apply Kd.V_alloc | apply Kd.V_drewN | apply Kd.V_drew)); exact HO_307000.out⟩, ⟨by (with_reducible repeat (first | apply Kd.V_alloc | apply Kd.V_drewN | apply Kd.V_drew)); exact HO_307001.out⟩, ⟨bk_ BK306.out⟩, ⟨hb_⟩⟩
           ·rw [if_neg c17] at H
            exact absurd H (by simp)
          ·rw [if_neg c16] at H
           have c16b0 : (x18_1 == 0) = false := beq_eq_false_iff_ne.mpr c16
           have c16b1 : (x18_1 != 0) = true := bne_iff_ne.mpr c16
           by_cases c25 : x4_1.size + 5 ≤ 9223372036854775807
           ·rw [if_pos c25] at H
            have c25b0 := eq_true c25
            have c25b1 : decide (x4_1.size + 5 ≤ 9223372036854775807) = true := decide_eq_true c25
            try have c25b2 : (9223372036854775807 < x4_1.size + 5) = False := eq_false (Nat.not_lt.2 c25)
            have H' := Aside0.mk H
            clear H
            have p311 : 0 ≤ (x18_1 : Int) := of_decide_eq_true as_
            have q311 : x18_1 < (y308.length : Int) := of_decide_eq_true as_
            obtain ⟨ad311, A311_0, c311_0, e311, hx311_0, hl311_0, hi311_0⟩ := at_L4 (Kd.N_reads' HO_16.out).2.2 x18_1 p311 q311
            cases e311
            obtain ⟨ce311, hce311, hMe311, hcc311⟩ := Kd.N_get HO_16.out [] x18_1 p311 (by first | exact q311 | exact of_decide_eq_true as_ | (have e_ := (Kd.N_reads' HO_16.out).1; omega))
            obtain ⟨ua311_0, uc311_0, rfl, ul311_0, ge311_0⟩ := Kd.FK_slice_open hMe311
            have hv311_0 := hcc311 0 _ rfl
            rw [Nat.add_zero, show ((Kd.slice 9 Kd.string)).sz = 1 from rfl, Nat.mul_one] at hv311_0
            replace hv311_0 := Option.some.inj (hv311_0.symm.trans hx311_0)
            injection hv311_0 with hva_ hvn_ hvc_
            rw [hva_] at ge311_0
            rw [hvc_] at ul311_0
            have HL311_0 := Aside0.mk (show Kd.V Kd.string 9 _ w.heap.size _ _ (rd_L4 y308 x18_1) from Kd.V_mk ul311_0 ge311_0)
            clear hva_ hvn_ hvc_ ge311_0 ul311_0
            clear hcc311 hce311
            have HR311_0 := Aside0.mk hi311_0
            have HC311_0 := Aside0.mk hl311_0
            clear hi311_0 hl311_0
            replace p311 := eq_true p311
            replace q311 := eq_true q311
            go_wp2
            go_loopg [4, 38] k1 (fun kq v4 v38 w' => ∃ (x4_2 : ByteArray) (x38_2 : Int), v4 = .string x4_2 ∧ v38 = .int .i64 x38_2 ∧ Aside0 (spec_WriteWish.l1 kq x4_2 y308 (y308.length : Int) x18_1 (rd_L4 y308 x18_1) ((rd_L4 y308 x18_1).length : Int) x38_2 = some (r1, r2)) ∧ Aside0 (kq ≤ k1) ∧ Aside0 (Kd.N (Kd.slice 9 Kd.string) 22 w' w.heap.size (fun k_ => ((P0_0_ k_ ∨ P0_1_ k_) ∨ w.heap.size ≤ k_) ∧ k_ ≠ gb306) (.slice (some ad311) y308.length co10) y308) ∧ Aside0 (Kd.V Kd.string 9 w' w.heap.size (fun k_ => ((P0_0_ k_ ∨ P0_1_ k_) ∨ w.heap.size ≤ k_) ∧ some k_ ≠ ((.slice (some ad311) y308.length co10) : Value).ownBlock ∧ k_ ≠ gb306) (.slice A0_0 l0_0.length c0_0) l0_0) ∧ Aside0 (Kd.V Kd.string 9 w' w.heap.size (fun k_ => ((P0_0_ k_ ∨ P0_1_ k_) ∨ w.heap.size ≤ k_) ∧ some k_ ≠ ((.slice (some ad311) y308.length co10) : Value).ownBlock ∧ k_ ≠ gb306) (.slice A0_1 l0_1.length c0_1) l0_1) ∧ Aside0 (w'.heap[gb306]? = some (.cells #[(.slice A0_0 l0_0.length c0_0), (.slice A0_1 l0_1.length c0_1)] 36 (0, 0))) ∧ Aside0 (Kd.C Kd.string w' A311_0 (rd_L4 y308 x18_1).length (rd_L4 y308 x18_1)) ∧ Aside0 (Below w.heap.size w w'))
            case atStart => exact ⟨(x4_1 ++ (⟨#[97, 118, 111, 105, 100]⟩ : ByteArray)), (0), es_, es_, H', ⟨Nat.le_refl _⟩, ⟨by (with_reducible repeat (first | apply Kd.N_alloc | apply Kd.N_drewN | apply Kd.N_drew)); exact HO_16.out⟩, ⟨by (with_reducible repeat (first | apply Kd.V_alloc | apply Kd.V_drewN | apply Kd.V_drew)); exact HO_307000.out⟩, ⟨by (with_reducible repeat (first | apply Kd.V_alloc | apply Kd.V_drewN | apply Kd.V_drew)); exact HO_307001.out⟩, ⟨bk_ BK306.out⟩, ⟨by repeat (first | (with_reducible exact HR311_0.out) | (with_reducible refine Kd.C_alloc ?_ _) | (with_reducible refine Kd.C_drewN ?_ _) | (with_reducible refine Kd.C_drew ?_) | exact HR311_0.out)⟩, ⟨hb_⟩⟩
            case round =>
             clear H'
             try clear c1
             try clear c2
             try clear p2
             try clear c3
             try clear p3
             try clear q3
             try clear hx3
             try clear c5
             try clear p6
             try clear c11
             try clear c11b0
             try clear c12
             try clear c12b0
             try clear c13
             try clear c13b0
             try clear c14
             try clear c14b0
             try clear c14b1
             try clear c14b2
             try clear c14b9
             try clear c15
             try clear c15b0
             try clear c15b1
             try clear c16
             try clear c16b0
             try clear c16b1
             try clear c17
             try clear c17b0
             try clear c17b1
             try clear c17b2
             try clear c17b9
             try clear c18
             try clear c18b0
             try clear c19
             try clear c19b0
             try clear c20
             try clear c20b0
             try clear c21
             try clear c21b0
             try clear c21b1
             try clear c22
             try clear c22b0
             try clear c22b1
             try clear c23
             try clear c23b0
             try clear c23b1
             try clear c23b2
             try clear c23b9
             try clear c24
             try clear c24b0
             try clear c24b1
             try clear c24b2
             try clear c24b9
             try clear c25
             try clear c25b0
             try clear c25b1
             try clear c25b2
             try clear c25b9
             try clear hcz5_0
             try clear hcz5_1
             try clear hcz7_0
             try clear hcz7_1
             try clear hfz5_0
             try clear hfz5_1
             try clear hfz7_0
             try clear hfz7_1
             try clear hx311_0
             try clear hx312_0
             try clear p2
             try clear p3
             try clear p311
             try clear p312
             try clear p6
             try clear q3
             try clear q311
             try clear q312
             obtain ⟨x4_2, x38_2, rfl, rfl, HA, HK2, HO_16, HO_307000, HO_307001, BK306, HR311_0, HB⟩ := hrel
             cases gk with
             | zero => exact absurd HA.out (by simp [spec_WriteWish.l1])
             | succ k2 =>
              have H := HA.out
              clear HA
              simp only [spec_WriteWish.l1] at H
              by_cases c26 : x38_2 < ((rd_L4 y308 x18_1).length : Int)
              ·rw [if_pos c26] at H
               have c26b0 : decide (x38_2 < ((rd_L4 y308 x18_1).length : Int)) = true := decide_eq_true c26
               clear c26
               by_cases c27 : 0 ≤ x38_2
               ·rw [if_pos c27] at H
                have c27b0 : decide (0 ≤ x38_2) = true := decide_eq_true c27
                clear c27
                by_cases c28 : x38_2 < ((rd_L4 y308 x18_1).length : Int)
                ·rw [if_pos c28] at H
                 have c28b0 : decide (x38_2 < ((rd_L4 y308 x18_1).length : Int)) = true := decide_eq_true c28
                 clear c28
                 by_cases c29 : (rdOf ByteArray.empty (rd_L4 y308 x18_1) x38_2).toList = ([114, 101, 97, 99, 104] : List UInt8)
                 ·rw [if_pos c29] at H
                  have c29b0 : ((rdOf ByteArray.empty (rd_L4 y308 x18_1) x38_2).toList == ([114, 101, 97, 99, 104] : List UInt8)) = true := beq_iff_eq.mpr c29
                  have c29b1 : ((rdOf ByteArray.empty (rd_L4 y308 x18_1) x38_2).toList != ([114, 101, 97, 99, 104] : List UInt8)) = false := bne_eq_false_iff_eq.mpr c29
                  clear c29
                  simp only [Option.some.injEq, Prod.mk.injEq] at H
                  obtain ⟨rfl, rfl⟩ := H
                  have p312 : 0 ≤ (x38_2 : Int) := of_decide_eq_true as_
                  have q312 : x38_2 < ((rd_L4 y308 x18_1).length : Int) := of_decide_eq_true as_
                  obtain ⟨ad312, e312, hx312_0⟩ := Kd.at_string HR311_0.out x38_2 p312 q312
                  cases e312
                  try replace hx312_0 := hc_ HB hx312_0
                  replace p312 := eq_true p312
                  replace q312 := eq_true q312
                  go_wp2
                  go_ret2
                  exact ⟨er_, hb_⟩
                 ·rw [if_neg c29] at H
                  have c29b0 : ((rdOf ByteArray.empty (rd_L4 y308 x18_1) x38_2).toList == ([114, 101, 97, 99, 104] : List UInt8)) = false := beq_eq_false_iff_ne.mpr c29
                  have c29b1 : ((rdOf ByteArray.empty (rd_L4 y308 x18_1) x38_2).toList != ([114, 101, 97, 99, 104] : List UInt8)) = true := bne_iff_ne.mpr c29
                  by_cases c30 : (rdOf ByteArray.empty (rd_L4 y308 x18_1) x38_2).toList = ([97, 118, 111, 105, 100] : List UInt8)
                  ·rw [if_pos c30] at H
                   have c30b0 : ((rdOf ByteArray.empty (rd_L4 y308 x18_1) x38_2).toList == ([97, 118, 111, 105, 100] : List UInt8)) = true := beq_iff_eq.mpr c30
                   have c30b1 : ((rdOf ByteArray.empty (rd_L4 y308 x18_1) x38_2).toList != ([97, 118, 111, 105, 100] : List UInt8)) = false := bne_eq_false_iff_eq.mpr c30
                   clear c30
                   simp only [Option.some.injEq, Prod.mk.injEq] at H
                   obtain ⟨rfl, rfl⟩ := H
                   have p312 : 0 ≤ (x38_2 : Int) := of_decide_eq_true as_
                   have q312 : x38_2 < ((rd_L4 y308 x18_1).length : Int) := of_decide_eq_true as_
                   obtain ⟨ad312, e312, hx312_0⟩ := Kd.at_string HR311_0.out x38_2 p312 q312
                   cases e312
                   try replace hx312_0 := hc_ HB hx312_0
                   replace p312 := eq_true p312
                   replace q312 := eq_true q312
                   go_wp2
                   go_ret2
                   exact ⟨er_, hb_⟩
                  ·rw [if_neg c30] at H
                   have c30b0 : ((rdOf ByteArray.empty (rd_L4 y308 x18_1) x38_2).toList == ([97, 118, 111, 105, 100] : List UInt8)) = false := beq_eq_false_iff_ne.mpr c30
                   have c30b1 : ((rdOf ByteArray.empty (rd_L4 y308 x18_1) x38_2).toList != ([97, 118, 111, 105, 100] : List UInt8)) = true := bne_iff_ne.mpr c30
                   by_cases c31 : 1 + (rdOf ByteArray.empty (rd_L4 y308 x18_1) x38_2).size ≤ 9223372036854775807
                   ·rw [if_pos c31] at H
                    have c31b0 := eq_true c31
                    have c31b1 : decide (1 + (rdOf ByteArray.empty (rd_L4 y308 x18_1) x38_2).size ≤ 9223372036854775807) = true := decide_eq_true c31
                    try have c31b2 : (9223372036854775807 < 1 + (rdOf ByteArray.empty (rd_L4 y308 x18_1) x38_2).size) = False := eq_false (Nat.not_lt.2 c31)
                    by_cases c32 : x4_2.size + ((⟨#[32]⟩ : ByteArray) ++ (rdOf ByteArray.empty (rd_L4 y308 x18_1) x38_2)).size ≤ 9223372036854775807
                    ·rw [if_pos c32] at H
                     have c32b0 := eq_true c32
                     have c32b1 : decide (x4_2.size + ((⟨#[32]⟩ : ByteArray) ++ (rdOf ByteArray.empty (rd_L4 y308 x18_1) x38_2)).size ≤ 9223372036854775807) = true := decide_eq_true c32
                     try have c32b2 : (9223372036854775807 < x4_2.size + ((⟨#[32]⟩ : ByteArray) ++ (rdOf ByteArray.empty (rd_L4 y308 x18_1) x38_2)).size) = False := eq_false (Nat.not_lt.2 c32)
                     have c32b9 : (9223372036854775807 < x4_2.size + (1 + (rdOf ByteArray.empty (rd_L4 y308 x18_1) x38_2).size)) = False := eq_false (Nat.not_lt.2 (by have z_ := c32; rw [ByteArray.size_append] at z_; exact z_))
                     have H' := Aside0.mk H
                     clear H
                     have p312 : 0 ≤ (x38_2 : Int) := of_decide_eq_true as_
                     have q312 : x38_2 < ((rd_L4 y308 x18_1).length : Int) := of_decide_eq_true as_
                     obtain ⟨ad312, e312, hx312_0⟩ := Kd.at_string HR311_0.out x38_2 p312 q312
                     cases e312
                     try replace hx312_0 := hc_ HB hx312_0
                     replace p312 := eq_true p312
                     replace q312 := eq_true q312
                     go_wp2
                     go_roundg k2
                     case measure => have := HK1.out; have := HK2.out; omega
                     case rel => exact ⟨(x4_2 ++ ((⟨#[32]⟩ : ByteArray) ++ (rdOf ByteArray.empty (rd_L4 y308 x18_1) x38_2))), (wrap64 (x38_2 + 1)), es_, es_, H', ⟨by have := HK1.out; have := HK2.out; omega⟩, ⟨by (with_reducible repeat (first | apply Kd.N_alloc | apply Kd.N_drewN | apply Kd.N_drew)); exact HO_16.out⟩, ⟨by (with_reducible repeat (first | apply Kd.V_alloc | apply Kd.V_drewN | apply Kd.V_drew)); exact HO_307000.out⟩, ⟨by (with_reducible repeat (first | apply Kd.V_alloc | apply Kd.V_drewN | apply Kd.V_drew)); exact HO_307001.out⟩, ⟨bk_ BK306.out⟩, ⟨by repeat (first | (with_reducible exact HR311_0.out) | (with_reducible refine Kd.C_alloc ?_ _) | (with_reducible refine Kd.C_drewN ?_ _) | (with_reducible refine Kd.C_drew ?_) | exact HR311_0.out)⟩, ⟨hb_⟩⟩
                    ·rw [if_neg c32] at H
                     exact absurd H (by simp)
                   ·rw [if_neg c31] at H
                    exact absurd H (by simp)
                ·rw [if_neg c28] at H
                 exact absurd H (by simp)
               ·rw [if_neg c27] at H
                exact absurd H (by simp)
              ·rw [if_neg c26] at H
               have c26b0 : decide (x38_2 < ((rd_L4 y308 x18_1).length : Int)) = false := decide_eq_false c26
               clear c26
               have H' := Aside0.mk H
               clear H
               go_wp2
               go_roundg k2
               case measure => have := HK1.out; have := HK2.out; omega
               case rel => exact ⟨(x4_2), (wrap64 (x18_1 + 1)), es_, es_, H', ⟨by have := HK1.out; have := HK2.out; omega⟩, ⟨by (with_reducible repeat (first | apply Kd.N_alloc | apply Kd.N_drewN | apply Kd.N_drew)); exact HO_16.out⟩, ⟨by (with_reducible repeat (first | apply Kd.V_alloc | apply Kd.V_drewN | apply Kd.V_drew)); exact HO_307000.out⟩, ⟨by (with_reducible repeat (first | apply Kd.V_alloc | apply Kd.V_drewN | apply Kd.V_drew)); exact HO_307001.out⟩, ⟨bk_ BK306.out⟩, ⟨hb_⟩⟩
           ·rw [if_neg c25] at H
            exact absurd H (by simp)
         ·rw [if_neg c15] at H
          have c15b0 : (x4_1.toList == ([] : List UInt8)) = false := beq_eq_false_iff_ne.mpr c15
          have c15b1 : (x4_1.toList != ([] : List UInt8)) = true := bne_iff_ne.mpr c15
          by_cases c33 : x4_1.size + 1 ≤ 9223372036854775807
          ·rw [if_pos c33] at H
           have c33b0 := eq_true c33
           have c33b1 : decide (x4_1.size + 1 ≤ 9223372036854775807) = true := decide_eq_true c33
           try have c33b2 : (9223372036854775807 < x4_1.size + 1) = False := eq_false (Nat.not_lt.2 c33)
           by_cases c34 : x18_1 = 0
           ·rw [if_pos c34] at H
            have c34b0 : (x18_1 == 0) = true := beq_iff_eq.mpr c34
            have c34b1 : (x18_1 != 0) = false := bne_eq_false_iff_eq.mpr c34
            clear c34
            by_cases c35 : (x4_1 ++ (⟨#[32]⟩ : ByteArray)).size + 5 ≤ 9223372036854775807
            ·rw [if_pos c35] at H
             have c35b0 := eq_true c35
             have c35b1 : decide ((x4_1 ++ (⟨#[32]⟩ : ByteArray)).size + 5 ≤ 9223372036854775807) = true := decide_eq_true c35
             try have c35b2 : (9223372036854775807 < (x4_1 ++ (⟨#[32]⟩ : ByteArray)).size + 5) = False := eq_false (Nat.not_lt.2 c35)
             have c35b9 : (9223372036854775807 < x4_1.size + 6) = False := eq_false (Nat.not_lt.2 (by have z_ := c35; rw [ByteArray.size_append] at z_; exact z_))
             have c35b8 : (9223372036854775807 < x4_1.size + 1 + 5) = False := eq_false (Nat.not_lt.2 (by have z_ := c35; rw [ByteArray.size_append] at z_; exact z_))
             have H' := Aside0.mk H
             clear H
             have p311 : 0 ≤ (x18_1 : Int) := of_decide_eq_true as_
             have q311 : x18_1 < (y308.length : Int) := of_decide_eq_true as_
             obtain ⟨ad311, A311_0, c311_0, e311, hx311_0, hl311_0, hi311_0⟩ := at_L4 (Kd.N_reads' HO_16.out).2.2 x18_1 p311 q311
             cases e311
             obtain ⟨ce311, hce311, hMe311, hcc311⟩ := Kd.N_get HO_16.out [] x18_1 p311 (by first | exact q311 | exact of_decide_eq_true as_ | (have e_ := (Kd.N_reads' HO_16.out).1; omega))
             obtain ⟨ua311_0, uc311_0, rfl, ul311_0, ge311_0⟩ := Kd.FK_slice_open hMe311
             have hv311_0 := hcc311 0 _ rfl
             rw [Nat.add_zero, show ((Kd.slice 9 Kd.string)).sz = 1 from rfl, Nat.mul_one] at hv311_0
             replace hv311_0 := Option.some.inj (hv311_0.symm.trans hx311_0)
             injection hv311_0 with hva_ hvn_ hvc_
             rw [hva_] at ge311_0
             rw [hvc_] at ul311_0
             have HL311_0 := Aside0.mk (show Kd.V Kd.string 9 _ w.heap.size _ _ (rd_L4 y308 x18_1) from Kd.V_mk ul311_0 ge311_0)
             clear hva_ hvn_ hvc_ ge311_0 ul311_0
             clear hcc311 hce311
             have HR311_0 := Aside0.mk hi311_0
             have HC311_0 := Aside0.mk hl311_0
             clear hi311_0 hl311_0
             replace p311 := eq_true p311
             replace q311 := eq_true q311
             go_wp2
             go_loopg [4, 38] k1 (fun kq v4 v38 w' => ∃ (x4_2 : ByteArray) (x38_2 : Int), v4 = .string x4_2 ∧ v38 = .int .i64 x38_2 ∧ Aside0 (spec_WriteWish.l1 kq x4_2 y308 (y308.length : Int) x18_1 (rd_L4 y308 x18_1) ((rd_L4 y308 x18_1).length : Int) x38_2 = some (r1, r2)) ∧ Aside0 (kq ≤ k1) ∧ Aside0 (Kd.N (Kd.slice 9 Kd.string) 22 w' w.heap.size (fun k_ => ((P0_0_ k_ ∨ P0_1_ k_) ∨ w.heap.size ≤ k_) ∧ k_ ≠ gb306) (.slice (some ad311) y308.length co10) y308) ∧ Aside0 (Kd.V Kd.string 9 w' w.heap.size (fun k_ => ((P0_0_ k_ ∨ P0_1_ k_) ∨ w.heap.size ≤ k_) ∧ some k_ ≠ ((.slice (some ad311) y308.length co10) : Value).ownBlock ∧ k_ ≠ gb306) (.slice A0_0 l0_0.length c0_0) l0_0) ∧ Aside0 (Kd.V Kd.string 9 w' w.heap.size (fun k_ => ((P0_0_ k_ ∨ P0_1_ k_) ∨ w.heap.size ≤ k_) ∧ some k_ ≠ ((.slice (some ad311) y308.length co10) : Value).ownBlock ∧ k_ ≠ gb306) (.slice A0_1 l0_1.length c0_1) l0_1) ∧ Aside0 (w'.heap[gb306]? = some (.cells #[(.slice A0_0 l0_0.length c0_0), (.slice A0_1 l0_1.length c0_1)] 36 (0, 0))) ∧ Aside0 (Kd.C Kd.string w' A311_0 (rd_L4 y308 x18_1).length (rd_L4 y308 x18_1)) ∧ Aside0 (Below w.heap.size w w'))
             case atStart => exact ⟨((x4_1 ++ (⟨#[32]⟩ : ByteArray)) ++ (⟨#[114, 101, 97, 99, 104]⟩ : ByteArray)), (0), es_, es_, H', ⟨Nat.le_refl _⟩, ⟨by (with_reducible repeat (first | apply Kd.N_alloc | apply Kd.N_drewN | apply Kd.N_drew)); exact HO_16.out⟩, ⟨by (with_reducible repeat (first | apply Kd.V_alloc | apply Kd.V_drewN | apply Kd.V_drew)); exact HO_307000.out⟩, ⟨by (with_reducible repeat (first | apply Kd.V_alloc | apply Kd.V_drewN | apply Kd.V_drew)); exact HO_307001.out⟩, ⟨bk_ BK306.out⟩, ⟨by repeat (first | (with_reducible exact HR311_0.out) | (with_reducible refine Kd.C_alloc ?_ _) | (with_reducible refine Kd.C_drewN ?_ _) | (with_reducible refine Kd.C_drew ?_) | exact HR311_0.out)⟩, ⟨hb_⟩⟩
             case round =>
              clear H'
              try clear c1
              try clear c2
              try clear p2
              try clear c3
              try clear p3
              try clear q3
              try clear hx3
              try clear c5
              try clear p6
              try clear c11
              try clear c11b0
              try clear c12
              try clear c12b0
              try clear c13
              try clear c13b0
              try clear c14
              try clear c14b0
              try clear c14b1
              try clear c14b2
              try clear c14b9
              try clear c15
              try clear c15b0
              try clear c15b1
              try clear c16
              try clear c16b0
              try clear c16b1
              try clear c17
              try clear c17b0
              try clear c17b1
              try clear c17b2
              try clear c17b9
              try clear c18
              try clear c18b0
              try clear c19
              try clear c19b0
              try clear c20
              try clear c20b0
              try clear c21
              try clear c21b0
              try clear c21b1
              try clear c22
              try clear c22b0
              try clear c22b1
              try clear c23
              try clear c23b0
              try clear c23b1
              try clear c23b2
              try clear c23b9
              try clear c24
              try clear c24b0
              try clear c24b1
              try clear c24b2
              try clear c24b9
              try clear c25
              try clear c25b0
              try clear c25b1
              try clear c25b2
              try clear c25b9
              try clear c26
              try clear c26b0
              try clear c27
              try clear c27b0
              try clear c28
              try clear c28b0
              try clear c29
              try clear c29b0
              try clear c29b1
              try clear c30
              try clear c30b0
              try clear c30b1
              try clear c31
              try clear c31b0
              try clear c31b1
              try clear c31b2
              try clear c31b9
              try clear p31
              try clear q31
              try clear hx31
              try clear c32
              try clear c32b0
              try clear c32b1
              try clear c32b2
              try clear c32b9
              try clear c33
              try clear c33b0
              try clear c33b1
              try clear c33b2
              try clear c33b9
              try clear c34
              try clear c34b0
              try clear c34b1
              try clear c35
              try clear c35b0
              try clear c35b1
              try clear c35b2
              try clear c35b9
              try clear hcz5_0
              try clear hcz5_1
              try clear hcz7_0
              try clear hcz7_1
              try clear hfz5_0
              try clear hfz5_1
              try clear hfz7_0
              try clear hfz7_1
              try clear hx311_0
              try clear hx312_0
              try clear p2
              try clear p3
              try clear p311
              try clear p312
              try clear p6
              try clear q3
              try clear q311
              try clear q312
              obtain ⟨x4_2, x38_2, rfl, rfl, HA, HK2, HO_16, HO_307000, HO_307001, BK306, HR311_0, HB⟩ := hrel
              cases gk with
              | zero => exact absurd HA.out (by simp [spec_WriteWish.l1])
              | succ k2 =>
               have H := HA.out
               clear HA
               simp only [spec_WriteWish.l1] at H
               by_cases c36 : x38_2 < ((rd_L4 y308 x18_1).length : Int)
               ·rw [if_pos c36] at H
                have c36b0 : decide (x38_2 < ((rd_L4 y308 x18_1).length : Int)) = true := decide_eq_true c36
                clear c36
                by_cases c37 : 0 ≤ x38_2
                ·rw [if_pos c37] at H
                 have c37b0 : decide (0 ≤ x38_2) = true := decide_eq_true c37
                 clear c37
                 by_cases c38 : x38_2 < ((rd_L4 y308 x18_1).length : Int)
                 ·rw [if_pos c38] at H
                  have c38b0 : decide (x38_2 < ((rd_L4 y308 x18_1).length : Int)) = true := decide_eq_true c38
                  clear c38
                  by_cases c39 : (rdOf ByteArray.empty (rd_L4 y308 x18_1) x38_2).toList = ([114, 101, 97, 99, 104] : List UInt8)
                  ·rw [if_pos c39] at H
                   have c39b0 : ((rdOf ByteArray.empty (rd_L4 y308 x18_1) x38_2).toList == ([114, 101, 97, 99, 104] : List UInt8)) = true := beq_iff_eq.mpr c39
                   have c39b1 : ((rdOf ByteArray.empty (rd_L4 y308 x18_1) x38_2).toList != ([114, 101, 97, 99, 104] : List UInt8)) = false := bne_eq_false_iff_eq.mpr c39
                   clear c39
                   simp only [Option.some.injEq, Prod.mk.injEq] at H
                   obtain ⟨rfl, rfl⟩ := H
                   have p312 : 0 ≤ (x38_2 : Int) := of_decide_eq_true as_
                   have q312 : x38_2 < ((rd_L4 y308 x18_1).length : Int) := of_decide_eq_true as_
                   obtain ⟨ad312, e312, hx312_0⟩ := Kd.at_string HR311_0.out x38_2 p312 q312
                   cases e312
                   try replace hx312_0 := hc_ HB hx312_0
                   replace p312 := eq_true p312
                   replace q312 := eq_true q312
                   go_wp2
                   go_ret2
                   exact ⟨er_, hb_⟩
                  ·rw [if_neg c39] at H
                   have c39b0 : ((rdOf ByteArray.empty (rd_L4 y308 x18_1) x38_2).toList == ([114, 101, 97, 99, 104] : List UInt8)) = false := beq_eq_false_iff_ne.mpr c39
                   have c39b1 : ((rdOf ByteArray.empty (rd_L4 y308 x18_1) x38_2).toList != ([114, 101, 97, 99, 104] : List UInt8)) = true := bne_iff_ne.mpr c39
                   by_cases c40 : (rdOf ByteArray.empty (rd_L4 y308 x18_1) x38_2).toList = ([97, 118, 111, 105, 100] : List UInt8)
                   ·rw [if_pos c40] at H
                    have c40b0 : ((rdOf ByteArray.empty (rd_L4 y308 x18_1) x38_2).toList == ([97, 118, 111, 105, 100] : List UInt8)) = true := beq_iff_eq.mpr c40
                    have c40b1 : ((rdOf ByteArray.empty (rd_L4 y308 x18_1) x38_2).toList != ([97, 118, 111, 105, 100] : List UInt8)) = false := bne_eq_false_iff_eq.mpr c40
                    clear c40
                    simp only [Option.some.injEq, Prod.mk.injEq] at H
                    obtain ⟨rfl, rfl⟩ := H
                    have p312 : 0 ≤ (x38_2 : Int) := of_decide_eq_true as_
                    have q312 : x38_2 < ((rd_L4 y308 x18_1).length : Int) := of_decide_eq_true as_
                    obtain ⟨ad312, e312, hx312_0⟩ := Kd.at_string HR311_0.out x38_2 p312 q312
                    cases e312
                    try replace hx312_0 := hc_ HB hx312_0
                    replace p312 := eq_true p312
                    replace q312 := eq_true q312
                    go_wp2
                    go_ret2
                    exact ⟨er_, hb_⟩
                   ·rw [if_neg c40] at H
                    have c40b0 : ((rdOf ByteArray.empty (rd_L4 y308 x18_1) x38_2).toList == ([97, 118, 111, 105, 100] : List UInt8)) = false := beq_eq_false_iff_ne.mpr c40
                    have c40b1 : ((rdOf ByteArray.empty (rd_L4 y308 x18_1) x38_2).toList != ([97, 118, 111, 105, 100] : List UInt8)) = true := bne_iff_ne.mpr c40
                    by_cases c41 : 1 + (rdOf ByteArray.empty (rd_L4 y308 x18_1) x38_2).size ≤ 9223372036854775807
                    ·rw [if_pos c41] at H
                     have c41b0 := eq_true c41
                     have c41b1 : decide (1 + (rdOf ByteArray.empty (rd_L4 y308 x18_1) x38_2).size ≤ 9223372036854775807) = true := decide_eq_true c41
                     try have c41b2 : (9223372036854775807 < 1 + (rdOf ByteArray.empty (rd_L4 y308 x18_1) x38_2).size) = False := eq_false (Nat.not_lt.2 c41)
                     by_cases c42 : x4_2.size + ((⟨#[32]⟩ : ByteArray) ++ (rdOf ByteArray.empty (rd_L4 y308 x18_1) x38_2)).size ≤ 9223372036854775807
                     ·rw [if_pos c42] at H
                      have c42b0 := eq_true c42
                      have c42b1 : decide (x4_2.size + ((⟨#[32]⟩ : ByteArray) ++ (rdOf ByteArray.empty (rd_L4 y308 x18_1) x38_2)).size ≤ 9223372036854775807) = true := decide_eq_true c42
                      try have c42b2 : (9223372036854775807 < x4_2.size + ((⟨#[32]⟩ : ByteArray) ++ (rdOf ByteArray.empty (rd_L4 y308 x18_1) x38_2)).size) = False := eq_false (Nat.not_lt.2 c42)
                      have c42b9 : (9223372036854775807 < x4_2.size + (1 + (rdOf ByteArray.empty (rd_L4 y308 x18_1) x38_2).size)) = False := eq_false (Nat.not_lt.2 (by have z_ := c42; rw [ByteArray.size_append] at z_; exact z_))
                      have H' := Aside0.mk H
                      clear H
                      have p312 : 0 ≤ (x38_2 : Int) := of_decide_eq_true as_
                      have q312 : x38_2 < ((rd_L4 y308 x18_1).length : Int) := of_decide_eq_true as_
                      obtain ⟨ad312, e312, hx312_0⟩ := Kd.at_string HR311_0.out x38_2 p312 q312
                      cases e312
                      try replace hx312_0 := hc_ HB hx312_0
                      replace p312 := eq_true p312
                      replace q312 := eq_true q312
                      go_wp2
                      go_roundg k2
                      case measure => have := HK1.out; have := HK2.out; omega
                      case rel => exact ⟨(x4_2 ++ ((⟨#[32]⟩ : ByteArray) ++ (rdOf ByteArray.empty (rd_L4 y308 x18_1) x38_2))), (wrap64 (x38_2 + 1)), es_, es_, H', ⟨by have := HK1.out; have := HK2.out; omega⟩, ⟨by (with_reducible repeat (first | apply Kd.N_alloc | apply Kd.N_drewN | apply Kd.N_drew)); exact HO_16.out⟩, ⟨by (with_reducible repeat (first | apply Kd.V_alloc | apply Kd.V_drewN | apply Kd.V_drew)); exact HO_307000.out⟩, ⟨by (with_reducible repeat (first | apply Kd.V_alloc | apply Kd.V_drewN | apply Kd.V_drew)); exact HO_307001.out⟩, ⟨bk_ BK306.out⟩, ⟨by repeat (first | (with_reducible exact HR311_0.out) | (with_reducible refine Kd.C_alloc ?_ _) | (with_reducible refine Kd.C_drewN ?_ _) | (with_reducible refine Kd.C_drew ?_) | exact HR311_0.out)⟩, ⟨hb_⟩⟩
                     ·rw [if_neg c42] at H
                      exact absurd H (by simp)
                    ·rw [if_neg c41] at H
                     exact absurd H (by simp)
                 ·rw [if_neg c38] at H
                  exact absurd H (by simp)
                ·rw [if_neg c37] at H
                 exact absurd H (by simp)
               ·rw [if_neg c36] at H
                have c36b0 : decide (x38_2 < ((rd_L4 y308 x18_1).length : Int)) = false := decide_eq_false c36
                clear c36
                have H' := Aside0.mk H
                clear H
                go_wp2
                go_roundg k2
                case measure => have := HK1.out; have := HK2.out; omega
                case rel => exact ⟨(x4_2), (wrap64 (x18_1 + 1)), es_, es_, H', ⟨by have := HK1.out; have := HK2.out; omega⟩, ⟨by (with_reducible repeat (first | apply Kd.N_alloc | apply Kd.N_drewN | apply Kd.N_drew)); exact HO_16.out⟩, ⟨by (with_reducible repeat (first | apply Kd.V_alloc | apply Kd.V_drewN | apply Kd.V_drew)); exact HO_307000.out⟩, ⟨by (with_reducible repeat (first | apply Kd.V_alloc | apply Kd.V_drewN | apply Kd.V_drew)); exact HO_307001.out⟩, ⟨bk_ BK306.out⟩, ⟨hb_⟩⟩
            ·rw [if_neg c35] at H
             exact absurd H (by simp)
           ·rw [if_neg c34] at H
            have c34b0 : (x18_1 == 0) = false := beq_eq_false_iff_ne.mpr c34
            have c34b1 : (x18_1 != 0) = true := bne_iff_ne.mpr c34
            by_cases c43 : (x4_1 ++ (⟨#[32]⟩ : ByteArray)).size + 5 ≤ 9223372036854775807
            ·rw [if_pos c43] at H
             have c43b0 := eq_true c43
             have c43b1 : decide ((x4_1 ++ (⟨#[32]⟩ : ByteArray)).size + 5 ≤ 9223372036854775807) = true := decide_eq_true c43
             try have c43b2 : (9223372036854775807 < (x4_1 ++ (⟨#[32]⟩ : ByteArray)).size + 5) = False := eq_false (Nat.not_lt.2 c43)
             have c43b9 : (9223372036854775807 < x4_1.size + 6) = False := eq_false (Nat.not_lt.2 (by have z_ := c43; rw [ByteArray.size_append] at z_; exact z_))
             have c43b8 : (9223372036854775807 < x4_1.size + 1 + 5) = False := eq_false (Nat.not_lt.2 (by have z_ := c43; rw [ByteArray.size_append] at z_; exact z_))
             have H' := Aside0.mk H
             clear H
             have p311 : 0 ≤ (x18_1 : Int) := of_decide_eq_true as_
             have q311 : x18_1 < (y308.length : Int) := of_decide_eq_true as_
             obtain ⟨ad311, A311_0, c311_0, e311, hx311_0, hl311_0, hi311_0⟩ := at_L4 (Kd.N_reads' HO_16.out).2.2 x18_1 p311 q311
             cases e311
             obtain ⟨ce311, hce311, hMe311, hcc311⟩ := Kd.N_get HO_16.out [] x18_1 p311 (by first | exact q311 | exact of_decide_eq_true as_ | (have e_ := (Kd.N_reads' HO_16.out).1; omega))
             obtain ⟨ua311_0, uc311_0, rfl, ul311_0, ge311_0⟩ := Kd.FK_slice_open hMe311
             have hv311_0 := hcc311 0 _ rfl
             rw [Nat.add_zero, show ((Kd.slice 9 Kd.string)).sz = 1 from rfl, Nat.mul_one] at hv311_0
             replace hv311_0 := Option.some.inj (hv311_0.symm.trans hx311_0)
             injection hv311_0 with hva_ hvn_ hvc_
             rw [hva_] at ge311_0
             rw [hvc_] at ul311_0
             have HL311_0 := Aside0.mk (show Kd.V Kd.string 9 _ w.heap.size _ _ (rd_L4 y308 x18_1) from Kd.V_mk ul311_0 ge311_0)
             clear hva_ hvn_ hvc_ ge311_0 ul311_0
             clear hcc311 hce311
             have HR311_0 := Aside0.mk hi311_0
             have HC311_0 := Aside0.mk hl311_0
             clear hi311_0 hl311_0
             replace p311 := eq_true p311
             replace q311 := eq_true q311
             go_wp2
             go_loopg [4, 38] k1 (fun kq v4 v38 w' => ∃ (x4_2 : ByteArray) (x38_2 : Int), v4 = .string x4_2 ∧ v38 = .int .i64 x38_2 ∧ Aside0 (spec_WriteWish.l1 kq x4_2 y308 (y308.length : Int) x18_1 (rd_L4 y308 x18_1) ((rd_L4 y308 x18_1).length : Int) x38_2 = some (r1, r2)) ∧ Aside0 (kq ≤ k1) ∧ Aside0 (Kd.N (Kd.slice 9 Kd.string) 22 w' w.heap.size (fun k_ => ((P0_0_ k_ ∨ P0_1_ k_) ∨ w.heap.size ≤ k_) ∧ k_ ≠ gb306) (.slice (some ad311) y308.length co10) y308) ∧ Aside0 (Kd.V Kd.string 9 w' w.heap.size (fun k_ => ((P0_0_ k_ ∨ P0_1_ k_) ∨ w.heap.size ≤ k_) ∧ some k_ ≠ ((.slice (some ad311) y308.length co10) : Value).ownBlock ∧ k_ ≠ gb306) (.slice A0_0 l0_0.length c0_0) l0_0) ∧ Aside0 (Kd.V Kd.string 9 w' w.heap.size (fun k_ => ((P0_0_ k_ ∨ P0_1_ k_) ∨ w.heap.size ≤ k_) ∧ some k_ ≠ ((.slice (some ad311) y308.length co10) : Value).ownBlock ∧ k_ ≠ gb306) (.slice A0_1 l0_1.length c0_1) l0_1) ∧ Aside0 (w'.heap[gb306]? = some (.cells #[(.slice A0_0 l0_0.length c0_0), (.slice A0_1 l0_1.length c0_1)] 36 (0, 0))) ∧ Aside0 (Kd.C Kd.string w' A311_0 (rd_L4 y308 x18_1).length (rd_L4 y308 x18_1)) ∧ Aside0 (Below w.heap.size w w'))
             case atStart => exact ⟨((x4_1 ++ (⟨#[32]⟩ : ByteArray)) ++ (⟨#[97, 118, 111, 105, 100]⟩ : ByteArray)), (0), es_, es_, H', ⟨Nat.le_refl _⟩, ⟨by (with_reducible repeat (first | apply Kd.N_alloc | apply Kd.N_drewN | apply Kd.N_drew)); exact HO_16.out⟩, ⟨by (with_reducible repeat (first | apply Kd.V_alloc | apply Kd.V_drewN | apply Kd.V_drew)); exact HO_307000.out⟩, ⟨by (with_reducible repeat (first | apply Kd.V_alloc | apply Kd.V_drewN | apply Kd.V_drew)); exact HO_307001.out⟩, ⟨bk_ BK306.out⟩, ⟨by repeat (first | (with_reducible exact HR311_0.out) | (with_reducible refine Kd.C_alloc ?_ _) | (with_reducible refine Kd.C_drewN ?_ _) | (with_reducible refine Kd.C_drew ?_) | exact HR311_0.out)⟩, ⟨hb_⟩⟩
             case round =>
              clear H'
              try clear c1
              try clear c2
              try clear p2
              try clear c3
              try clear p3
              try clear q3
              try clear hx3
              try clear c4
              try clear c5
              try clear p6
              try clear c11
              try clear c11b0
              try clear c12
              try clear c12b0
              try clear c13
              try clear c13b0
              try clear c14
              try clear c14b0
              try clear c14b1
              try clear c14b2
              try clear c14b9
              try clear c15
              try clear c15b0
              try clear c15b1
              try clear c16
              try clear c16b0
              try clear c16b1
              try clear c17
              try clear c17b0
              try clear c17b1
              try clear c17b2
              try clear c17b9
              try clear c18
              try clear c18b0
              try clear c19
              try clear c19b0
              try clear c20
              try clear c20b0
              try clear c21
              try clear c21b0
              try clear c21b1
              try clear c22
              try clear c22b0
              try clear c22b1
              try clear c23
              try clear c23b0
              try clear c23b1
              try clear c23b2
              try clear c23b9
              try clear c24
              try clear c24b0
              try clear c24b1
              try clear c24b2
              try clear c24b9
              try clear c25
              try clear c25b0
              try clear c25b1
              try clear c25b2
              try clear c25b9
              try clear c26
              try clear c26b0
              try clear c27
              try clear c27b0
              try clear c28
              try clear c28b0
              try clear c29
              try clear c29b0
              try clear c29b1
              try clear c30
              try clear c30b0
              try clear c30b1
              try clear c31
              try clear c31b0
              try clear c31b1
              try clear c31b2
              try clear c31b9
              try clear p31
              try clear q31
              try clear hx31
              try clear c32
              try clear c32b0
              try clear c32b1
              try clear c32b2
              try clear c32b9
              try clear c33
              try clear c33b0
              try clear c33b1
              try clear c33b2
              try clear c33b9
              try clear c34
              try clear c34b0
              try clear c34b1
              try clear c35
              try clear c35b0
              try clear c35b1
              try clear c35b2
              try clear c35b9
              try clear c36
              try clear c36b0
              try clear c37
              try clear c37b0
              try clear c38
              try clear c38b0
              try clear c39
              try clear c39b0
              try clear c39b1
              try clear c40
              try clear c40b0
              try clear c40b1
              try clear c41
              try clear c41b0
              try clear c41b1
              try clear c41b2
              try clear c41b9
              try clear c42
              try clear c42b0
              try clear c42b1
              try clear c42b2
              try clear c42b9
              try clear c43
              try clear c43b0
              try clear c43b1
              try clear c43b2
              try clear c43b9
              try clear hcz5_0
              try clear hcz5_1
              try clear hcz7_0
              try clear hcz7_1
              try clear hfz5_0
              try clear hfz5_1
              try clear hfz7_0
              try clear hfz7_1
              try clear hx311_0
              try clear hx312_0
              try clear p2
              try clear p3
              try clear p31
              try clear p311
              try clear p312
              try clear p6
              try clear q3
              try clear q31
              try clear q311
              try clear q312
              obtain ⟨x4_2, x38_2, rfl, rfl, HA, HK2, HO_16, HO_307000, HO_307001, BK306, HR311_0, HB⟩ := hrel
              cases gk with
              | zero => exact absurd HA.out (by simp [spec_WriteWish.l1])
              | succ k2 =>
               have H := HA.out
               clear HA
               simp only [spec_WriteWish.l1] at H
               by_cases c44 : x38_2 < ((rd_L4 y308 x18_1).length : Int)
               ·rw [if_pos c44] at H
                have c44b0 : decide (x38_2 < ((rd_L4 y308 x18_1).length : Int)) = true := decide_eq_true c44
                clear c44
                by_cases c45 : 0 ≤ x38_2
                ·rw [if_pos c45] at H
                 have c45b0 : decide (0 ≤ x38_2) = true := decide_eq_true c45
                 clear c45
                 by_cases c46 : x38_2 < ((rd_L4 y308 x18_1).length : Int)
                 ·rw [if_pos c46] at H
                  have c46b0 : decide (x38_2 < ((rd_L4 y308 x18_1).length : Int)) = true := decide_eq_true c46
                  clear c46
                  by_cases c47 : (rdOf ByteArray.empty (rd_L4 y308 x18_1) x38_2).toList = ([114, 101, 97, 99, 104] : List UInt8)
                  ·rw [if_pos c47] at H
                   have c47b0 : ((rdOf ByteArray.empty (rd_L4 y308 x18_1) x38_2).toList == ([114, 101, 97, 99, 104] : List UInt8)) = true := beq_iff_eq.mpr c47
                   have c47b1 : ((rdOf ByteArray.empty (rd_L4 y308 x18_1) x38_2).toList != ([114, 101, 97, 99, 104] : List UInt8)) = false := bne_eq_false_iff_eq.mpr c47
                   clear c47
                   simp only [Option.some.injEq, Prod.mk.injEq] at H
                   obtain ⟨rfl, rfl⟩ := H
                   have p312 : 0 ≤ (x38_2 : Int) := of_decide_eq_true as_
                   have q312 : x38_2 < ((rd_L4 y308 x18_1).length : Int) := of_decide_eq_true as_
                   obtain ⟨ad312, e312, hx312_0⟩ := Kd.at_string HR311_0.out x38_2 p312 q312
                   cases e312
                   try replace hx312_0 := hc_ HB hx312_0
                   replace p312 := eq_true p312
                   replace q312 := eq_true q312
                   go_wp2
                   go_ret2
                   exact ⟨er_, hb_⟩
                  ·rw [if_neg c47] at H
                   have c47b0 : ((rdOf ByteArray.empty (rd_L4 y308 x18_1) x38_2).toList == ([114, 101, 97, 99, 104] : List UInt8)) = false := beq_eq_false_iff_ne.mpr c47
                   have c47b1 : ((rdOf ByteArray.empty (rd_L4 y308 x18_1) x38_2).toList != ([114, 101, 97, 99, 104] : List UInt8)) = true := bne_iff_ne.mpr c47
                   by_cases c48 : (rdOf ByteArray.empty (rd_L4 y308 x18_1) x38_2).toList = ([97, 118, 111, 105, 100] : List UInt8)
                   ·rw [if_pos c48] at H
                    have c48b0 : ((rdOf ByteArray.empty (rd_L4 y308 x18_1) x38_2).toList == ([97, 118, 111, 105, 100] : List UInt8)) = true := beq_iff_eq.mpr c48
                    have c48b1 : ((rdOf ByteArray.empty (rd_L4 y308 x18_1) x38_2).toList != ([97, 118, 111, 105, 100] : List UInt8)) = false := bne_eq_false_iff_eq.mpr c48
                    clear c48
                    simp only [Option.some.injEq, Prod.mk.injEq] at H
                    obtain ⟨rfl, rfl⟩ := H
                    have p312 : 0 ≤ (x38_2 : Int) := of_decide_eq_true as_
                    have q312 : x38_2 < ((rd_L4 y308 x18_1).length : Int) := of_decide_eq_true as_
                    obtain ⟨ad312, e312, hx312_0⟩ := Kd.at_string HR311_0.out x38_2 p312 q312
                    cases e312
                    try replace hx312_0 := hc_ HB hx312_0
                    replace p312 := eq_true p312
                    replace q312 := eq_true q312
                    go_wp2
                    go_ret2
                    exact ⟨er_, hb_⟩
                   ·rw [if_neg c48] at H
                    have c48b0 : ((rdOf ByteArray.empty (rd_L4 y308 x18_1) x38_2).toList == ([97, 118, 111, 105, 100] : List UInt8)) = false := beq_eq_false_iff_ne.mpr c48
                    have c48b1 : ((rdOf ByteArray.empty (rd_L4 y308 x18_1) x38_2).toList != ([97, 118, 111, 105, 100] : List UInt8)) = true := bne_iff_ne.mpr c48
                    by_cases c49 : 1 + (rdOf ByteArray.empty (rd_L4 y308 x18_1) x38_2).size ≤ 9223372036854775807
                    ·rw [if_pos c49] at H
                     have c49b0 := eq_true c49
                     have c49b1 : decide (1 + (rdOf ByteArray.empty (rd_L4 y308 x18_1) x38_2).size ≤ 9223372036854775807) = true := decide_eq_true c49
                     try have c49b2 : (9223372036854775807 < 1 + (rdOf ByteArray.empty (rd_L4 y308 x18_1) x38_2).size) = False := eq_false (Nat.not_lt.2 c49)
                     by_cases c50 : x4_2.size + ((⟨#[32]⟩ : ByteArray) ++ (rdOf ByteArray.empty (rd_L4 y308 x18_1) x38_2)).size ≤ 9223372036854775807
                     ·rw [if_pos c50] at H
                      have c50b0 := eq_true c50
                      have c50b1 : decide (x4_2.size + ((⟨#[32]⟩ : ByteArray) ++ (rdOf ByteArray.empty (rd_L4 y308 x18_1) x38_2)).size ≤ 9223372036854775807) = true := decide_eq_true c50
                      try have c50b2 : (9223372036854775807 < x4_2.size + ((⟨#[32]⟩ : ByteArray) ++ (rdOf ByteArray.empty (rd_L4 y308 x18_1) x38_2)).size) = False := eq_false (Nat.not_lt.2 c50)
                      have c50b9 : (9223372036854775807 < x4_2.size + (1 + (rdOf ByteArray.empty (rd_L4 y308 x18_1) x38_2).size)) = False := eq_false (Nat.not_lt.2 (by have z_ := c50; rw [ByteArray.size_append] at z_; exact z_))
                      have H' := Aside0.mk H
                      clear H
                      have p312 : 0 ≤ (x38_2 : Int) := of_decide_eq_true as_
                      have q312 : x38_2 < ((rd_L4 y308 x18_1).length : Int) := of_decide_eq_true as_
                      obtain ⟨ad312, e312, hx312_0⟩ := Kd.at_string HR311_0.out x38_2 p312 q312
                      cases e312
                      try replace hx312_0 := hc_ HB hx312_0
                      replace p312 := eq_true p312
                      replace q312 := eq_true q312
                      go_wp2
                      go_roundg k2
                      case measure => have := HK1.out; have := HK2.out; omega
                      case rel => exact ⟨(x4_2 ++ ((⟨#[32]⟩ : ByteArray) ++ (rdOf ByteArray.empty (rd_L4 y308 x18_1) x38_2))), (wrap64 (x38_2 + 1)), es_, es_, H', ⟨by have := HK1.out; have := HK2.out; omega⟩, ⟨by (with_reducible repeat (first | apply Kd.N_alloc | apply Kd.N_drewN | apply Kd.N_drew)); exact HO_16.out⟩, ⟨by (with_reducible repeat (first | apply Kd.V_alloc | apply Kd.V_drewN | apply Kd.V_drew)); exact HO_307000.out⟩, ⟨by (with_reducible repeat (first | apply Kd.V_alloc | apply Kd.V_drewN | apply Kd.V_drew)); exact HO_307001.out⟩, ⟨bk_ BK306.out⟩, ⟨by repeat (first | (with_reducible exact HR311_0.out) | (with_reducible refine Kd.C_alloc ?_ _) | (with_reducible refine Kd.C_drewN ?_ _) | (with_reducible refine Kd.C_drew ?_) | exact HR311_0.out)⟩, ⟨hb_⟩⟩
                     ·rw [if_neg c50] at H
                      exact absurd H (by simp)
                    ·rw [if_neg c49] at H
                     exact absurd H (by simp)
                 ·rw [if_neg c46] at H
                  exact absurd H (by simp)
                ·rw [if_neg c45] at H
                 exact absurd H (by simp)
               ·rw [if_neg c44] at H
                have c44b0 : decide (x38_2 < ((rd_L4 y308 x18_1).length : Int)) = false := decide_eq_false c44
                clear c44
                have H' := Aside0.mk H
                clear H
                go_wp2
                go_roundg k2
                case measure => have := HK1.out; have := HK2.out; omega
                case rel => exact ⟨(x4_2), (wrap64 (x18_1 + 1)), es_, es_, H', ⟨by have := HK1.out; have := HK2.out; omega⟩, ⟨by (with_reducible repeat (first | apply Kd.N_alloc | apply Kd.N_drewN | apply Kd.N_drew)); exact HO_16.out⟩, ⟨by (with_reducible repeat (first | apply Kd.V_alloc | apply Kd.V_drewN | apply Kd.V_drew)); exact HO_307000.out⟩, ⟨by (with_reducible repeat (first | apply Kd.V_alloc | apply Kd.V_drewN | apply Kd.V_drew)); exact HO_307001.out⟩, ⟨bk_ BK306.out⟩, ⟨hb_⟩⟩
            ·rw [if_neg c43] at H
             exact absurd H (by simp)
          ·rw [if_neg c33] at H
           exact absurd H (by simp)
       ·rw [if_neg c13] at H
        exact absurd H (by simp)
      ·rw [if_neg c12] at H
       exact absurd H (by simp)
     ·rw [if_neg c11] at H
      have c11b0 : decide (x18_1 < (y308.length : Int)) = false := decide_eq_false c11
      clear c11
      by_cases c51 : (x4_1.size : Int) > 200
      ·rw [if_pos c51] at H
       have c51b0 : decide (200 < (x4_1.size : Int)) = true := decide_eq_true c51
       have c51b1 : decide (200 < x4_1.size) = true := decide_eq_true (by omega)
       clear c51
       simp only [Option.some.injEq, Prod.mk.injEq] at H
       obtain ⟨rfl, rfl⟩ := H
       go_wp2
       go_ret2
       exact ⟨er_, hb_⟩
      ·rw [if_neg c51] at H
       have c51b0 : decide (200 < (x4_1.size : Int)) = false := decide_eq_false c51
       have c51b1 : decide (200 < x4_1.size) = false := decide_eq_false (by omega)
       clear c51
       simp only [Option.some.injEq, Prod.mk.injEq] at H
       obtain ⟨rfl, rfl⟩ := H
       go_wp2
       go_ret2
       exact ⟨er_, hb_⟩
  ·replace c3 := Bool.eq_false_iff.mpr c3
   subst c3
   rw [if_neg (show ¬ (false = true) by decide)] at H
   simp only [Option.some.injEq, Prod.mk.injEq] at H
   obtain ⟨rfl, rfl⟩ := H
   go_enter Tryd.func34, Tryd.ntmps34
   go_wp2_with (first | ((with_reducible refine gate_dst (N := 1) rfl ?_); refine box_event ?hg (N := 1) ?hd (cs := #[.slice A0_0 l0_0.length c0_0, .slice A0_1 l0_1.length c0_1]) (t := 36) ?hr ?_; (case hd => rfl); (case hg => rfl); (case hr => first | (go_simp; done) | (go_simp; rfl)); intro gb306 hg w52 hbox hb; have n0_ := Aside0.mk (Kd.V_below (Kd.V_elderB (by (with_reducible repeat (first | apply Kd.V_alloc | apply Kd.V_drewN | apply Kd.V_drew)); exact HO0_0.out) gb306 (Nat.le_of_eq hg.symm)) hb); have n1_ := Aside0.mk (Kd.V_below (Kd.V_elderB (by (with_reducible repeat (first | apply Kd.V_alloc | apply Kd.V_drewN | apply Kd.V_drew)); exact HO0_1.out) gb306 (Nat.le_of_eq hg.symm)) hb); have n2_ := Aside0.mk (below_step hb_ hb); have n3_ := Aside0.mk (hbox); have n4_ : Aside0 (w.heap.size ≤ gb306) := gz_; have n5_ : Aside0 (w.heap.size ≤ gb306) := gz_; clear HO0_0; clear HO0_1; clear HB; have HO0_0 := n0_; have HO0_1 := n1_; have HB := n2_; have BK306 := n3_; have GW306 := n4_; have GE306 := n5_; clear n0_ n1_ n2_ n3_ n4_ n5_; clear hb hbox hg; have hcz53_0 : w52.cell? ⟨gb306, 0, none⟩ = some (.slice A0_0 l0_0.length c0_0) := (blk_cell BK306.out 0).trans rfl; have hcz53_1 : w52.cell? ⟨gb306, 1, none⟩ = some (.slice A0_1 l0_1.length c0_1) := (blk_cell BK306.out 1).trans rfl; have hfz53_0 := blk_frozen BK306.out 0; have hfz53_1 := blk_frozen BK306.out 1) | ((with_reducible refine gate_callee (f := 50) rfl ?_); refine goesL_ (some 10) rfl rfl Tryd.func50 (by kernel_rfl) rfl #[.agg #[.slice A0_0 l0_0.length c0_0, .slice A0_1 l0_1.length c0_1]] rfl ls_ ?_; (with_reducible refine (spec_l22Good.calls k _ _ l0_0 _ _ l0_1 false _ ?side1 ?side2 ?side3 ?side4 A2.out).mono ?_); (case side1 => exact ca_ (Kd.V_reads' HO0_0.out).2.2); (case side2 => exact (Kd.V_reads' HO0_0.out).2.1); (case side3 => exact ca_ (Kd.V_reads' HO0_1.out).2.2); (case side4 => exact (Kd.V_reads' HO0_1.out).2.1); rintro e w54 ⟨rfl, hb⟩; refine ⟨_, rfl, ?_⟩; have n0_ := Aside0.mk (Kd.V_below (by (with_reducible repeat (first | apply Kd.V_alloc | apply Kd.V_drewN | apply Kd.V_drew)); exact HO0_0.out) hb); have n1_ := Aside0.mk (Kd.V_below (by (with_reducible repeat (first | apply Kd.V_alloc | apply Kd.V_drewN | apply Kd.V_drew)); exact HO0_1.out) hb); have n2_ := bb_ BK306 hb; have n3_ := Aside0.mk (below_step hb_ hb); clear HO0_0; clear HO0_1; clear BK306; clear HB; have HO0_0 := n0_; have HO0_1 := n1_; have BK306 := n2_; have HB := n3_; clear n0_ n1_ n2_ n3_; (try clear hb); (try clear hb2); (try clear hk); (try clear hi)))
   go_ret2
   exact ⟨er_, hb_⟩

end Go.Proofs.YtdihodboopeakaaDoor.Pr
-- Written by this session's own print (wip/tools/mkmp.py) out of the translation. Lean checks it.
namespace Go.Proofs.YtdihodboopeakaaDoor.Pr
open Go.RowKit Go.Proofs.YtdihodboopeakaaDoorW.PrintWords Go.Proofs.YtdihodboopeakaaDoorW.PrintLast Go.Proofs.YtdihodboopeakaaDoorW.PrintMore
attribute [local go_sem] max2_int min2_int max_two min_two max_three min_three max_four min_four   -- for this text's walks alone
set_option linter.unusedVariables false
set_option linter.unusedSimpArgs false

set_option maxHeartbeats 8000000 in
set_option maxRecDepth 100000 in
theorem impl_isWord.calls (a0 : ByteArray) (r : Bool) (w : World) (h : impl_isWord.f a0 = some r) :
   Calls Tryd.prog 71 #[.string a0] w fun e w' => e = .returned (.bool r) ∧ Drawn0 w w' := by
  have H : (if a0.toList = ([114, 101, 97, 99, 104] : List UInt8) then (some true) else (some (a0.toList == ([97, 118, 111, 105, 100] : List UInt8)))) = some r := h
  clear h
  by_cases c2 : a0.toList = ([114, 101, 97, 99, 104] : List UInt8)
  ·rw [if_pos c2] at H
   have c2b0 : (a0.toList == ([114, 101, 97, 99, 104] : List UInt8)) = true := beq_iff_eq.mpr c2
   have c2b1 : (a0.toList != ([114, 101, 97, 99, 104] : List UInt8)) = false := bne_eq_false_iff_eq.mpr c2
   clear c2
   obtain rfl := Option.some.inj H
   go_enter Tryd.func71, Tryd.ntmps71
   go_wp2
   go_ret
   exact ⟨es_, by repeat (first | exact Drawn0.refl _ | apply Drawn0.step)⟩
  ·rw [if_neg c2] at H
   have c2b0 : (a0.toList == ([114, 101, 97, 99, 104] : List UInt8)) = false := beq_eq_false_iff_ne.mpr c2
   have c2b1 : (a0.toList != ([114, 101, 97, 99, 104] : List UInt8)) = true := bne_iff_ne.mpr c2
   obtain rfl := Option.some.inj H
   go_enter Tryd.func71, Tryd.ntmps71
   go_wp2
   go_ret
   exact ⟨es_, by repeat (first | exact Drawn0.refl _ | apply Drawn0.step)⟩

-- NOT PRINTED: function 110 (abi_NoEscape)

-- NOT PRINTED: function 105 (strings_Builder_copyCheck)

-- NOT PRINTED: function 111 (bytealg_MakeNoZero)

-- NOT PRINTED: function 106 (strings_Builder_grow)

-- NOT PRINTED: function 97 (strings_Builder_Grow)

-- NOT PRINTED: function 98 (strings_Builder_WriteString)

-- NOT PRINTED: function 99 (strings_Builder_String)

end Go.Proofs.YtdihodboopeakaaDoor.Pr
/- strings.Join: what it computes. -/
namespace Go.Proofs.YtdihodboopeakaaDoor.Pr
/-- The texts, one behind the other, with s between two. -/
def joinOf (l : List ByteArray) (s : ByteArray) : List UInt8 := Lib.join (l.map (·.data.toList)) s.data.toList
def strings_Join.f (l : List ByteArray) (s : ByteArray) : Option ByteArray := if l.length ≤ 140737488355328 ∧ (joinOf l s).length ≤ 140737488355328 then some ⟨(joinOf l s).toArray⟩ else none
end Go.Proofs.YtdihodboopeakaaDoor.Pr
-- Written by this session's own print (wip/tools/mkmp.py) out of the translation. Lean checks it.
namespace Go.Proofs.YtdihodboopeakaaDoor.Pr
open Go.RowKit Go.Proofs.YtdihodboopeakaaDoorW.PrintWords Go.Proofs.YtdihodboopeakaaDoorW.PrintLast Go.Proofs.YtdihodboopeakaaDoorW.PrintMore
attribute [local go_sem] max2_int min2_int max_two min_two max_three min_three max_four min_four   -- for this text's walks alone
set_option linter.unusedVariables false
set_option linter.unusedSimpArgs false

/-! ### impl_WriteWish: function 35 -/
mutual
def impl_WriteWish.l0 : Nat → List ByteArray → List (List ByteArray) → Int → Int → Option (ByteArray × Bool)
  | 0, _, _, _, _ => none
  | k + 1, x4, x17, x18, x19 => if x19 < x18 then (if 0 ≤ x19 then (if x19 < (x17.length : Int) then (if ((rd_L4 x17 x19).length : Int) > 0 then ((some (([(⟨#[114, 101, 97, 99, 104]⟩ : ByteArray), (⟨#[97, 118, 111, 105, 100]⟩ : ByteArray)] : List ByteArray) : List ByteArray)).bind fun y319 => (if x19 < (y319.length : Int) then (if x4.length < 8796093022208 then (impl_WriteWish.l1 k (x4 ++ [rdOf ByteArray.empty y319 x19]) x17 x18 x19 (rd_L4 x17 x19) ((rd_L4 x17 x19).length : Int) 0) else (none)) else (none))) else (impl_WriteWish.l1 k x4 x17 x18 x19 (rd_L4 x17 x19) ((rd_L4 x17 x19).length : Int) 0)) else (none)) else (none)) else ((strings_Join.f x4 (⟨#[32]⟩ : ByteArray)).bind fun t331 => (if (t331.size : Int) > 200 then (some ((⟨#[]⟩ : ByteArray), false)) else (some (t331, true))))
def impl_WriteWish.l1 : Nat → List ByteArray → List (List ByteArray) → Int → Int → List ByteArray → Int → Int → Option (ByteArray × Bool)
  | 0, _, _, _, _, _, _, _ => none
  | k + 1, x4, x17, x18, x19, x34, x35, x36 => if x36 < x35 then (if 0 ≤ x36 then (if x36 < (x34.length : Int) then ((impl_isWord.f (rdOf ByteArray.empty x34 x36)).bind fun t327 => (if t327 = true then (some ((⟨#[]⟩ : ByteArray), false)) else (if x4.length < 8796093022208 then (impl_WriteWish.l1 k (x4 ++ [rdOf ByteArray.empty x34 x36]) x17 x18 x19 x34 x35 (wrap64 (x36 + 1))) else (none)))) else (none)) else (none)) else (impl_WriteWish.l0 k x4 x17 x18 (wrap64 (x19 + 1)))
end
def impl_WriteWish.f (k : Nat) (l0_0 : List ByteArray) (l0_1 : List ByteArray) : Option (ByteArray × Bool) := (impl_goodWish.f l0_0 l0_1).bind fun t314 => (if t314 = true then ((some (([l0_0, l0_1] : List (List ByteArray)) : List (List ByteArray))).bind fun y315 => (impl_WriteWish.l0 k ([] : List ByteArray) y315 (y315.length : Int) 0)) else (some ((⟨#[]⟩ : ByteArray), false)))
/-! ### laws_FnExactWriteWish: function 7 -/
/-! ### spec_l22Bad_at: function 66 -/
/-! ### spec_ReadWish: function 29 -/
end Go.Proofs.YtdihodboopeakaaDoor.Pr
-- Written by this session's own print (wip/tools/mkmp.py) out of the translation. Lean checks it.
namespace Go.Proofs.YtdihodboopeakaaDoor.Pr
open Go.RowKit Go.Proofs.YtdihodboopeakaaDoorW.PrintWords Go.Proofs.YtdihodboopeakaaDoorW.PrintLast Go.Proofs.YtdihodboopeakaaDoorW.PrintMore
attribute [local go_sem] max2_int min2_int max_two min_two max_three min_three max_four min_four   -- for this text's walks alone
set_option linter.unusedVariables false
set_option linter.unusedSimpArgs false

set_option maxHeartbeats 8000000 in
set_option maxRecDepth 100000 in
theorem slices_Index_string_string.calls (k : Nat) (A0 : Option Addr) (c0 : Nat) (l0 : List ByteArray) (a1 : ByteArray) (r : Int) (w : World) (hr0 : Kd.C Kd.string w A0 l0.length l0) (hc0 : l0.length ≤ c0) (h : slices_Index_string_string.f k l0 a1 = some r) :
   Calls Tryd.prog 94 #[.slice A0 l0.length c0, .string a1] w fun e w' => e = .returned (.int .i64 r) ∧ Drawn0 w w' := by
  have HR0 := Aside0.mk hr0
  have HC0 := Aside0.mk hc0
  clear hr0 hc0
  have H : (slices_Index_string_string.l0 k l0 a1 (l0.length : Int) 0) = some r := h
  clear h
  have H' := Aside0.mk H
  clear H
  go_enter Tryd.func94, Tryd.ntmps94
  go_wp2
  go_loopg [8] k (fun kq v8 w' => ∃ (x8_1 : Int), v8 = .int .i64 x8_1 ∧ Aside0 (slices_Index_string_string.l0 kq l0 a1 (l0.length : Int) x8_1 = some r) ∧ Aside0 (kq ≤ k) ∧ Drawn0 w w')
  case atStart => exact ⟨(0), es_, H', ⟨Nat.le_refl _⟩, by repeat (first | exact Drawn0.refl _ | apply Drawn0.step)⟩
  case round =>
   clear H'
   try clear p2
   obtain ⟨x8_1, rfl, HA, HK1, ⟨m1, rfl⟩⟩ := hrel
   cases gk with
   | zero => exact absurd HA.out (by simp [slices_Index_string_string.l0])
   | succ k1 =>
    have H := HA.out
    clear HA
    simp only [slices_Index_string_string.l0] at H
    by_cases c3 : x8_1 < (l0.length : Int)
    ·rw [if_pos c3] at H
     have c3b0 : decide (x8_1 < (l0.length : Int)) = true := decide_eq_true c3
     clear c3
     by_cases c4 : 0 ≤ x8_1
     ·rw [if_pos c4] at H
      have c4b0 : decide (0 ≤ x8_1) = true := decide_eq_true c4
      clear c4
      by_cases c5 : x8_1 < (l0.length : Int)
      ·rw [if_pos c5] at H
       have c5b0 : decide (x8_1 < (l0.length : Int)) = true := decide_eq_true c5
       clear c5
       by_cases c6 : a1.toList = (rdOf ByteArray.empty l0 x8_1).toList
       ·rw [if_pos c6] at H
        have c6b0 : (a1.toList == (rdOf ByteArray.empty l0 x8_1).toList) = true := beq_iff_eq.mpr c6
        have c6b1 : (a1.toList != (rdOf ByteArray.empty l0 x8_1).toList) = false := bne_eq_false_iff_eq.mpr c6
        clear c6
        obtain rfl := Option.some.inj H
        have p214 : 0 ≤ (x8_1 : Int) := of_decide_eq_true as_
        have q214 : x8_1 < (l0.length : Int) := of_decide_eq_true as_
        obtain ⟨ad214, e214, hx214_0⟩ := Kd.at_string HR0.out x8_1 p214 q214
        cases e214
        replace p214 := eq_true p214
        replace q214 := eq_true q214
        go_wp2
        go_ret
        exact ⟨es_, by repeat (first | exact Drawn0.refl _ | apply Drawn0.step)⟩
       ·rw [if_neg c6] at H
        have c6b0 : (a1.toList == (rdOf ByteArray.empty l0 x8_1).toList) = false := beq_eq_false_iff_ne.mpr c6
        have c6b1 : (a1.toList != (rdOf ByteArray.empty l0 x8_1).toList) = true := bne_iff_ne.mpr c6
        have H' := Aside0.mk H
        clear H
        have p214 : 0 ≤ (x8_1 : Int) := of_decide_eq_true as_
        have q214 : x8_1 < (l0.length : Int) := of_decide_eq_true as_
        obtain ⟨ad214, e214, hx214_0⟩ := Kd.at_string HR0.out x8_1 p214 q214
        cases e214
        replace p214 := eq_true p214
        replace q214 := eq_true q214
        go_wp2
        go_roundg k1
        case measure => have := HK1.out; omega
        case rel => exact ⟨(wrap64 (x8_1 + 1)), es_, H', ⟨by have := HK1.out; omega⟩, by repeat (first | exact Drawn0.refl _ | apply Drawn0.step)⟩
      ·rw [if_neg c5] at H
       exact absurd H (by simp)
     ·rw [if_neg c4] at H
      exact absurd H (by simp)
    ·rw [if_neg c3] at H
     have c3b0 : decide (x8_1 < (l0.length : Int)) = false := decide_eq_false c3
     clear c3
     obtain rfl := Option.some.inj H
     go_wp2
     go_ret
     exact ⟨es_, by repeat (first | exact Drawn0.refl _ | apply Drawn0.step)⟩

set_option maxHeartbeats 8000000 in
set_option maxRecDepth 100000 in
theorem slices_Contains_string_string.calls (k : Nat) (A0 : Option Addr) (c0 : Nat) (l0 : List ByteArray) (a1 : ByteArray) (r : Bool) (w : World) (hr0 : Kd.C Kd.string w A0 l0.length l0) (hc0 : l0.length ≤ c0) (h : slices_Contains_string_string.f k l0 a1 = some r) :
   Calls Tryd.prog 73 #[.slice A0 l0.length c0, .string a1] w fun e w' => e = .returned (.bool r) ∧ Drawn0 w w' := by
  have HR0 := Aside0.mk hr0
  have HC0 := Aside0.mk hc0
  clear hr0 hc0
  have H : ((slices_Index_string_string.f k l0 a1).bind fun t215 => (some (decide (t215 ≥ 0)))) = some r := h
  clear h
  replace H := Option.bind_eq_some_iff.mp H
  obtain ⟨t215, A30, H⟩ := H
  replace H : (some (decide (t215 ≥ 0))) = some r := H
  have A3 := Aside0.mk A30
  clear A30
  obtain rfl := Option.some.inj H
  go_enter Tryd.func73, Tryd.ntmps73
  go_wp2_with (first | ((with_reducible refine gate_callee (f := 94) rfl ?_); refine goesL_ (some 7) rfl rfl Tryd.func94 (by kernel_rfl) rfl #[.slice A0 l0.length c0, .string a1] rfl ls_ ?_; (with_reducible refine (slices_Index_string_string.calls k _ _ l0 a1 t215 _ ?side1 ?side2 A3.out).mono ?_); (case side1 => repeat (first | exact HR0.out | (with_reducible refine Kd.C_alloc ?_ _) | (with_reducible refine Kd.C_drewN ?_ _) | (with_reducible refine Kd.C_drew ?_))); (case side2 => exact HC0.out); rintro e w' ⟨rfl, ⟨nd, rfl⟩⟩; refine ⟨_, rfl, ?_⟩))
  go_ret
  exact ⟨es_, by repeat (first | exact Drawn0.refl _ | apply Drawn0.step)⟩

end Go.Proofs.YtdihodboopeakaaDoor.Pr
/-
  DERIVED: THE SHELF's CONTRACTS AT THIS DUMP, IN PLAIN WORDS (tools/lay-plain.mjs out of 'YtdihodboopeakaaDoorSxa.lean', which tools/lay-shelf.mjs wrote): THE SAME DECLARATIONS UNDER THE SAME NAMES: 'import', 'namespace', 'open', 'def', 'theorem' AND NOTHING ELSE: no command of the shelf's: FOR A HAND-IN. Each laying: the table of numbers ('.._ren') and one theorem, a field a fact of the dump's own or the kernel's comparison; each contract: ONE APPLICATION.
-/
namespace Go.Proofs
open Go.Shelf
def Tryd.lays195_ren : Go.Shelf.Ren := ⟨fun | 195 => 72 | n => n, fun | 9 => 9 | 3 => 3 | 0 => 0 | 4 => 4 | n => n, fun | n => n⟩
theorem Tryd.lays195 : Go.Proofs.Lays.n195 Tryd.prog Tryd.lays195_ren := {
  mixed := by kernel_rfl
  f195 := Tryd.func72.trans (congrArg some (by kernel_rfl))
  t0 := Tryd.underlying0
  a0 := Tryd.isAgg0
  z0 := Tryd.sizeOf0
  v0 := Tryd.zeroValue0
  t3 := Tryd.underlying3
  a3 := Tryd.isAgg3
  z3 := Tryd.sizeOf3
  v3 := Tryd.zeroValue3
  t4 := Tryd.underlying4
  a4 := Tryd.isAgg4
  z4 := Tryd.sizeOf4
  v4 := Tryd.zeroValue4
  t9 := Tryd.underlying9
  a9 := Tryd.isAgg9
  z9 := Tryd.sizeOf9
  v9 := Tryd.zeroValue9 }
open Go.RowKit in
theorem Tryd.utf8_RuneCountInString (s : ByteArray) (w : World) (hs : s.size < 9223372036854775807) :
    Calls Tryd.prog 72 #[.string s] w fun e w' => e = .returned (.int .i64 (Lib.runeCount s)) ∧ ∃ pos, w' = w.iter s pos := Any.utf8_RuneCountInString Tryd.lays195 s w hs
def Tryd.lays197_ren : Go.Shelf.Ren := ⟨fun | 197 => 93 | 260 => 104 | n => n, fun | 9 => 9 | 21 => 21 | 3 => 3 | 4 => 4 | 5 => 5 | 105 => 109 | 119 => 128 | 0 => 0 | 46 => 126 | 139 => 131 | 138 => 130 | n => n, fun | 3 => 0 | 4 => 1 | n => n⟩
theorem Tryd.lays197 : Go.Proofs.Lays.n197 Tryd.prog Tryd.lays197_ren := {
  mixed := by kernel_rfl
  f197 := Tryd.func93.trans (congrArg some (by kernel_rfl))
  f260 := Tryd.func104.trans (congrArg some (by kernel_rfl))
  t0 := Tryd.underlying0
  a0 := Tryd.isAgg0
  z0 := Tryd.sizeOf0
  v0 := Tryd.zeroValue0
  t3 := Tryd.underlying3
  a3 := Tryd.isAgg3
  z3 := Tryd.sizeOf3
  v3 := Tryd.zeroValue3
  t4 := Tryd.underlying4
  a4 := Tryd.isAgg4
  z4 := Tryd.sizeOf4
  v4 := Tryd.zeroValue4
  t5 := Tryd.underlying5
  a5 := Tryd.isAgg5
  z5 := Tryd.sizeOf5
  v5 := Tryd.zeroValue5
  t9 := Tryd.underlying9
  a9 := Tryd.isAgg9
  z9 := Tryd.sizeOf9
  v9 := Tryd.zeroValue9
  t21 := Tryd.underlying21
  a21 := Tryd.isAgg21
  z21 := Tryd.sizeOf21
  v21 := Tryd.zeroValue21
  t46 := Tryd.underlying126
  a46 := Tryd.isAgg126
  z46 := Tryd.sizeOf126
  v46 := Tryd.zeroValue126
  t105 := Tryd.underlying109
  a105 := Tryd.isAgg109
  z105 := Tryd.sizeOf109
  v105 := Tryd.zeroValue109
  t119 := Tryd.underlying128
  a119 := Tryd.isAgg128
  z119 := Tryd.sizeOf128
  t138 := Tryd.underlying130
  a138 := Tryd.isAgg130
  z138 := Tryd.sizeOf130
  v138 := Tryd.zeroValue130
  t139 := Tryd.underlying131
  a139 := Tryd.isAgg131
  z139 := Tryd.sizeOf131
  v139 := Tryd.zeroValue131
  g3 := by kernel_rfl
  g4 := by kernel_rfl }
def Tryd.lays260_ren : Go.Shelf.Ren := ⟨fun | 260 => 104 | n => n, fun | 9 => 9 | 21 => 21 | 3 => 3 | 4 => 4 | 5 => 5 | 119 => 128 | 0 => 0 | 46 => 126 | 139 => 131 | 138 => 130 | n => n, fun | 3 => 0 | 4 => 1 | n => n⟩
theorem Tryd.lays260 : Go.Proofs.Lays.n260 Tryd.prog Tryd.lays260_ren := {
  mixed := by kernel_rfl
  f260 := Tryd.func104.trans (congrArg some (by kernel_rfl))
  t0 := Tryd.underlying0
  a0 := Tryd.isAgg0
  z0 := Tryd.sizeOf0
  v0 := Tryd.zeroValue0
  t3 := Tryd.underlying3
  a3 := Tryd.isAgg3
  z3 := Tryd.sizeOf3
  v3 := Tryd.zeroValue3
  t4 := Tryd.underlying4
  a4 := Tryd.isAgg4
  z4 := Tryd.sizeOf4
  v4 := Tryd.zeroValue4
  t5 := Tryd.underlying5
  a5 := Tryd.isAgg5
  z5 := Tryd.sizeOf5
  v5 := Tryd.zeroValue5
  t9 := Tryd.underlying9
  a9 := Tryd.isAgg9
  z9 := Tryd.sizeOf9
  v9 := Tryd.zeroValue9
  t21 := Tryd.underlying21
  a21 := Tryd.isAgg21
  z21 := Tryd.sizeOf21
  v21 := Tryd.zeroValue21
  t46 := Tryd.underlying126
  a46 := Tryd.isAgg126
  z46 := Tryd.sizeOf126
  v46 := Tryd.zeroValue126
  t119 := Tryd.underlying128
  a119 := Tryd.isAgg128
  z119 := Tryd.sizeOf128
  t138 := Tryd.underlying130
  a138 := Tryd.isAgg130
  z138 := Tryd.sizeOf130
  v138 := Tryd.zeroValue130
  t139 := Tryd.underlying131
  a139 := Tryd.isAgg131
  z139 := Tryd.sizeOf131
  v139 := Tryd.zeroValue131
  g3 := by kernel_rfl
  g4 := by kernel_rfl }
open Go.RowKit Go.Lib in
theorem Tryd.utf8_DecodeRuneInString (s : ByteArray) (w : World) (hT : Lib.Utf8Tabs 0 1 w) :
    Calls Tryd.prog 93 #[.string s] w fun e w' => e = .returned (.tuple #[.int .i32 (Lib.decodeGo s).1, .int .i64 (Lib.decodeGo s).2]) ∧ Below w.heap.size w w' := Any.utf8_DecodeRuneInString Tryd.lays197 s w hT
end Go.Proofs
/- impl.oddRune and impl.goodName by hand: the walks, over the library's own functions by their contracts. -/
namespace Go.Proofs.YtdihodboopeakaaDoor.Pr
open Go.RowKit Go.Proofs.YtdihodboopeakaaDoorW.PrintWords Go.Proofs.YtdihodboopeakaaDoorW.PrintLast Go.Proofs.YtdihodboopeakaaDoorW.PrintMore
set_option linter.unusedVariables false
set_option linter.unusedSimpArgs false
/-- Go's two tables of UTF-8 lie as its text lays them. -/
def Tabs (w : World) : Prop := Lib.Utf8Tabs 0 1 w
theorem Tabs.below {w W : World} (h : Tabs w) (hb : Below w.heap.size w W) : Tabs W :=
  ⟨fun c hc => (hb.cell (World.block_lt_of_cell? w _ (h.1 c hc))).trans (h.1 c hc), fun i hi => ⟨(hb.cell (World.block_lt_of_cell? w _ (h.2 i hi).1)).trans (h.2 i hi).1, (hb.cell (World.block_lt_of_cell? w _ (h.2 i hi).2)).trans (h.2 i hi).2⟩⟩
theorem tb_ {w W : World} (h : Aside0 (Tabs w)) (hb : Below w.heap.size w W := by repeat (first | (with_reducible first | exact HB.out | exact Below.refl _ _ | apply below_alloc | apply pw_below_drewN | apply below_drew1 | refine below_set ?_ (Aside0.out (by assumption))) | exact HB.out)) : Tabs W := h.out.below hb
theorem decode_go (s : ByteArray) (i : Nat) (h : i < s.size) : Lib.decodeGo (s.extract i s.size) = Utf8.decode s i := by
  have e : (s.extract i s.size).data.toList = s.data.toList.drop i := by
    have := Lib.extract_toList s i s.size
    rw [Lib.toList_data] at this
    rw [this, List.take_of_length_le (by rw [List.length_drop, ← Lib.size_eq]; omega)]
  unfold Lib.decodeGo
  rw [if_neg (by rw [ByteArray.size_extract]; omega)]
  have h2 := Lib.decodeL_drop s i
  rw [← e] at h2
  rw [← h2]
  unfold Lib.decodeL
  rfl
theorem decode_w (s : ByteArray) (i : Nat) : 1 ≤ (Utf8.decode s i).2 ∧ (Utf8.decode s i).2 ≤ 4 := by
  rw [Lib.decode_at]
  generalize (s.get! i).toNat = b0
  generalize (s.get! (i + 1)).toNat = b1
  generalize (s.get! (i + 2)).toNat = b2
  generalize (s.get! (i + 3)).toNat = b3
  unfold Lib.decodeN
  repeat' split
  all_goals simp
theorem oddFrom_more (s : ByteArray) : ∀ (f g pos : Nat), s.size - pos ≤ f → s.size - pos ≤ g → oddFrom s f pos = oddFrom s g pos := by
  intro f
  induction f with
  | zero =>
    intro g pos hf _
    cases g with
    | zero => rfl
    | succ g => simp only [oddFrom]; rw [if_neg (by omega)]
  | succ f ih =>
    intro g pos hf hg
    cases g with
    | zero => simp only [oddFrom]; rw [if_neg (by omega)]
    | succ g =>
      simp only [oddFrom]
      by_cases h : pos < s.size
      · rw [if_pos h, if_pos h]
        have := decode_w s pos
        rw [ih g _ (by omega) (by omega)]
      · rw [if_neg h, if_neg h]
theorem odd_step (s : ByteArray) (i : Nat) (hi : i < s.size) (r : Int) (h : oddFrom s (s.size - i) i = r) :
    (badRune (Utf8.decode s i) = true → r = i) ∧ (badRune (Utf8.decode s i) = false → oddFrom s (s.size - (i + (Utf8.decode s i).2)) (i + (Utf8.decode s i).2) = r) := by
  have hw := decode_w s i
  have e : oddFrom s (s.size - i) i = oddFrom s ((s.size - (i + 1)) + 1) i := oddFrom_more s _ _ _ (Nat.le_refl _) (by omega)
  rw [e] at h
  simp only [oddFrom] at h
  rw [if_pos hi] at h
  constructor
  · intro hb; rw [if_pos hb] at h; exact h.symm
  · intro hb
    rw [if_neg (by rw [hb]; decide)] at h
    rw [← h]
    exact oddFrom_more s _ _ _ (by omega) (by omega)
set_option maxHeartbeats 2000000 in
set_option maxRecDepth 100000 in
theorem odd_walk (s : ByteArray) (w : World) (hs : s.size ≤ 140737488355328) (ht : Tabs w) :
    Calls Tryd.prog 70 #[.string s] w fun e w' => e = .returned (.int .i64 (oddOf s)) ∧ Below w.heap.size w w' := by
  have HS := Aside0.mk hs
  have HT := Aside0.mk ht
  clear ht
  obtain ⟨r, hr⟩ : ∃ r, oddOf s = r := ⟨_, rfl⟩
  rw [hr]
  have HR := Aside0.mk hr
  clear hr
  go_enter Tryd.func70, Tryd.ntmps70
  go_wp2_with fail
  go_loopg [3] s.size (fun g v3 w' => ∃ i : Nat, v3 = .int .i64 i ∧ Aside0 (i + g = s.size ∨ (s.size ≤ i ∧ g = 0)) ∧ Aside0 (i ≤ s.size + 4) ∧ Aside0 (oddFrom s (s.size - i) i = r) ∧ Aside0 (Below w.heap.size w w'))
  case atStart => exact ⟨0, rfl, ⟨.inl (Nat.zero_add _)⟩, ⟨Nat.zero_le _⟩, HR, ⟨Below.refl _ _⟩⟩
  case round =>
   obtain ⟨i, rfl, HG, HI, HO, HB⟩ := hrel
   by_cases c1 : i < s.size
   ·have hcon := Tryd.utf8_DecodeRuneInString (s.extract i s.size) wr (HT.out.below HB.out)
    rw [decode_go s i c1] at hcon
    have hst := odd_step s i c1 r HO.out
    have hdw := decode_w s i
    generalize Utf8.decode s i = d at hcon hst hdw
    obtain ⟨c, n⟩ := d
    have ST := Aside0.mk hst
    have HC := Aside0.mk hcon
    clear hst hcon
    obtain ⟨hd1, hd2⟩ := hdw
    go_wp2_with (go_at_call 93; refine HC.out.mono ?_; rintro e w1 ⟨rfl, hb⟩)
    all_goals (
     try simp only [Bool.not_eq_true', Bool.not_eq_false', decide_eq_false_iff_not, decide_eq_true_eq, beq_eq_false_iff_ne, ne_eq, Bool.and_eq_true] at *
     first
      | (have hbad : badRune (c, n) = true := decide_eq_true (by omega)
         have e1 := ST.out.1 hbad
         go_ret
         exact ⟨by rw [e1]; rfl, below_step HB.out hb⟩)
      | (have hgood : badRune (c, n) = false := decide_eq_false (by omega)
         have e1 := ST.out.2 hgood
         go_roundg (gk - n)
         case measure => have := HG.out; omega
         case rel => exact ⟨i + n, by rw [Int.natCast_add], ⟨by have := HG.out; omega⟩, ⟨by omega⟩, ⟨e1⟩, ⟨below_step HB.out hb⟩⟩))
   ·have c1b : decide (i < s.size) = false := decide_eq_false c1
    go_wp2_with fail
    go_ret
    have e : oddFrom s (s.size - i) i = -1 := by rw [show s.size - i = 0 by omega]; rfl
    exact ⟨by rw [← HO.out, e]; rfl, HB.out⟩
theorem impl_oddRune.calls (s : ByteArray) (r : Int) (w : World) (h : impl_oddRune.f s = some r) (ht : Tabs w := by exact tb_ HTb_) :
    Calls Tryd.prog 70 #[.string s] w fun e w' => e = .returned (.int .i64 r) ∧ Below w.heap.size w w' := by
  unfold impl_oddRune.f at h
  by_cases hs : s.size ≤ 140737488355328
  · rw [if_pos hs] at h
    injection h with h
    subst h
    exact odd_walk s w hs ht
  · rw [if_neg hs] at h
    cases h
set_option maxHeartbeats 2000000 in
set_option maxRecDepth 100000 in
theorem impl_goodName.calls (s : ByteArray) (r : Bool) (w : World) (h : impl_goodName.f s = some r) (ht : Tabs w := by exact tb_ HTb_) :
    Calls Tryd.prog 65 #[.string s] w fun e w' => e = .returned (.bool r) ∧ Below w.heap.size w w' := by
  unfold impl_goodName.f at h
  by_cases hs : s.size ≤ 140737488355328
  case neg => rw [if_neg hs] at h; cases h
  case pos =>
  rw [if_pos hs] at h
  injection h with h
  have hcn := Tryd.utf8_RuneCountInString s w (by omega)
  have hq : Lib.runeCount s ≤ s.size := Lib.runeCount_le s
  obtain ⟨q, hqq⟩ : ∃ q, Lib.runeCount s = q := ⟨_, rfl⟩
  obtain ⟨o, hoo⟩ : ∃ o, oddOf s = o := ⟨_, rfl⟩
  rw [hqq] at hcn hq h
  have HO : Aside0 (impl_oddRune.f s = some o) := ⟨by unfold impl_oddRune.f; rw [if_pos hs, hoo]⟩
  rw [hoo] at h
  have HR := Aside0.mk h
  have HT := Aside0.mk ht
  have HC := Aside0.mk hcn
  have HQ : q < 9223372036854775807 := by omega
  clear h ht hcn hqq hoo hq
  have b1 (pos : Nat) : Below w.heap.size w (w.iter s pos) := below_alloc (Below.refl _ _) _
  have B1 := Aside0.mk b1
  clear b1
  by_cases c1 : 1 ≤ q
  · have c1b : decide ((1 : Int) ≤ (q : Int)) = true := decide_eq_true (by omega)
    have c1c : decide (1 ≤ q) = true := decide_eq_true (by omega)
    by_cases c2 : q ≤ 12
    · have c2b : decide ((q : Int) ≤ 12) = true := decide_eq_true (by omega)
      have c2c : decide (q ≤ 12) = true := decide_eq_true (by omega)
      have hr : Aside0 (r = decide (o < 0)) := ⟨by rw [← HR.out]; exact decide_eq_decide.2 ⟨fun h => h.2.2, fun h => ⟨c1, c2, h⟩⟩⟩
      clear c1 c2 hs
      go_enter Tryd.func65, Tryd.ntmps65
      go_wp2_with (first | (go_at_call 72; refine HC.out.mono ?_; rintro e w' ⟨rfl, pos, rfl⟩) | (go_at_call 70; refine (impl_oddRune.calls _ _ _ HO.out (HT.out.below (B1.out _))).mono ?_; rintro e w1 ⟨rfl, hb⟩))
      all_goals (
       go_ret
       exact ⟨by rw [hr.out]; rfl, below_step (B1.out _) hb⟩)
    · have c2b : decide ((q : Int) ≤ 12) = false := decide_eq_false (by omega)
      have c2c : decide (q ≤ 12) = false := decide_eq_false (by omega)
      have hr : Aside0 (r = false) := ⟨by rw [← HR.out]; exact decide_eq_false (fun h => c2 h.2.1)⟩
      clear c1 c2 hs
      go_enter Tryd.func65, Tryd.ntmps65
      go_wp2_with (first | (go_at_call 72; refine HC.out.mono ?_; rintro e w' ⟨rfl, pos, rfl⟩))
      go_ret
      exact ⟨by rw [hr.out]; rfl, B1.out _⟩
  · have c1b : decide ((1 : Int) ≤ (q : Int)) = false := decide_eq_false (by omega)
    have c1c : decide (1 ≤ q) = false := decide_eq_false (by omega)
    have hr : Aside0 (r = false) := ⟨by rw [← HR.out]; exact decide_eq_false (fun h => c1 h.1)⟩
    clear c1 hs
    go_enter Tryd.func65, Tryd.ntmps65
    go_wp2_with (first | (go_at_call 72; refine HC.out.mono ?_; rintro e w' ⟨rfl, pos, rfl⟩))
    go_ret
    exact ⟨by rw [hr.out]; rfl, B1.out _⟩
end Go.Proofs.YtdihodboopeakaaDoor.Pr
