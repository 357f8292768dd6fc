-- Joined and pruned by wip/tools/prune.py out of this session's own texts (Pr21)
import Derived.Test.YtdihodboopeakaaDoorZwp9
-- Written by this session's own print (wip/tools/mkmp.py) out of the translation. Lean checks it.
namespace Go.Proofs.YtdihodboopeakaaDoor.Pr
open Go.RowKit Go.Proofs.YtdihodboopeakaaDoorW.PrintWords Go.Proofs.YtdihodboopeakaaDoorW.PrintLast Go.Proofs.YtdihodboopeakaaDoorW.PrintMore
attribute [local go_sem] max2_int min2_int max_two min_two max_three min_three max_four min_four   -- for this text's walks alone
set_option linter.unusedVariables false
set_option linter.unusedSimpArgs false

set_option maxHeartbeats 8000000 in
set_option maxRecDepth 100000 in
theorem spec_l22Safe.calls (k : Nat) (A0_0 : Option Addr) (c0_0 : Nat) (l0_0 : List ByteArray) (A0_1 : Option Addr) (c0_1 : Nat) (l0_1 : List Bool) (A0_2 : Option Addr) (c0_2 : Nat) (l0_2 : List (List Int)) (A1_0 : Option Addr) (c1_0 : Nat) (l1_0 : List ByteArray) (A1_1 : Option Addr) (c1_1 : Nat) (l1_1 : List ByteArray) (P2_ : Nat → Prop) (u9000_ : Value) (l2 : List Int) (r : List Int) (w0 w : World) (hB : Below w0.heap.size w0 w) (hr0_0 : ∀ W_, Kept w W_ (fun k_ => P2_ k_) → Kd.C Kd.string W_ A0_0 l0_0.length l0_0) (hc0_0 : l0_0.length ≤ c0_0) (hr0_1 : ∀ W_, Kept w W_ (fun k_ => P2_ k_) → Kd.C Kd.bool W_ A0_1 l0_1.length l0_1) (hc0_1 : l0_1.length ≤ c0_1) (hr0_2 : ∀ W_, Kept w W_ (fun k_ => P2_ k_) → Kd.C (Kd.slice 3 (Kd.int .i64)) W_ A0_2 l0_2.length l0_2) (hc0_2 : l0_2.length ≤ c0_2) (hr1_0 : ∀ W_, Kept w W_ (fun k_ => P2_ k_) → Kd.C Kd.string W_ A1_0 l1_0.length l1_0) (hc1_0 : l1_0.length ≤ c1_0) (hr1_1 : ∀ W_, Kept w W_ (fun k_ => P2_ k_) → Kd.C Kd.string W_ A1_1 l1_1.length l1_1) (hc1_1 : l1_1.length ≤ c1_1) (ho2 : Kd.R (Kd.int .i64) 3 w w0.heap.size P2_ u9000_ l2) (h : spec_l22Safe.f k l0_0 l0_1 l0_2 l1_0 l1_1 l2 = some r) :
   Calls Tryd.prog 88 #[.agg #[.slice A0_0 l0_0.length c0_0, .slice A0_1 l0_1.length c0_1, .slice A0_2 l0_2.length c0_2], .agg #[.slice A1_0 l1_0.length c1_0, .slice A1_1 l1_1.length c1_1], u9000_] w fun e w' => e = .returned (.tuple #[]) ∧ Kd.R (Kd.int .i64) 3 w' w0.heap.size (fun k_ => (P2_ k_ ∨ w.heap.size ≤ k_)) u9000_ r ∧ Below w0.heap.size w0 w' ∧ Kept w w' (fun k_ => P2_ k_) := by
  have hu34 := Tryd.underlying34
  have hu36 := Tryd.underlying36
  have HR0_0 := Aside0.mk hr0_0
  have HC0_0 := Aside0.mk hc0_0
  clear hr0_0 hc0_0
  have HR0_1 := Aside0.mk hr0_1
  have HC0_1 := Aside0.mk hc0_1
  clear hr0_1 hc0_1
  have HR0_2 := Aside0.mk hr0_2
  have HC0_2 := Aside0.mk hc0_2
  clear hr0_2 hc0_2
  have HR1_0 := Aside0.mk hr1_0
  have HC1_0 := Aside0.mk hc1_0
  clear hr1_0 hc1_0
  have HR1_1 := Aside0.mk hr1_1
  have HC1_1 := Aside0.mk hc1_1
  clear hr1_1 hc1_1
  have HO2 := Aside0.mk (show Kd.R (Kd.int .i64) 3 w w0.heap.size (fun k_ => (P2_ k_ ∨ w.heap.size ≤ k_)) u9000_ l2 from Kd.R_mono ho2 (fun k_ hk => (.inl hk)))
  have HK := Aside0.mk (Kept.refl w (fun k_ => P2_ k_))
  have HW0 := Aside0.mk hB.size
  have HB := Aside0.mk hB
  clear hB
  have H : (spec_l22Safe.l0 k l2 l0_0 (l0_0.length : Int) 0 l0_0 l0_1 l0_2 l1_0 l1_1) = some r := h
  clear h
  have H' := Aside0.mk H
  clear H
  go_enter Tryd.func88, Tryd.ntmps88
  go_wp2_with (first | ((with_reducible refine gate_dst (N := 3) rfl ?_); (try (refine gate_guard (by rfl) ?_; dsimp only)); refine box_event ?hg (N := 3) ?hd (cs := #[.slice A0_0 l0_0.length c0_0, .slice A0_1 l0_1.length c0_1, .slice A0_2 l0_2.length c0_2]) (t := 34) ?hr ?_; (case hd => rfl); (case hg => rfl); (case hr => first | (go_simp; done) | (go_simp; rfl)); intro gb339 hg w4 hbox hb; have n0_ := Aside0.mk (Kd.R_below (ra_ HO2.out) hb); have n1_ := Aside0.mk (Kept.below (S := (fun k_ => P2_ k_)) (by repeat (first | (with_reducible first | exact HK.out | apply Kept.alloc | apply Kept.drewN | apply Kept.drew) | exact HK.out)) hb); have n2_ := Aside0.mk (below_step hb_ hb); have n3_ := Aside0.mk (hbox); have n4_ := Aside0.mk ((by rw [hg]; exact (by first | exact HK.out.1 | exact (show Kept w _ (fun k_ => P2_ k_) from by repeat (first | (with_reducible first | exact HK.out | apply Kept.alloc | apply Kept.drewN | apply Kept.drew) | exact HK.out)).1) : w.heap.size ≤ gb339)); have n5_ : Aside0 (w0.heap.size ≤ gb339) := gz_; clear HO2; clear HK; clear HB; have HO2 := n0_; have HK := n1_; have HB := n2_; have BK339 := n3_; have GW339 := n4_; have GE339 := n5_; clear n0_ n1_ n2_ n3_ n4_ n5_; clear hb hbox hg) | ((with_reducible refine gate_dst (N := 4) rfl ?_); (try (refine gate_guard (by rfl) ?_; dsimp only)); refine box_event ?hg (N := 4) ?hd (cs := #[.slice A1_0 l1_0.length c1_0, .slice A1_1 l1_1.length c1_1]) (t := 36) ?hr ?_; (case hd => rfl); (case hg => rfl); (case hr => first | (go_simp; done) | (go_simp; rfl)); intro gb340 hg w5 hbox hb; have n0_ := Aside0.mk (Kd.R_below (ra_ HO2.out) hb); have n1_ := bb_ BK339 hb; have n2_ := Aside0.mk (Kept.below (S := (fun k_ => P2_ k_)) (by repeat (first | (with_reducible first | exact HK.out | apply Kept.alloc | apply Kept.drewN | apply Kept.drew | refine Kept.setCell ?_ (.inr GW339.out) _) | exact HK.out)) hb); have n3_ := Aside0.mk (below_step hb_ hb); have n4_ := Aside0.mk (hbox); have n5_ := Aside0.mk ((by rw [hg]; exact (by first | exact HK.out.1 | exact (show Kept w _ (fun k_ => P2_ k_) from by repeat (first | (with_reducible first | exact HK.out | apply Kept.alloc | apply Kept.drewN | apply Kept.drew | refine Kept.setCell ?_ (.inr GW339.out) _) | exact HK.out)).1) : w.heap.size ≤ gb340)); have n6_ : Aside0 (w0.heap.size ≤ gb340) := gz_; have n7_ := Aside0.mk ((by rw [hg]; exact Nat.ne_of_lt (blk_lt (g := gb339) (o := .cells #[.slice A0_0 l0_0.length c0_0, .slice A0_1 l0_1.length c0_1, .slice A0_2 l0_2.length c0_2] 34 (0, 0)) (bk_ BK339.out)) : gb339 ≠ gb340)); have n8_ := Aside0.mk ((by rw [hg]; exact Nat.ne_of_gt (blk_lt (g := gb339) (o := .cells #[.slice A0_0 l0_0.length c0_0, .slice A0_1 l0_1.length c0_1, .slice A0_2 l0_2.length c0_2] 34 (0, 0)) (bk_ BK339.out)) : gb340 ≠ gb339)); clear HO2; clear BK339; clear HK; clear HB; have HO2 := n0_; have BK339 := n1_; have HK := n2_; have HB := n3_; have BK340 := n4_; have GW340 := n5_; have GE340 := n6_; have NB339_340 := n7_; have NB340_339 := n8_; clear n0_ n1_ n2_ n3_ n4_ n5_ n6_ n7_ n8_; clear hb hbox hg; have hnb6 := NB339_340.out; have hnc6 := NB340_339.out; have hcz7_0 : w5.cell? ⟨gb339, 0, none⟩ = some (.slice A0_0 l0_0.length c0_0) := (blk_cell BK339.out 0).trans rfl; have hcz7_1 : w5.cell? ⟨gb339, 1, none⟩ = some (.slice A0_1 l0_1.length c0_1) := (blk_cell BK339.out 1).trans rfl; have hcz7_2 : w5.cell? ⟨gb339, 2, none⟩ = some (.slice A0_2 l0_2.length c0_2) := (blk_cell BK339.out 2).trans rfl; have hfz7_0 := blk_frozen BK339.out 0; have hfz7_1 := blk_frozen BK339.out 1; have hfz7_2 := blk_frozen BK339.out 2))
  go_loopg [17] k (fun kq v17 w' => ∃ (x2_1 : List Int) (x17_1 : Int), v17 = .int .i64 x17_1 ∧ Aside0 (spec_l22Safe.l0 kq x2_1 l0_0 (l0_0.length : Int) x17_1 l0_0 l0_1 l0_2 l1_0 l1_1 = some r) ∧ Aside0 (kq ≤ k) ∧ Aside0 (Kd.R (Kd.int .i64) 3 w' w0.heap.size (fun k_ => (P2_ k_ ∨ w.heap.size ≤ k_)) u9000_ x2_1) ∧ Aside0 (w'.heap[gb339]? = some (.cells #[(.slice A0_0 l0_0.length c0_0), (.slice A0_1 l0_1.length c0_1), (.slice A0_2 l0_2.length c0_2)] 34 (0, 0))) ∧ Aside0 (w'.heap[gb340]? = some (.cells #[(.slice A1_0 l1_0.length c1_0), (.slice A1_1 l1_1.length c1_1)] 36 (0, 0))) ∧ Aside0 (Kept w w' (fun k_ => P2_ k_)) ∧ Aside0 (Below w0.heap.size w0 w'))
  case atStart => exact ⟨(l2), (0), es_, H', ⟨Nat.le_refl _⟩, ⟨ra_ HO2.out⟩, ⟨bk_ BK339.out⟩, ⟨bk_ BK340.out⟩, ⟨by repeat (first | (with_reducible first | exact HK.out | apply Kept.alloc | apply Kept.drewN | apply Kept.drew | refine Kept.setCell ?_ (.inr GW339.out) _ | refine Kept.setCell ?_ (.inr GW340.out) _) | exact HK.out)⟩, ⟨hb_⟩⟩
  case round =>
   clear H'
   obtain ⟨x2_1, x17_1, rfl, HA, HK1, HO_2, BK339, BK340, HK, HB⟩ := hrel
   cases gk with
   | zero => exact absurd HA.out (by simp [spec_l22Safe.l0])
   | succ k1 =>
    have H := HA.out
    clear HA
    simp only [spec_l22Safe.l0] at H
    by_cases c8 : x17_1 < (l0_0.length : Int)
    ·rw [if_pos c8] at H
     have c8b0 : decide (x17_1 < (l0_0.length : Int)) = true := decide_eq_true c8
     clear c8
     by_cases c9 : 0 ≤ x17_1
     ·rw [if_pos c9] at H
      have c9b0 : decide (0 ≤ x17_1) = true := decide_eq_true c9
      clear c9
      by_cases c10 : x17_1 < (l0_0.length : Int)
      ·rw [if_pos c10] at H
       have c10b0 : decide (x17_1 < (l0_0.length : Int)) = true := decide_eq_true c10
       clear c10
       replace H := Option.bind_eq_some_iff.mp H
       obtain ⟨t342, A110, H⟩ := H
       replace H : (if t342 = true then (if x17_1 < (x2_1.length : Int) then (spec_l22Safe.l0 k1 (x2_1.set (x17_1 : Int).toNat (-1)) l0_0 (l0_0.length : Int) (wrap64 (x17_1 + 1)) l0_0 l0_1 l0_2 l1_0 l1_1) else (none)) else (spec_l22Safe.l0 k1 x2_1 l0_0 (l0_0.length : Int) (wrap64 (x17_1 + 1)) l0_0 l0_1 l0_2 l1_0 l1_1)) = some r := H
       have A11 := Aside0.mk A110
       clear A110
       by_cases c12 : t342 = true
       ·subst c12
        rw [if_pos rfl] at H
        by_cases c13 : x17_1 < (x2_1.length : Int)
        ·rw [if_pos c13] at H
         have c13b0 : decide (x17_1 < (x2_1.length : Int)) = true := decide_eq_true c13
         clear c13
         obtain ⟨y343, hy343⟩ : ∃ y_ : List Int, y_ = (x2_1.set (x17_1 : Int).toNat (-1)) := ⟨_, rfl⟩
         replace H : (spec_l22Safe.l0 k1 y343 l0_0 (l0_0.length : Int) (wrap64 (x17_1 + 1)) l0_0 l0_1 l0_2 l1_0 l1_1) = some r := by first | (rw [hy343]; with_reducible exact H) | (have H2_ := (Option.bind_some _ _).symm.trans H; rw [hy343]; with_reducible exact H2_) | (have H2_ := (Option.bind_some _ _).symm.trans H; with_reducible exact H2_) | with_reducible exact H | (rw [hy343]; exact H) | exact H
         have Ny343 := Aside0.mk hy343
         clear hy343
         have H' := Aside0.mk H
         clear H
         have p341 : 0 ≤ (x17_1 : Int) := of_decide_eq_true as_
         have q341 : x17_1 < (l0_0.length : Int) := of_decide_eq_true as_
         obtain ⟨ad341, e341, hx341_0⟩ := Kd.at_string (Kd.C_kept_now HR0_0.out HK.out) x17_1 p341 q341
         cases e341
         replace p341 := eq_true p341
         replace q341 := eq_true q341
         have hnb15 := NB340_339.out
         have hnc15 := NB339_340.out
         have hcz16_0 : wr.cell? ⟨gb340, 0, none⟩ = some (.slice A1_0 l1_0.length c1_0) := (blk_cell BK340.out 0).trans rfl
         have hcz16_1 : wr.cell? ⟨gb340, 1, none⟩ = some (.slice A1_1 l1_1.length c1_1) := (blk_cell BK340.out 1).trans rfl
         have hfz16_0 := blk_frozen BK340.out 0
         have hfz16_1 := blk_frozen BK340.out 1
         go_wp2_with (first | ((with_reducible refine gate_callee (f := 68) rfl ?_); refine goesL_ (some 25) rfl rfl Tryd.func68 (by kernel_rfl) rfl #[.slice A1_1 l1_1.length c1_1, .string (rdOf ByteArray.empty l0_0 x17_1)] rfl ls_ ?_; (with_reducible refine (spec_l22In.calls k1 _ _ l1_1 (rdOf ByteArray.empty l0_0 x17_1) true _ ?side1 ?side2 A11.out).mono ?_); (case side1 => exact Kd.C_kept_now HR1_1.out (by repeat (first | (with_reducible first | exact HK.out | apply Kept.alloc | apply Kept.drewN | apply Kept.drew | refine Kept.setCell ?_ (.inr GW339.out) _ | refine Kept.setCell ?_ (.inr GW340.out) _) | exact HK.out))); (case side2 => exact HC1_1.out); rintro e w' ⟨rfl, ⟨nd, rfl⟩⟩; refine ⟨_, rfl, ?_⟩; (try (rw [drewN_self wr]; generalize hq_ : World.drewN wr _ = wr; have n0_ := Aside0.mk (Kd.R_at hq_ HO_2.out); have n1_ := Aside0.mk (blk_at hq_ BK339.out); have n2_ := Aside0.mk (blk_at hq_ BK340.out); have n3_ := Aside0.mk (kept_at hq_ HK.out); have n4_ := Aside0.mk (below_at hq_ HB.out); clear hq_ HO_2 BK339 BK340 HK HB; have HO_2 := n0_; have BK339 := n1_; have BK340 := n2_; have HK := n3_; have HB := n4_; clear n0_ n1_ n2_ n3_ n4_)); have p14 : 0 ≤ (x17_1 : Int) := of_decide_eq_true as_; have q14 : (x17_1 : Int) < ((x2_1.length : Int) : Int) := of_decide_eq_true as_; obtain ⟨go14, co14, eo14, gb14, gl14, cl14, HG14⟩ := Kd.R_form HO_2.out (by omega); (first | cases eo14 | (injection eo14 with ea_ en_ ec_; (first | subst ea_ | (injection ea_ with ea_; subst ea_)); subst ec_; clear en_)); have GB14 := Aside0.mk gb14; have GG14 := Aside0.mk HG14; clear gb14 gl14 HG14; have HMgo14 := Aside0.mk (show (P2_ go14 ∨ w.heap.size ≤ go14) from (HO_2.out.1 _ rfl)); obtain ⟨hx14_0, hf14_0⟩ := Kd.R_celln 0 HO_2.out (x17_1 : Int) p14 q14; replace p14 := eq_true p14; replace q14 := eq_true q14; obtain ⟨hy17_, hz17_⟩ := Kd.R_celln 0 HO_2.out (x17_1 : Int) (of_decide_eq_true as_) (of_decide_eq_true as_); have HP17 := Kd.R_putg HO_2.out (x17_1 : Int) (-1)) | ((with_reducible refine gate_store (t := 3) (p := 28) rfl ?_); refine store_event (t := 3) (p := 28) (v := ?vo_w18) (w1 := (wr.setCell ⟨go14, (x17_1 : Int).toNat, none⟩ (.int .i64 (-1)))) ?hg ?ho ?hn ?hr ?_; (case ho => rfl); (case hg => rfl); (case hn => rfl); (case hr => first | (go_simp; done) | (go_simp; rfl)); intro w18 hw; have hg : wr.grownBy w18 (some go14) := (by rw [hw]; exact HP17.2); have hp_ : Kd.R (Kd.int .i64) 3 w18 w0.heap.size (fun k_ => (P2_ k_ ∨ w.heap.size ≤ k_)) (.slice (some ⟨go14, 0, none⟩) x2_1.length co14) y343 := (by rw [hw, Ny343.out]; exact HP17.1); clear HP17; have n0_ := Aside0.mk (hp_); have n1_ := Aside0.mk (blk_grown (g := gb339) (o := .cells #[.slice (some ad341) l0_0.length c0_0, .slice A0_1 l0_1.length c0_1, .slice A0_2 l0_2.length c0_2] 34 (0, 0)) (bk_ BK339.out) hg (Kd.R_ne HO_2.out BK339.out (by decide))); have n2_ := Aside0.mk (blk_grown (g := gb340) (o := .cells #[.slice A1_0 l1_0.length c1_0, .slice A1_1 l1_1.length c1_1] 36 (0, 0)) (bk_ BK340.out) hg (Kd.R_ne HO_2.out BK340.out (by decide))); have n3_ := Aside0.mk ((by rw [hw]; exact below_set (HB.out) GB14.out : Below w0.heap.size w0 w18)); have n4_ := Aside0.mk (Kept.of_grown (S := (fun k_ => P2_ k_)) hg (by repeat (first | (with_reducible first | exact HK.out | apply Kept.alloc | apply Kept.drewN | apply Kept.drew | refine Kept.setCell ?_ (.inr GW339.out) _ | refine Kept.setCell ?_ (.inr GW340.out) _) | exact HK.out)) (fun k_ e_ => (HO_2.out.1 k_ e_))); clear HO_2; clear BK339; clear BK340; clear HB; clear HK; have HO_2 := n0_; have BK339 := n1_; have BK340 := n2_; have HB := n3_; have HK := n4_; clear n0_ n1_ n2_ n3_ n4_; clear hg hw hp_))
         go_roundg k1
         case measure => have := HK1.out; omega
         case rel => exact ⟨(y343), (wrap64 (x17_1 + 1)), es_, H', ⟨by have := HK1.out; omega⟩, ⟨ra_ HO_2.out⟩, ⟨bk_ BK339.out⟩, ⟨bk_ BK340.out⟩, ⟨by repeat (first | (with_reducible first | exact HK.out | apply Kept.alloc | apply Kept.drewN | apply Kept.drew | refine Kept.setCell ?_ (.inr GW339.out) _ | refine Kept.setCell ?_ (.inr GW340.out) _) | exact HK.out)⟩, ⟨hb_⟩⟩
        ·rw [if_neg c13] at H
         exact absurd H (by simp)
       ·replace c12 := Bool.eq_false_iff.mpr c12
        subst c12
        rw [if_neg (show ¬ (false = true) by decide)] at H
        have H' := Aside0.mk H
        clear H
        have p341 : 0 ≤ (x17_1 : Int) := of_decide_eq_true as_
        have q341 : x17_1 < (l0_0.length : Int) := of_decide_eq_true as_
        obtain ⟨ad341, e341, hx341_0⟩ := Kd.at_string (Kd.C_kept_now HR0_0.out HK.out) x17_1 p341 q341
        cases e341
        replace p341 := eq_true p341
        replace q341 := eq_true q341
        have hnb19 := NB340_339.out
        have hnc19 := NB339_340.out
        have hcz20_0 : wr.cell? ⟨gb340, 0, none⟩ = some (.slice A1_0 l1_0.length c1_0) := (blk_cell BK340.out 0).trans rfl
        have hcz20_1 : wr.cell? ⟨gb340, 1, none⟩ = some (.slice A1_1 l1_1.length c1_1) := (blk_cell BK340.out 1).trans rfl
        have hfz20_0 := blk_frozen BK340.out 0
        have hfz20_1 := blk_frozen BK340.out 1
        go_wp2_with (first | ((with_reducible refine gate_callee (f := 68) rfl ?_); refine goesL_ (some 25) rfl rfl Tryd.func68 (by kernel_rfl) rfl #[.slice A1_1 l1_1.length c1_1, .string (rdOf ByteArray.empty l0_0 x17_1)] rfl ls_ ?_; (with_reducible refine (spec_l22In.calls k1 _ _ l1_1 (rdOf ByteArray.empty l0_0 x17_1) false _ ?side1 ?side2 A11.out).mono ?_); (case side1 => exact Kd.C_kept_now HR1_1.out (by repeat (first | (with_reducible first | exact HK.out | apply Kept.alloc | apply Kept.drewN | apply Kept.drew | refine Kept.setCell ?_ (.inr GW339.out) _ | refine Kept.setCell ?_ (.inr GW340.out) _) | exact HK.out))); (case side2 => exact HC1_1.out); rintro e w' ⟨rfl, ⟨nd, rfl⟩⟩; refine ⟨_, rfl, ?_⟩))
        go_roundg k1
        case measure => have := HK1.out; omega
        case rel => exact ⟨(x2_1), (wrap64 (x17_1 + 1)), es_, H', ⟨by have := HK1.out; omega⟩, ⟨ra_ HO_2.out⟩, ⟨bk_ BK339.out⟩, ⟨bk_ BK340.out⟩, ⟨by repeat (first | (with_reducible first | exact HK.out | apply Kept.alloc | apply Kept.drewN | apply Kept.drew | refine Kept.setCell ?_ (.inr GW339.out) _ | refine Kept.setCell ?_ (.inr GW340.out) _) | exact HK.out)⟩, ⟨hb_⟩⟩
      ·rw [if_neg c10] at H
       exact absurd H (by simp)
     ·rw [if_neg c9] at H
      exact absurd H (by simp)
    ·rw [if_neg c8] at H
     have c8b0 : decide (x17_1 < (l0_0.length : Int)) = false := decide_eq_false c8
     clear c8
     have H' := Aside0.mk H
     clear H
     obtain ⟨Ao21, co21, eo21⟩ := Kd.R_slice HO_2.out
     subst eo21
     go_wp2
     go_loopg [32] k1 (fun kq v32 w' => ∃ (x2_2 : List Int) (x32_2 : Int), v32 = .int .i64 x32_2 ∧ Aside0 (spec_l22Safe.l1 kq x2_2 (x2_1.length : Int) x32_2 l0_0 l0_1 l0_2 = some r) ∧ Aside0 (kq ≤ k1) ∧ Aside0 (Kd.R (Kd.int .i64) 3 w' w0.heap.size (fun k_ => (P2_ k_ ∨ w.heap.size ≤ k_)) (.slice Ao21 x2_1.length co21) x2_2) ∧ Aside0 (w'.heap[gb339]? = some (.cells #[(.slice A0_0 l0_0.length c0_0), (.slice A0_1 l0_1.length c0_1), (.slice A0_2 l0_2.length c0_2)] 34 (0, 0))) ∧ Aside0 (w'.heap[gb340]? = some (.cells #[(.slice A1_0 l1_0.length c1_0), (.slice A1_1 l1_1.length c1_1)] 36 (0, 0))) ∧ Aside0 (Kept w w' (fun k_ => P2_ k_)) ∧ Aside0 (Below w0.heap.size w0 w'))
     case atStart => exact ⟨(x2_1), (0), es_, H', ⟨Nat.le_refl _⟩, ⟨ra_ HO_2.out⟩, ⟨bk_ BK339.out⟩, ⟨bk_ BK340.out⟩, ⟨by repeat (first | (with_reducible first | exact HK.out | apply Kept.alloc | apply Kept.drewN | apply Kept.drew | refine Kept.setCell ?_ (.inr GW339.out) _ | refine Kept.setCell ?_ (.inr GW340.out) _) | exact HK.out)⟩, ⟨hb_⟩⟩
     case round =>
      clear H'
      obtain ⟨x2_2, x32_2, rfl, HA, HK2, HO_2, BK339, BK340, HK, HB⟩ := hrel
      have hl2_2 := (Kd.R_reads' HO_2.out).1
      rw [hl2_2] at HO_2
      (try simp only [hl2_2])
      (try simp only [hl2_2] at BK339)
      (try simp only [hl2_2] at BK340)
      cases gk with
      | zero => exact absurd HA.out (by simp [spec_l22Safe.l1])
      | succ k2 =>
       have H := HA.out
       clear HA
       simp only [spec_l22Safe.l1] at H
       by_cases c22 : x32_2 < (x2_1.length : Int)
       ·rw [if_pos c22] at H
        have c22b0 : decide (x32_2 < (x2_1.length : Int)) = true := decide_eq_true c22
        (try simp only [hl2_2] at c22b0)
        clear c22
        have H' := Aside0.mk H
        clear H
        go_wp2
        go_loopg [38] k2 (fun kq v38 w' => ∃ (x2_3 : List Int) (x38_3 : Int), v38 = .int .i64 x38_3 ∧ Aside0 (spec_l22Safe.l2 kq x2_3 (x2_1.length : Int) x32_2 (x2_2.length : Int) x38_3 l0_0 l0_1 l0_2 = some r) ∧ Aside0 (kq ≤ k2) ∧ Aside0 (Kd.R (Kd.int .i64) 3 w' w0.heap.size (fun k_ => (P2_ k_ ∨ w.heap.size ≤ k_)) (.slice Ao21 x2_2.length co21) x2_3) ∧ Aside0 (w'.heap[gb339]? = some (.cells #[(.slice A0_0 l0_0.length c0_0), (.slice A0_1 l0_1.length c0_1), (.slice A0_2 l0_2.length c0_2)] 34 (0, 0))) ∧ Aside0 (w'.heap[gb340]? = some (.cells #[(.slice A1_0 l1_0.length c1_0), (.slice A1_1 l1_1.length c1_1)] 36 (0, 0))) ∧ Aside0 (Kept w w' (fun k_ => P2_ k_)) ∧ Aside0 (Below w0.heap.size w0 w'))
        case atStart => exact ⟨(x2_2), (0), es_, H', ⟨Nat.le_refl _⟩, ⟨by (try simp only [hl2_2]); (with_reducible repeat (first | apply Kd.R_alloc | apply Kd.R_drewN | apply Kd.R_drew)); exact HO_2.out⟩, ⟨by (try simp only [hl2_2]); (with_reducible repeat (first | refine blk_drewN ?_ _ | refine blk_drew ?_ | refine blk_alloc ?_ _)); exact BK339.out⟩, ⟨by (try simp only [hl2_2]); (with_reducible repeat (first | refine blk_drewN ?_ _ | refine blk_drew ?_ | refine blk_alloc ?_ _)); exact BK340.out⟩, ⟨by repeat (first | (with_reducible first | exact HK.out | apply Kept.alloc | apply Kept.drewN | apply Kept.drew | refine Kept.setCell ?_ (.inr GW339.out) _ | refine Kept.setCell ?_ (.inr GW340.out) _) | exact HK.out)⟩, ⟨hb_⟩⟩
        case round =>
         clear H'
         obtain ⟨x2_3, x38_3, rfl, HA, HK3, HO_2, BK339, BK340, HK, HB⟩ := hrel
         have hl2_3 := (Kd.R_reads' HO_2.out).1
         rw [hl2_3] at HO_2
         (try simp only [hl2_3])
         (try simp only [hl2_3] at BK339)
         (try simp only [hl2_3] at BK340)
         cases gk with
         | zero => exact absurd HA.out (by simp [spec_l22Safe.l2])
         | succ k3 =>
          have H := HA.out
          clear HA
          simp only [spec_l22Safe.l2] at H
          by_cases c23 : x38_3 < (x2_2.length : Int)
          ·rw [if_pos c23] at H
           have c23b0 : decide (x38_3 < (x2_2.length : Int)) = true := decide_eq_true c23
           (try simp only [hl2_2] at c23b0)
           (try simp only [hl2_3] at c23b0)
           clear c23
           have HC24 := Aside0.mk H
           clear H
           go_upto_region 14 with (fail)
           go_cut [54] (fun v54 wc => ∃ (kq : Nat) (x54_23 : Bool), v54 = .bool x54_23 ∧ Aside0 (spec_l22Safe.j3 kq x2_3 x38_3 (x2_1.length : Int) x32_2 (x2_2.length : Int) x38_3 x54_23 l0_0 l0_1 l0_2 = some r) ∧ Aside0 (kq ≤ k3) ∧ Aside0 (Kd.R (Kd.int .i64) 3 wc w0.heap.size (fun k_ => (P2_ k_ ∨ w.heap.size ≤ k_)) (.slice Ao21 x2_3.length co21) x2_3) ∧ Aside0 (wc.heap[gb339]? = some (.cells #[(.slice A0_0 l0_0.length c0_0), (.slice A0_1 l0_1.length c0_1), (.slice A0_2 l0_2.length c0_2)] 34 (0, 0))) ∧ Aside0 (wc.heap[gb340]? = some (.cells #[(.slice A1_0 l1_0.length c1_0), (.slice A1_1 l1_1.length c1_1)] 36 (0, 0))) ∧ Aside0 (Kept w wc (fun k_ => P2_ k_)) ∧ Aside0 (Below w0.heap.size w0 wc))
           case first =>
            have H := HC24.out
            clear HC24
            by_cases c25 : 0 ≤ x38_3
            ·rw [if_pos c25] at H
             have c25b0 : decide (0 ≤ x38_3) = true := decide_eq_true c25
             clear c25
             (first | rw [c25b0] | (simp only [i64_w, i32_w]; rw [c25b0]) | skip)
             by_cases c26 : x38_3 < (x2_3.length : Int)
             ·rw [if_pos c26] at H
              have c26b0 : decide (x38_3 < (x2_3.length : Int)) = true := decide_eq_true c26
              (try simp only [hl2_2] at c26b0)
              (try simp only [hl2_3] at c26b0)
              clear c26
              by_cases c27 : (rd x2_3 x38_3) < 0
              ·rw [if_pos c27] at H
               have c27b0 : decide ((rd x2_3 x38_3) < 0) = true := decide_eq_true c27
               clear c27
               have H' := Aside0.mk H
               clear H
               have p344 : 0 ≤ (x38_3 : Int) := of_decide_eq_true as_
               have q344 : x38_3 < (x2_3.length : Int) := of_decide_eq_true as_
               obtain ⟨ad344, e344, hx344_0⟩ := Kd.at_int (Kd.R_reads' HO_2.out).2.2 x38_3 p344 q344
               cases e344
               replace p344 := eq_true p344
               replace q344 := eq_true q344
               go_wp2
               go_meet
               case rel => exact ⟨_, (true), es_, H', ⟨by have := HK1.out; have := HK2.out; have := HK3.out; first | omega | exact Nat.le_refl _⟩, ⟨by (try simp only [hl2_2]); (try simp only [hl2_3]); (with_reducible repeat (first | apply Kd.R_alloc | apply Kd.R_drewN | apply Kd.R_drew)); exact HO_2.out⟩, ⟨by (try simp only [hl2_2]); (try simp only [hl2_3]); (with_reducible repeat (first | refine blk_drewN ?_ _ | refine blk_drew ?_ | refine blk_alloc ?_ _)); exact BK339.out⟩, ⟨by (try simp only [hl2_2]); (try simp only [hl2_3]); (with_reducible repeat (first | refine blk_drewN ?_ _ | refine blk_drew ?_ | refine blk_alloc ?_ _)); exact BK340.out⟩, ⟨by repeat (first | (with_reducible first | exact HK.out | apply Kept.alloc | apply Kept.drewN | apply Kept.drew | refine Kept.setCell ?_ (.inr GW339.out) _ | refine Kept.setCell ?_ (.inr GW340.out) _) | exact HK.out)⟩, ⟨hb_⟩⟩
              ·rw [if_neg c27] at H
               have c27b0 : decide ((rd x2_3 x38_3) < 0) = false := decide_eq_false c27
               clear c27
               by_cases c28 : x38_3 < (l0_2.length : Int)
               ·rw [if_pos c28] at H
                have c28b0 : decide (x38_3 < (l0_2.length : Int)) = true := decide_eq_true c28
                (try simp only [hl2_2] at c28b0)
                (try simp only [hl2_3] at c28b0)
                clear c28
                have H' := Aside0.mk H
                clear H
                have p344 : 0 ≤ (x38_3 : Int) := of_decide_eq_true as_
                have q344 : x38_3 < (x2_3.length : Int) := of_decide_eq_true as_
                obtain ⟨ad344, e344, hx344_0⟩ := Kd.at_int (Kd.R_reads' HO_2.out).2.2 x38_3 p344 q344
                cases e344
                replace p344 := eq_true p344
                replace q344 := eq_true q344
                have hnb29 := NB339_340.out
                have hnc29 := NB340_339.out
                have hcz30_0 : wr.cell? ⟨gb339, 0, none⟩ = some (.slice A0_0 l0_0.length c0_0) := (blk_cell BK339.out 0).trans rfl
                have hcz30_1 : wr.cell? ⟨gb339, 1, none⟩ = some (.slice A0_1 l0_1.length c0_1) := (blk_cell BK339.out 1).trans rfl
                have hcz30_2 : wr.cell? ⟨gb339, 2, none⟩ = some (.slice A0_2 l0_2.length c0_2) := (blk_cell BK339.out 2).trans rfl
                have hfz30_0 := blk_frozen BK339.out 0
                have hfz30_1 := blk_frozen BK339.out 1
                have hfz30_2 := blk_frozen BK339.out 2
                have p345 : 0 ≤ (x38_3 : Int) := of_decide_eq_true as_
                have q345 : x38_3 < (l0_2.length : Int) := of_decide_eq_true as_
                obtain ⟨ad345, A345_0, c345_0, e345, hx345_0, hl345_0, hi345_0⟩ := at_L3 (Kd.C_kept_now HR0_2.out HK.out) x38_3 p345 q345
                cases e345
                have HR345_0 := Aside0.mk hi345_0
                have HC345_0 := Aside0.mk hl345_0
                clear hi345_0 hl345_0
                replace p345 := eq_true p345
                replace q345 := eq_true q345
                go_wp2
                go_meet
                case rel => exact ⟨_, ((((rd_L3 l0_2 x38_3).length : Int) == 0)), es_, H', ⟨by have := HK1.out; have := HK2.out; have := HK3.out; first | omega | exact Nat.le_refl _⟩, ⟨by (try simp only [hl2_2]); (try simp only [hl2_3]); (with_reducible repeat (first | apply Kd.R_alloc | apply Kd.R_drewN | apply Kd.R_drew)); exact HO_2.out⟩, ⟨by (try simp only [hl2_2]); (try simp only [hl2_3]); (with_reducible repeat (first | refine blk_drewN ?_ _ | refine blk_drew ?_ | refine blk_alloc ?_ _)); exact BK339.out⟩, ⟨by (try simp only [hl2_2]); (try simp only [hl2_3]); (with_reducible repeat (first | refine blk_drewN ?_ _ | refine blk_drew ?_ | refine blk_alloc ?_ _)); exact BK340.out⟩, ⟨by repeat (first | (with_reducible first | exact HK.out | apply Kept.alloc | apply Kept.drewN | apply Kept.drew | refine Kept.setCell ?_ (.inr GW339.out) _ | refine Kept.setCell ?_ (.inr GW340.out) _) | exact HK.out)⟩, ⟨hb_⟩⟩
               ·rw [if_neg c28] at H
                exact absurd H (by simp)
             ·rw [if_neg c26] at H
              exact absurd H (by simp)
            ·rw [if_neg c25] at H
             exact absurd H (by simp)
           case rest =>
            clear HC24
            obtain ⟨kq, x54_23, rfl, HA, HJ23, HO_2, BK339, BK340, HK, HB⟩ := hcut
            cases kq with
            | zero => exact absurd HA.out (by simp [spec_l22Safe.j3])
            | succ kj23 =>
             have H := HA.out
             clear HA
             simp only [spec_l22Safe.j3] at H
             by_cases c31 : x54_23 = true
             ·subst c31
              rw [if_pos rfl] at H
              have H' := Aside0.mk H
              clear H
              go_wp2
              (try simp only [← hl2_3])
              go_roundg kj23
              case measure => have := HK1.out; have := HK2.out; have := HK3.out; have := HJ23.out; omega
              case rel => exact ⟨(x2_3), (wrap64 (x38_3 + 1)), es_, H', ⟨by have := HK1.out; have := HK2.out; have := HK3.out; have := HJ23.out; omega⟩, ⟨by (try simp only [hl2_2]); (try simp only [hl2_3]); (with_reducible repeat (first | apply Kd.R_alloc | apply Kd.R_drewN | apply Kd.R_drew)); exact HO_2.out⟩, ⟨by (try simp only [hl2_2]); (try simp only [hl2_3]); (with_reducible repeat (first | refine blk_drewN ?_ _ | refine blk_drew ?_ | refine blk_alloc ?_ _)); exact BK339.out⟩, ⟨by (try simp only [hl2_2]); (try simp only [hl2_3]); (with_reducible repeat (first | refine blk_drewN ?_ _ | refine blk_drew ?_ | refine blk_alloc ?_ _)); exact BK340.out⟩, ⟨by repeat (first | (with_reducible first | exact HK.out | apply Kept.alloc | apply Kept.drewN | apply Kept.drew | refine Kept.setCell ?_ (.inr GW339.out) _ | refine Kept.setCell ?_ (.inr GW340.out) _) | exact HK.out)⟩, ⟨hb_⟩⟩
             ·replace c31 := Bool.eq_false_iff.mpr c31
              subst c31
              rw [if_neg (show ¬ (false = true) by decide)] at H
              by_cases c32 : 0 ≤ x38_3
              ·rw [if_pos c32] at H
               have c32b0 : decide (0 ≤ x38_3) = true := decide_eq_true c32
               clear c32
               by_cases c33 : x38_3 < (l0_2.length : Int)
               ·rw [if_pos c33] at H
                have c33b0 : decide (x38_3 < (l0_2.length : Int)) = true := decide_eq_true c33
                (try simp only [hl2_2] at c33b0)
                (try simp only [hl2_3] at c33b0)
                clear c33
                have H' := Aside0.mk H
                clear H
                have hnb34 := NB339_340.out
                have hnc34 := NB340_339.out
                have hcz35_0 : wc.cell? ⟨gb339, 0, none⟩ = some (.slice A0_0 l0_0.length c0_0) := (blk_cell BK339.out 0).trans rfl
                have hcz35_1 : wc.cell? ⟨gb339, 1, none⟩ = some (.slice A0_1 l0_1.length c0_1) := (blk_cell BK339.out 1).trans rfl
                have hcz35_2 : wc.cell? ⟨gb339, 2, none⟩ = some (.slice A0_2 l0_2.length c0_2) := (blk_cell BK339.out 2).trans rfl
                have hfz35_0 := blk_frozen BK339.out 0
                have hfz35_1 := blk_frozen BK339.out 1
                have hfz35_2 := blk_frozen BK339.out 2
                have p346 : 0 ≤ (x38_3 : Int) := of_decide_eq_true as_
                have q346 : x38_3 < (l0_2.length : Int) := of_decide_eq_true as_
                obtain ⟨ad346, A346_0, c346_0, e346, hx346_0, hl346_0, hi346_0⟩ := at_L3 (Kd.C_kept_now HR0_2.out HK.out) x38_3 p346 q346
                cases e346
                have HR346_0 := Aside0.mk hi346_0
                have HC346_0 := Aside0.mk hl346_0
                clear hi346_0 hl346_0
                replace p346 := eq_true p346
                replace q346 := eq_true q346
                go_wp2
                go_loopg [10, 11, 61] kj23 (fun kq v10 v11 v61 w' => ∃ (x10_5 : Bool) (x11_5 : Bool) (x61_5 : Int), v10 = .bool x10_5 ∧ v11 = .bool x11_5 ∧ v61 = .int .i64 x61_5 ∧ Aside0 (spec_l22Safe.l3 kq x2_3 x38_3 x10_5 x11_5 (x2_1.length : Int) x32_2 (x2_2.length : Int) x38_3 (rd_L3 l0_2 x38_3) ((rd_L3 l0_2 x38_3).length : Int) x61_5 l0_0 l0_1 l0_2 = some r) ∧ Aside0 (kq ≤ kj23) ∧ Aside0 (Kd.R (Kd.int .i64) 3 w' w0.heap.size (fun k_ => (P2_ k_ ∨ w.heap.size ≤ k_)) (.slice Ao21 x2_3.length co21) x2_3) ∧ Aside0 (w'.heap[gb339]? = some (.cells #[(.slice A0_0 l0_0.length c0_0), (.slice A0_1 l0_1.length c0_1), (.slice (some ad346) l0_2.length c0_2)] 34 (0, 0))) ∧ Aside0 (w'.heap[gb340]? = some (.cells #[(.slice A1_0 l1_0.length c1_0), (.slice A1_1 l1_1.length c1_1)] 36 (0, 0))) ∧ Aside0 (Kd.C (Kd.int .i64) w' A346_0 (rd_L3 l0_2 x38_3).length (rd_L3 l0_2 x38_3)) ∧ Aside0 (Kept w w' (fun k_ => P2_ k_)) ∧ Aside0 (Below w0.heap.size w0 w'))
                case atStart => exact ⟨(false), (true), (0), es_, es_, es_, H', ⟨Nat.le_refl _⟩, ⟨by (try simp only [hl2_2]); (try simp only [hl2_3]); (with_reducible repeat (first | apply Kd.R_alloc | apply Kd.R_drewN | apply Kd.R_drew)); exact HO_2.out⟩, ⟨by (try simp only [hl2_2]); (try simp only [hl2_3]); (with_reducible repeat (first | refine blk_drewN ?_ _ | refine blk_drew ?_ | refine blk_alloc ?_ _)); exact BK339.out⟩, ⟨by (try simp only [hl2_2]); (try simp only [hl2_3]); (with_reducible repeat (first | refine blk_drewN ?_ _ | refine blk_drew ?_ | refine blk_alloc ?_ _)); exact BK340.out⟩, ⟨by repeat (first | (with_reducible exact HR346_0.out) | (with_reducible refine Kd.C_alloc ?_ _) | (with_reducible refine Kd.C_drewN ?_ _) | (with_reducible refine Kd.C_drew ?_) | exact HR346_0.out)⟩, ⟨by repeat (first | (with_reducible first | exact HK.out | apply Kept.alloc | apply Kept.drewN | apply Kept.drew | refine Kept.setCell ?_ (.inr GW339.out) _ | refine Kept.setCell ?_ (.inr GW340.out) _) | exact HK.out)⟩, ⟨hb_⟩⟩
                case round =>
                 clear H'
                 obtain ⟨x10_5, x11_5, x61_5, rfl, rfl, rfl, HA, HK5, HO_2, BK339, BK340, HR346_0, HK, HB⟩ := hrel
                 cases gk with
                 | zero => exact absurd HA.out (by simp [spec_l22Safe.l3])
                 | succ k5 =>
                  have H := HA.out
                  clear HA
                  simp only [spec_l22Safe.l3] at H
                  by_cases c36 : x61_5 < ((rd_L3 l0_2 x38_3).length : Int)
                  ·rw [if_pos c36] at H
                   have c36b0 : decide (x61_5 < ((rd_L3 l0_2 x38_3).length : Int)) = true := decide_eq_true c36
                   (try simp only [hl2_2] at c36b0)
                   (try simp only [hl2_3] at c36b0)
                   clear c36
                   by_cases c37 : 0 ≤ x61_5
                   ·rw [if_pos c37] at H
                    have c37b0 : decide (0 ≤ x61_5) = true := decide_eq_true c37
                    clear c37
                    by_cases c38 : x61_5 < ((rd_L3 l0_2 x38_3).length : Int)
                    ·rw [if_pos c38] at H
                     have c38b0 : decide (x61_5 < ((rd_L3 l0_2 x38_3).length : Int)) = true := decide_eq_true c38
                     (try simp only [hl2_2] at c38b0)
                     (try simp only [hl2_3] at c38b0)
                     clear c38
                     by_cases c39 : x10_5 = true
                     ·subst c39
                      rw [if_pos rfl] at H
                      by_cases c40 : x11_5 = true
                      ·subst c40
                       rw [if_pos rfl] at H
                       by_cases c41 : 0 ≤ (rd (rd_L3 l0_2 x38_3) x61_5)
                       ·rw [if_pos c41] at H
                        have c41b0 : decide (0 ≤ (rd (rd_L3 l0_2 x38_3) x61_5)) = true := decide_eq_true c41
                        clear c41
                        by_cases c42 : (rd (rd_L3 l0_2 x38_3) x61_5) < (x2_3.length : Int)
                        ·rw [if_pos c42] at H
                         have c42b0 : decide ((rd (rd_L3 l0_2 x38_3) x61_5) < (x2_3.length : Int)) = true := decide_eq_true c42
                         (try simp only [hl2_2] at c42b0)
                         (try simp only [hl2_3] at c42b0)
                         clear c42
                         have H' := Aside0.mk H
                         clear H
                         have p347 : 0 ≤ (x61_5 : Int) := of_decide_eq_true as_
                         have q347 : x61_5 < ((rd_L3 l0_2 x38_3).length : Int) := of_decide_eq_true as_
                         obtain ⟨ad347, e347, hx347_0⟩ := Kd.at_int HR346_0.out x61_5 p347 q347
                         cases e347
                         (try replace hx347_0 := hc_ HB hx347_0)
                         replace p347 := eq_true p347
                         replace q347 := eq_true q347
                         have p348 : 0 ≤ ((rd (rd_L3 l0_2 x38_3) x61_5) : Int) := of_decide_eq_true as_
                         have q348 : (rd (rd_L3 l0_2 x38_3) x61_5) < (x2_3.length : Int) := of_decide_eq_true as_
                         obtain ⟨ad348, e348, hx348_0⟩ := Kd.at_int (Kd.R_reads' HO_2.out).2.2 (rd (rd_L3 l0_2 x38_3) x61_5) p348 q348
                         cases e348
                         replace p348 := eq_true p348
                         replace q348 := eq_true q348
                         go_wp2
                         go_roundg k5
                         case measure => have := HK1.out; have := HK2.out; have := HK3.out; have := HJ23.out; have := HK5.out; omega
                         case rel => exact ⟨(true), (decide ((rd x2_3 (rd (rd_L3 l0_2 x38_3) x61_5)) ≥ 0)), (wrap64 (x61_5 + 1)), es_, es_, es_, H', ⟨by have := HK1.out; have := HK2.out; have := HK3.out; have := HJ23.out; have := HK5.out; omega⟩, ⟨by (try simp only [hl2_2]); (try simp only [hl2_3]); (with_reducible repeat (first | apply Kd.R_alloc | apply Kd.R_drewN | apply Kd.R_drew)); exact HO_2.out⟩, ⟨by (try simp only [hl2_2]); (try simp only [hl2_3]); (with_reducible repeat (first | refine blk_drewN ?_ _ | refine blk_drew ?_ | refine blk_alloc ?_ _)); exact BK339.out⟩, ⟨by (try simp only [hl2_2]); (try simp only [hl2_3]); (with_reducible repeat (first | refine blk_drewN ?_ _ | refine blk_drew ?_ | refine blk_alloc ?_ _)); exact BK340.out⟩, ⟨by repeat (first | (with_reducible exact HR346_0.out) | (with_reducible refine Kd.C_alloc ?_ _) | (with_reducible refine Kd.C_drewN ?_ _) | (with_reducible refine Kd.C_drew ?_) | exact HR346_0.out)⟩, ⟨by repeat (first | (with_reducible first | exact HK.out | apply Kept.alloc | apply Kept.drewN | apply Kept.drew | refine Kept.setCell ?_ (.inr GW339.out) _ | refine Kept.setCell ?_ (.inr GW340.out) _) | exact HK.out)⟩, ⟨hb_⟩⟩
                        ·rw [if_neg c42] at H
                         exact absurd H (by simp)
                       ·rw [if_neg c41] at H
                        exact absurd H (by simp)
                      ·replace c40 := Bool.eq_false_iff.mpr c40
                       subst c40
                       rw [if_neg (show ¬ (false = true) by decide)] at H
                       have H' := Aside0.mk H
                       clear H
                       have p347 : 0 ≤ (x61_5 : Int) := of_decide_eq_true as_
                       have q347 : x61_5 < ((rd_L3 l0_2 x38_3).length : Int) := of_decide_eq_true as_
                       obtain ⟨ad347, e347, hx347_0⟩ := Kd.at_int HR346_0.out x61_5 p347 q347
                       cases e347
                       (try replace hx347_0 := hc_ HB hx347_0)
                       replace p347 := eq_true p347
                       replace q347 := eq_true q347
                       go_wp2
                       go_roundg k5
                       case measure => have := HK1.out; have := HK2.out; have := HK3.out; have := HJ23.out; have := HK5.out; omega
                       case rel => exact ⟨(true), (false), (wrap64 (x61_5 + 1)), es_, es_, es_, H', ⟨by have := HK1.out; have := HK2.out; have := HK3.out; have := HJ23.out; have := HK5.out; omega⟩, ⟨by (try simp only [hl2_2]); (try simp only [hl2_3]); (with_reducible repeat (first | apply Kd.R_alloc | apply Kd.R_drewN | apply Kd.R_drew)); exact HO_2.out⟩, ⟨by (try simp only [hl2_2]); (try simp only [hl2_3]); (with_reducible repeat (first | refine blk_drewN ?_ _ | refine blk_drew ?_ | refine blk_alloc ?_ _)); exact BK339.out⟩, ⟨by (try simp only [hl2_2]); (try simp only [hl2_3]); (with_reducible repeat (first | refine blk_drewN ?_ _ | refine blk_drew ?_ | refine blk_alloc ?_ _)); exact BK340.out⟩, ⟨by repeat (first | (with_reducible exact HR346_0.out) | (with_reducible refine Kd.C_alloc ?_ _) | (with_reducible refine Kd.C_drewN ?_ _) | (with_reducible refine Kd.C_drew ?_) | exact HR346_0.out)⟩, ⟨by repeat (first | (with_reducible first | exact HK.out | apply Kept.alloc | apply Kept.drewN | apply Kept.drew | refine Kept.setCell ?_ (.inr GW339.out) _ | refine Kept.setCell ?_ (.inr GW340.out) _) | exact HK.out)⟩, ⟨hb_⟩⟩
                     ·replace c39 := Bool.eq_false_iff.mpr c39
                      subst c39
                      rw [if_neg (show ¬ (false = true) by decide)] at H
                      by_cases c43 : 0 ≤ (rd (rd_L3 l0_2 x38_3) x61_5)
                      ·rw [if_pos c43] at H
                       have c43b0 : decide (0 ≤ (rd (rd_L3 l0_2 x38_3) x61_5)) = true := decide_eq_true c43
                       clear c43
                       by_cases c44 : (rd (rd_L3 l0_2 x38_3) x61_5) < (x2_3.length : Int)
                       ·rw [if_pos c44] at H
                        have c44b0 : decide ((rd (rd_L3 l0_2 x38_3) x61_5) < (x2_3.length : Int)) = true := decide_eq_true c44
                        (try simp only [hl2_2] at c44b0)
                        (try simp only [hl2_3] at c44b0)
                        clear c44
                        by_cases c45 : x11_5 = true
                        ·subst c45
                         rw [if_pos rfl] at H
                         have H' := Aside0.mk H
                         clear H
                         have p347 : 0 ≤ (x61_5 : Int) := of_decide_eq_true as_
                         have q347 : x61_5 < ((rd_L3 l0_2 x38_3).length : Int) := of_decide_eq_true as_
                         obtain ⟨ad347, e347, hx347_0⟩ := Kd.at_int HR346_0.out x61_5 p347 q347
                         cases e347
                         (try replace hx347_0 := hc_ HB hx347_0)
                         replace p347 := eq_true p347
                         replace q347 := eq_true q347
                         have p349 : 0 ≤ ((rd (rd_L3 l0_2 x38_3) x61_5) : Int) := of_decide_eq_true as_
                         have q349 : (rd (rd_L3 l0_2 x38_3) x61_5) < (x2_3.length : Int) := of_decide_eq_true as_
                         obtain ⟨ad349, e349, hx349_0⟩ := Kd.at_int (Kd.R_reads' HO_2.out).2.2 (rd (rd_L3 l0_2 x38_3) x61_5) p349 q349
                         cases e349
                         replace p349 := eq_true p349
                         replace q349 := eq_true q349
                         have p350 : 0 ≤ ((rd (rd_L3 l0_2 x38_3) x61_5) : Int) := of_decide_eq_true as_
                         have q350 : (rd (rd_L3 l0_2 x38_3) x61_5) < (x2_3.length : Int) := of_decide_eq_true as_
                         obtain ⟨ad350, e350, hx350_0⟩ := Kd.at_int (Kd.R_reads' HO_2.out).2.2 (rd (rd_L3 l0_2 x38_3) x61_5) p350 q350
                         obtain rfl : ad349 = ad350 := (by injection e350)
                         replace p350 := eq_true p350
                         replace q350 := eq_true q350
                         go_wp2
                         go_roundg k5
                         case measure => have := HK1.out; have := HK2.out; have := HK3.out; have := HJ23.out; have := HK5.out; omega
                         case rel => exact ⟨(decide ((rd x2_3 (rd (rd_L3 l0_2 x38_3) x61_5)) ≥ 0)), (decide ((rd x2_3 (rd (rd_L3 l0_2 x38_3) x61_5)) ≥ 0)), (wrap64 (x61_5 + 1)), es_, es_, es_, H', ⟨by have := HK1.out; have := HK2.out; have := HK3.out; have := HJ23.out; have := HK5.out; omega⟩, ⟨by (try simp only [hl2_2]); (try simp only [hl2_3]); (with_reducible repeat (first | apply Kd.R_alloc | apply Kd.R_drewN | apply Kd.R_drew)); exact HO_2.out⟩, ⟨by (try simp only [hl2_2]); (try simp only [hl2_3]); (with_reducible repeat (first | refine blk_drewN ?_ _ | refine blk_drew ?_ | refine blk_alloc ?_ _)); exact BK339.out⟩, ⟨by (try simp only [hl2_2]); (try simp only [hl2_3]); (with_reducible repeat (first | refine blk_drewN ?_ _ | refine blk_drew ?_ | refine blk_alloc ?_ _)); exact BK340.out⟩, ⟨by repeat (first | (with_reducible exact HR346_0.out) | (with_reducible refine Kd.C_alloc ?_ _) | (with_reducible refine Kd.C_drewN ?_ _) | (with_reducible refine Kd.C_drew ?_) | exact HR346_0.out)⟩, ⟨by repeat (first | (with_reducible first | exact HK.out | apply Kept.alloc | apply Kept.drewN | apply Kept.drew | refine Kept.setCell ?_ (.inr GW339.out) _ | refine Kept.setCell ?_ (.inr GW340.out) _) | exact HK.out)⟩, ⟨hb_⟩⟩
                        ·replace c45 := Bool.eq_false_iff.mpr c45
                         subst c45
                         rw [if_neg (show ¬ (false = true) by decide)] at H
                         have H' := Aside0.mk H
                         clear H
                         have p347 : 0 ≤ (x61_5 : Int) := of_decide_eq_true as_
                         have q347 : x61_5 < ((rd_L3 l0_2 x38_3).length : Int) := of_decide_eq_true as_
                         obtain ⟨ad347, e347, hx347_0⟩ := Kd.at_int HR346_0.out x61_5 p347 q347
                         cases e347
                         (try replace hx347_0 := hc_ HB hx347_0)
                         replace p347 := eq_true p347
                         replace q347 := eq_true q347
                         have p349 : 0 ≤ ((rd (rd_L3 l0_2 x38_3) x61_5) : Int) := of_decide_eq_true as_
                         have q349 : (rd (rd_L3 l0_2 x38_3) x61_5) < (x2_3.length : Int) := of_decide_eq_true as_
                         obtain ⟨ad349, e349, hx349_0⟩ := Kd.at_int (Kd.R_reads' HO_2.out).2.2 (rd (rd_L3 l0_2 x38_3) x61_5) p349 q349
                         cases e349
                         replace p349 := eq_true p349
                         replace q349 := eq_true q349
                         go_wp2
                         go_roundg k5
                         case measure => have := HK1.out; have := HK2.out; have := HK3.out; have := HJ23.out; have := HK5.out; omega
                         case rel => exact ⟨(decide ((rd x2_3 (rd (rd_L3 l0_2 x38_3) x61_5)) ≥ 0)), (false), (wrap64 (x61_5 + 1)), es_, es_, es_, H', ⟨by have := HK1.out; have := HK2.out; have := HK3.out; have := HJ23.out; have := HK5.out; omega⟩, ⟨by (try simp only [hl2_2]); (try simp only [hl2_3]); (with_reducible repeat (first | apply Kd.R_alloc | apply Kd.R_drewN | apply Kd.R_drew)); exact HO_2.out⟩, ⟨by (try simp only [hl2_2]); (try simp only [hl2_3]); (with_reducible repeat (first | refine blk_drewN ?_ _ | refine blk_drew ?_ | refine blk_alloc ?_ _)); exact BK339.out⟩, ⟨by (try simp only [hl2_2]); (try simp only [hl2_3]); (with_reducible repeat (first | refine blk_drewN ?_ _ | refine blk_drew ?_ | refine blk_alloc ?_ _)); exact BK340.out⟩, ⟨by repeat (first | (with_reducible exact HR346_0.out) | (with_reducible refine Kd.C_alloc ?_ _) | (with_reducible refine Kd.C_drewN ?_ _) | (with_reducible refine Kd.C_drew ?_) | exact HR346_0.out)⟩, ⟨by repeat (first | (with_reducible first | exact HK.out | apply Kept.alloc | apply Kept.drewN | apply Kept.drew | refine Kept.setCell ?_ (.inr GW339.out) _ | refine Kept.setCell ?_ (.inr GW340.out) _) | exact HK.out)⟩, ⟨hb_⟩⟩
                       ·rw [if_neg c44] at H
                        exact absurd H (by simp)
                      ·rw [if_neg c43] at H
                       exact absurd H (by simp)
                    ·rw [if_neg c38] at H
                     exact absurd H (by simp)
                   ·rw [if_neg c37] at H
                    exact absurd H (by simp)
                  ·rw [if_neg c36] at H
                   have c36b0 : decide (x61_5 < ((rd_L3 l0_2 x38_3).length : Int)) = false := decide_eq_false c36
                   (try simp only [hl2_2] at c36b0)
                   (try simp only [hl2_3] at c36b0)
                   clear c36
                   by_cases c46 : 0 ≤ x38_3
                   ·rw [if_pos c46] at H
                    have c46b0 : decide (0 ≤ x38_3) = true := decide_eq_true c46
                    clear c46
                    by_cases c47 : x38_3 < (l0_1.length : Int)
                    ·rw [if_pos c47] at H
                     have c47b0 : decide (x38_3 < (l0_1.length : Int)) = true := decide_eq_true c47
                     (try simp only [hl2_2] at c47b0)
                     (try simp only [hl2_3] at c47b0)
                     clear c47
                     obtain ⟨bq48, hbq48⟩ : ∃ b_ : Bool, b_ = (rdOf false l0_1 x38_3) := ⟨_, rfl⟩
                     replace H : (if bq48 = true then (if x10_5 = true then (spec_l22Safe.l2 k5 x2_3 (x2_1.length : Int) x32_2 (x2_2.length : Int) (wrap64 (x38_3 + 1)) l0_0 l0_1 l0_2) else (if x38_3 < (x2_3.length : Int) then (spec_l22Safe.l2 k5 (x2_3.set (x38_3 : Int).toNat (-1)) (x2_1.length : Int) x32_2 (x2_2.length : Int) (wrap64 (x38_3 + 1)) l0_0 l0_1 l0_2) else (none))) else (if x11_5 = true then (spec_l22Safe.l2 k5 x2_3 (x2_1.length : Int) x32_2 (x2_2.length : Int) (wrap64 (x38_3 + 1)) l0_0 l0_1 l0_2) else (if x38_3 < (x2_3.length : Int) then (spec_l22Safe.l2 k5 (x2_3.set (x38_3 : Int).toNat (-1)) (x2_1.length : Int) x32_2 (x2_2.length : Int) (wrap64 (x38_3 + 1)) l0_0 l0_1 l0_2) else (none)))) = some r := by rw [← hbq48] at H; exact H
                     have Nbq48 := Aside0.mk hbq48
                     clear hbq48
                     by_cases c49 : bq48 = true
                     ·subst c49
                      rw [if_pos rfl] at H
                      by_cases c50 : x10_5 = true
                      ·subst c50
                       rw [if_pos rfl] at H
                       have H' := Aside0.mk H
                       clear H
                       have hnb51 := NB339_340.out
                       have hnc51 := NB340_339.out
                       have hcz52_0 : wr.cell? ⟨gb339, 0, none⟩ = some (.slice A0_0 l0_0.length c0_0) := (blk_cell BK339.out 0).trans rfl
                       have hcz52_1 : wr.cell? ⟨gb339, 1, none⟩ = some (.slice A0_1 l0_1.length c0_1) := (blk_cell BK339.out 1).trans rfl
                       have hcz52_2 : wr.cell? ⟨gb339, 2, none⟩ = some (.slice (some ad346) l0_2.length c0_2) := (blk_cell BK339.out 2).trans rfl
                       have hfz52_0 := blk_frozen BK339.out 0
                       have hfz52_1 := blk_frozen BK339.out 1
                       have hfz52_2 := blk_frozen BK339.out 2
                       have p351 : 0 ≤ (x38_3 : Int) := of_decide_eq_true as_
                       have q351 : x38_3 < (l0_1.length : Int) := of_decide_eq_true as_
                       obtain ⟨ad351, e351, hx351_0⟩ := Kd.at_bool (Kd.C_kept_now HR0_1.out HK.out) x38_3 p351 q351
                       (try rw [← Nbq48.out] at hx351_0)
                       cases e351
                       replace p351 := eq_true p351
                       replace q351 := eq_true q351
                       have p352 : 0 ≤ (x38_3 : Int) := of_decide_eq_true as_
                       have q352 : x38_3 < (l0_1.length : Int) := of_decide_eq_true as_
                       obtain ⟨ad352, e352, hx352_0⟩ := Kd.at_bool (Kd.C_kept_now HR0_1.out HK.out) x38_3 p352 q352
                       (try rw [← Nbq48.out] at hx352_0)
                       obtain rfl : ad351 = ad352 := (by injection e352)
                       replace p352 := eq_true p352
                       replace q352 := eq_true q352
                       go_wp2
                       (try simp only [← hl2_3])
                       go_roundg k5
                       case measure => have := HK1.out; have := HK2.out; have := HK3.out; have := HJ23.out; have := HK5.out; omega
                       case rel => exact ⟨(x2_3), (wrap64 (x38_3 + 1)), es_, H', ⟨by have := HK1.out; have := HK2.out; have := HK3.out; have := HJ23.out; have := HK5.out; omega⟩, ⟨by (try simp only [hl2_2]); (try simp only [hl2_3]); (with_reducible repeat (first | apply Kd.R_alloc | apply Kd.R_drewN | apply Kd.R_drew)); exact HO_2.out⟩, ⟨by (try simp only [hl2_2]); (try simp only [hl2_3]); (with_reducible repeat (first | refine blk_drewN ?_ _ | refine blk_drew ?_ | refine blk_alloc ?_ _)); exact BK339.out⟩, ⟨by (try simp only [hl2_2]); (try simp only [hl2_3]); (with_reducible repeat (first | refine blk_drewN ?_ _ | refine blk_drew ?_ | refine blk_alloc ?_ _)); exact BK340.out⟩, ⟨by repeat (first | (with_reducible first | exact HK.out | apply Kept.alloc | apply Kept.drewN | apply Kept.drew | refine Kept.setCell ?_ (.inr GW339.out) _ | refine Kept.setCell ?_ (.inr GW340.out) _) | exact HK.out)⟩, ⟨hb_⟩⟩
                      ·replace c50 := Bool.eq_false_iff.mpr c50
                       subst c50
                       rw [if_neg (show ¬ (false = true) by decide)] at H
                       by_cases c53 : x38_3 < (x2_3.length : Int)
                       ·rw [if_pos c53] at H
                        have c53b0 : decide (x38_3 < (x2_3.length : Int)) = true := decide_eq_true c53
                        (try simp only [hl2_2] at c53b0)
                        (try simp only [hl2_3] at c53b0)
                        clear c53
                        obtain ⟨y353, hy353⟩ : ∃ y_ : List Int, y_ = (x2_3.set (x38_3 : Int).toNat (-1)) := ⟨_, rfl⟩
                        replace H : (spec_l22Safe.l2 k5 y353 (x2_1.length : Int) x32_2 (x2_2.length : Int) (wrap64 (x38_3 + 1)) l0_0 l0_1 l0_2) = some r := by first | (rw [hy353]; with_reducible exact H) | (have H2_ := (Option.bind_some _ _).symm.trans H; rw [hy353]; with_reducible exact H2_) | (have H2_ := (Option.bind_some _ _).symm.trans H; with_reducible exact H2_) | with_reducible exact H | (rw [hy353]; exact H) | exact H
                        have Ny353 := Aside0.mk hy353
                        clear hy353
                        have H' := Aside0.mk H
                        clear H
                        have hnb55 := NB339_340.out
                        have hnc55 := NB340_339.out
                        have hcz56_0 : wr.cell? ⟨gb339, 0, none⟩ = some (.slice A0_0 l0_0.length c0_0) := (blk_cell BK339.out 0).trans rfl
                        have hcz56_1 : wr.cell? ⟨gb339, 1, none⟩ = some (.slice A0_1 l0_1.length c0_1) := (blk_cell BK339.out 1).trans rfl
                        have hcz56_2 : wr.cell? ⟨gb339, 2, none⟩ = some (.slice (some ad346) l0_2.length c0_2) := (blk_cell BK339.out 2).trans rfl
                        have hfz56_0 := blk_frozen BK339.out 0
                        have hfz56_1 := blk_frozen BK339.out 1
                        have hfz56_2 := blk_frozen BK339.out 2
                        have p351 : 0 ≤ (x38_3 : Int) := of_decide_eq_true as_
                        have q351 : x38_3 < (l0_1.length : Int) := of_decide_eq_true as_
                        obtain ⟨ad351, e351, hx351_0⟩ := Kd.at_bool (Kd.C_kept_now HR0_1.out HK.out) x38_3 p351 q351
                        (try rw [← Nbq48.out] at hx351_0)
                        cases e351
                        replace p351 := eq_true p351
                        replace q351 := eq_true q351
                        have p54 : 0 ≤ (x38_3 : Int) := of_decide_eq_true as_
                        have q54 : (x38_3 : Int) < ((x2_3.length : Int) : Int) := of_decide_eq_true as_
                        obtain ⟨go54, co54, eo54, gb54, gl54, cl54, HG54⟩ := Kd.R_form HO_2.out (by omega)
                        (first | cases eo54 | (injection eo54 with ea_ en_ ec_; (first | subst ea_ | (injection ea_ with ea_; subst ea_)); subst ec_; clear en_))
                        have GB54 := Aside0.mk gb54
                        have GG54 := Aside0.mk HG54
                        clear gb54 gl54 HG54
                        have HMgo54 := Aside0.mk (show (P2_ go54 ∨ w.heap.size ≤ go54) from (HO_2.out.1 _ rfl))
                        obtain ⟨hx54_0, hf54_0⟩ := Kd.R_celln 0 HO_2.out (x38_3 : Int) p54 q54
                        replace p54 := eq_true p54
                        replace q54 := eq_true q54
                        have HP57 := Kd.R_putg HO_2.out (x38_3 : Int) (-1)
                        go_wp2_with (first | ((with_reducible refine gate_store (t := 3) (p := 105) rfl ?_); refine store_event (t := 3) (p := 105) (v := ?vo_w58) (w1 := (wr.setCell ⟨go54, (x38_3 : Int).toNat, none⟩ (.int .i64 (-1)))) ?hg ?ho ?hn ?hr ?_; (case ho => rfl); (case hg => rfl); (case hn => rfl); (case hr => first | (go_simp; done) | (go_simp; rfl)); intro w58 hw; have hg : wr.grownBy w58 (some go54) := (by rw [hw]; exact HP57.2); have hp_ : Kd.R (Kd.int .i64) 3 w58 w0.heap.size (fun k_ => (P2_ k_ ∨ w.heap.size ≤ k_)) (.slice (some ⟨go54, 0, none⟩) x2_3.length co21) y353 := (by rw [hw, Ny353.out]; exact HP57.1); clear HP57; have n0_ := Aside0.mk (hp_); have n1_ := Aside0.mk (blk_grown (g := gb339) (o := .cells #[.slice A0_0 l0_0.length c0_0, .slice (some ad351) l0_1.length c0_1, .slice (some ad346) l0_2.length c0_2] 34 (0, 0)) (bk_ BK339.out) hg (Kd.R_ne HO_2.out BK339.out (by decide))); have n2_ := Aside0.mk (blk_grown (g := gb340) (o := .cells #[.slice A1_0 l1_0.length c1_0, .slice A1_1 l1_1.length c1_1] 36 (0, 0)) (bk_ BK340.out) hg (Kd.R_ne HO_2.out BK340.out (by decide))); have n3_ := Aside0.mk ((by rw [hw]; exact below_set (HB.out) GB54.out : Below w0.heap.size w0 w58)); have n4_ := Aside0.mk (Kept.of_grown (S := (fun k_ => P2_ k_)) hg (by repeat (first | (with_reducible first | exact HK.out | apply Kept.alloc | apply Kept.drewN | apply Kept.drew | refine Kept.setCell ?_ (.inr GW339.out) _ | refine Kept.setCell ?_ (.inr GW340.out) _) | exact HK.out)) (fun k_ e_ => (HO_2.out.1 k_ e_))); clear HO_2; clear BK339; clear BK340; clear HB; clear HK; have HO_2 := n0_; have BK339 := n1_; have BK340 := n2_; have HB := n3_; have HK := n4_; clear n0_ n1_ n2_ n3_ n4_; clear hg hw hp_))
                        (try simp only [← hl2_3])
                        go_roundg k5
                        case measure => have := HK1.out; have := HK2.out; have := HK3.out; have := HJ23.out; have := HK5.out; omega
                        case rel => exact ⟨(y353), (wrap64 (x38_3 + 1)), es_, H', ⟨by have := HK1.out; have := HK2.out; have := HK3.out; have := HJ23.out; have := HK5.out; omega⟩, ⟨by (try simp only [hl2_2]); (try simp only [hl2_3]); (with_reducible repeat (first | apply Kd.R_alloc | apply Kd.R_drewN | apply Kd.R_drew)); exact HO_2.out⟩, ⟨by (try simp only [hl2_2]); (try simp only [hl2_3]); (with_reducible repeat (first | refine blk_drewN ?_ _ | refine blk_drew ?_ | refine blk_alloc ?_ _)); exact BK339.out⟩, ⟨by (try simp only [hl2_2]); (try simp only [hl2_3]); (with_reducible repeat (first | refine blk_drewN ?_ _ | refine blk_drew ?_ | refine blk_alloc ?_ _)); exact BK340.out⟩, ⟨by repeat (first | (with_reducible first | exact HK.out | apply Kept.alloc | apply Kept.drewN | apply Kept.drew | refine Kept.setCell ?_ (.inr GW339.out) _ | refine Kept.setCell ?_ (.inr GW340.out) _) | exact HK.out)⟩, ⟨hb_⟩⟩
                       ·rw [if_neg c53] at H
                        exact absurd H (by simp)
                     ·replace c49 := Bool.eq_false_iff.mpr c49
                      subst c49
                      rw [if_neg (show ¬ (false = true) by decide)] at H
                      by_cases c59 : x11_5 = true
                      ·subst c59
                       rw [if_pos rfl] at H
                       have H' := Aside0.mk H
                       clear H
                       have hnb60 := NB339_340.out
                       have hnc60 := NB340_339.out
                       have hcz61_0 : wr.cell? ⟨gb339, 0, none⟩ = some (.slice A0_0 l0_0.length c0_0) := (blk_cell BK339.out 0).trans rfl
                       have hcz61_1 : wr.cell? ⟨gb339, 1, none⟩ = some (.slice A0_1 l0_1.length c0_1) := (blk_cell BK339.out 1).trans rfl
                       have hcz61_2 : wr.cell? ⟨gb339, 2, none⟩ = some (.slice (some ad346) l0_2.length c0_2) := (blk_cell BK339.out 2).trans rfl
                       have hfz61_0 := blk_frozen BK339.out 0
                       have hfz61_1 := blk_frozen BK339.out 1
                       have hfz61_2 := blk_frozen BK339.out 2
                       have p351 : 0 ≤ (x38_3 : Int) := of_decide_eq_true as_
                       have q351 : x38_3 < (l0_1.length : Int) := of_decide_eq_true as_
                       obtain ⟨ad351, e351, hx351_0⟩ := Kd.at_bool (Kd.C_kept_now HR0_1.out HK.out) x38_3 p351 q351
                       (try rw [← Nbq48.out] at hx351_0)
                       cases e351
                       replace p351 := eq_true p351
                       replace q351 := eq_true q351
                       have p354 : 0 ≤ (x38_3 : Int) := of_decide_eq_true as_
                       have q354 : x38_3 < (l0_1.length : Int) := of_decide_eq_true as_
                       obtain ⟨ad354, e354, hx354_0⟩ := Kd.at_bool (Kd.C_kept_now HR0_1.out HK.out) x38_3 p354 q354
                       (try rw [← Nbq48.out] at hx354_0)
                       obtain rfl : ad351 = ad354 := (by injection e354)
                       replace p354 := eq_true p354
                       replace q354 := eq_true q354
                       go_wp2
                       (try simp only [← hl2_3])
                       go_roundg k5
                       case measure => have := HK1.out; have := HK2.out; have := HK3.out; have := HJ23.out; have := HK5.out; omega
                       case rel => exact ⟨(x2_3), (wrap64 (x38_3 + 1)), es_, H', ⟨by have := HK1.out; have := HK2.out; have := HK3.out; have := HJ23.out; have := HK5.out; omega⟩, ⟨by (try simp only [hl2_2]); (try simp only [hl2_3]); (with_reducible repeat (first | apply Kd.R_alloc | apply Kd.R_drewN | apply Kd.R_drew)); exact HO_2.out⟩, ⟨by (try simp only [hl2_2]); (try simp only [hl2_3]); (with_reducible repeat (first | refine blk_drewN ?_ _ | refine blk_drew ?_ | refine blk_alloc ?_ _)); exact BK339.out⟩, ⟨by (try simp only [hl2_2]); (try simp only [hl2_3]); (with_reducible repeat (first | refine blk_drewN ?_ _ | refine blk_drew ?_ | refine blk_alloc ?_ _)); exact BK340.out⟩, ⟨by repeat (first | (with_reducible first | exact HK.out | apply Kept.alloc | apply Kept.drewN | apply Kept.drew | refine Kept.setCell ?_ (.inr GW339.out) _ | refine Kept.setCell ?_ (.inr GW340.out) _) | exact HK.out)⟩, ⟨hb_⟩⟩
                      ·replace c59 := Bool.eq_false_iff.mpr c59
                       subst c59
                       rw [if_neg (show ¬ (false = true) by decide)] at H
                       by_cases c62 : x38_3 < (x2_3.length : Int)
                       ·rw [if_pos c62] at H
                        have c62b0 : decide (x38_3 < (x2_3.length : Int)) = true := decide_eq_true c62
                        (try simp only [hl2_2] at c62b0)
                        (try simp only [hl2_3] at c62b0)
                        clear c62
                        obtain ⟨y355, hy355⟩ : ∃ y_ : List Int, y_ = (x2_3.set (x38_3 : Int).toNat (-1)) := ⟨_, rfl⟩
                        replace H : (spec_l22Safe.l2 k5 y355 (x2_1.length : Int) x32_2 (x2_2.length : Int) (wrap64 (x38_3 + 1)) l0_0 l0_1 l0_2) = some r := by first | (rw [hy355]; with_reducible exact H) | (have H2_ := (Option.bind_some _ _).symm.trans H; rw [hy355]; with_reducible exact H2_) | (have H2_ := (Option.bind_some _ _).symm.trans H; with_reducible exact H2_) | with_reducible exact H | (rw [hy355]; exact H) | exact H
                        have Ny355 := Aside0.mk hy355
                        clear hy355
                        have H' := Aside0.mk H
                        clear H
                        have hnb64 := NB339_340.out
                        have hnc64 := NB340_339.out
                        have hcz65_0 : wr.cell? ⟨gb339, 0, none⟩ = some (.slice A0_0 l0_0.length c0_0) := (blk_cell BK339.out 0).trans rfl
                        have hcz65_1 : wr.cell? ⟨gb339, 1, none⟩ = some (.slice A0_1 l0_1.length c0_1) := (blk_cell BK339.out 1).trans rfl
                        have hcz65_2 : wr.cell? ⟨gb339, 2, none⟩ = some (.slice (some ad346) l0_2.length c0_2) := (blk_cell BK339.out 2).trans rfl
                        have hfz65_0 := blk_frozen BK339.out 0
                        have hfz65_1 := blk_frozen BK339.out 1
                        have hfz65_2 := blk_frozen BK339.out 2
                        have p351 : 0 ≤ (x38_3 : Int) := of_decide_eq_true as_
                        have q351 : x38_3 < (l0_1.length : Int) := of_decide_eq_true as_
                        obtain ⟨ad351, e351, hx351_0⟩ := Kd.at_bool (Kd.C_kept_now HR0_1.out HK.out) x38_3 p351 q351
                        (try rw [← Nbq48.out] at hx351_0)
                        cases e351
                        replace p351 := eq_true p351
                        replace q351 := eq_true q351
                        have p354 : 0 ≤ (x38_3 : Int) := of_decide_eq_true as_
                        have q354 : x38_3 < (l0_1.length : Int) := of_decide_eq_true as_
                        obtain ⟨ad354, e354, hx354_0⟩ := Kd.at_bool (Kd.C_kept_now HR0_1.out HK.out) x38_3 p354 q354
                        (try rw [← Nbq48.out] at hx354_0)
                        obtain rfl : ad351 = ad354 := (by injection e354)
                        replace p354 := eq_true p354
                        replace q354 := eq_true q354
                        have p63 : 0 ≤ (x38_3 : Int) := of_decide_eq_true as_
                        have q63 : (x38_3 : Int) < ((x2_3.length : Int) : Int) := of_decide_eq_true as_
                        obtain ⟨go63, co63, eo63, gb63, gl63, cl63, HG63⟩ := Kd.R_form HO_2.out (by omega)
                        (first | cases eo63 | (injection eo63 with ea_ en_ ec_; (first | subst ea_ | (injection ea_ with ea_; subst ea_)); subst ec_; clear en_))
                        have GB63 := Aside0.mk gb63
                        have GG63 := Aside0.mk HG63
                        clear gb63 gl63 HG63
                        have HMgo63 := Aside0.mk (show (P2_ go63 ∨ w.heap.size ≤ go63) from (HO_2.out.1 _ rfl))
                        obtain ⟨hx63_0, hf63_0⟩ := Kd.R_celln 0 HO_2.out (x38_3 : Int) p63 q63
                        replace p63 := eq_true p63
                        replace q63 := eq_true q63
                        have HP66 := Kd.R_putg HO_2.out (x38_3 : Int) (-1)
                        go_wp2_with (first | ((with_reducible refine gate_store (t := 3) (p := 105) rfl ?_); refine store_event (t := 3) (p := 105) (v := ?vo_w67) (w1 := (wr.setCell ⟨go63, (x38_3 : Int).toNat, none⟩ (.int .i64 (-1)))) ?hg ?ho ?hn ?hr ?_; (case ho => rfl); (case hg => rfl); (case hn => rfl); (case hr => first | (go_simp; done) | (go_simp; rfl)); intro w67 hw; have hg : wr.grownBy w67 (some go63) := (by rw [hw]; exact HP66.2); have hp_ : Kd.R (Kd.int .i64) 3 w67 w0.heap.size (fun k_ => (P2_ k_ ∨ w.heap.size ≤ k_)) (.slice (some ⟨go63, 0, none⟩) x2_3.length co21) y355 := (by rw [hw, Ny355.out]; exact HP66.1); clear HP66; have n0_ := Aside0.mk (hp_); have n1_ := Aside0.mk (blk_grown (g := gb339) (o := .cells #[.slice A0_0 l0_0.length c0_0, .slice (some ad351) l0_1.length c0_1, .slice (some ad346) l0_2.length c0_2] 34 (0, 0)) (bk_ BK339.out) hg (Kd.R_ne HO_2.out BK339.out (by decide))); have n2_ := Aside0.mk (blk_grown (g := gb340) (o := .cells #[.slice A1_0 l1_0.length c1_0, .slice A1_1 l1_1.length c1_1] 36 (0, 0)) (bk_ BK340.out) hg (Kd.R_ne HO_2.out BK340.out (by decide))); have n3_ := Aside0.mk ((by rw [hw]; exact below_set (HB.out) GB63.out : Below w0.heap.size w0 w67)); have n4_ := Aside0.mk (Kept.of_grown (S := (fun k_ => P2_ k_)) hg (by repeat (first | (with_reducible first | exact HK.out | apply Kept.alloc | apply Kept.drewN | apply Kept.drew | refine Kept.setCell ?_ (.inr GW339.out) _ | refine Kept.setCell ?_ (.inr GW340.out) _) | exact HK.out)) (fun k_ e_ => (HO_2.out.1 k_ e_))); clear HO_2; clear BK339; clear BK340; clear HB; clear HK; have HO_2 := n0_; have BK339 := n1_; have BK340 := n2_; have HB := n3_; have HK := n4_; clear n0_ n1_ n2_ n3_ n4_; clear hg hw hp_))
                        (try simp only [← hl2_3])
                        go_roundg k5
                        case measure => have := HK1.out; have := HK2.out; have := HK3.out; have := HJ23.out; have := HK5.out; omega
                        case rel => exact ⟨(y355), (wrap64 (x38_3 + 1)), es_, H', ⟨by have := HK1.out; have := HK2.out; have := HK3.out; have := HJ23.out; have := HK5.out; omega⟩, ⟨by (try simp only [hl2_2]); (try simp only [hl2_3]); (with_reducible repeat (first | apply Kd.R_alloc | apply Kd.R_drewN | apply Kd.R_drew)); exact HO_2.out⟩, ⟨by (try simp only [hl2_2]); (try simp only [hl2_3]); (with_reducible repeat (first | refine blk_drewN ?_ _ | refine blk_drew ?_ | refine blk_alloc ?_ _)); exact BK339.out⟩, ⟨by (try simp only [hl2_2]); (try simp only [hl2_3]); (with_reducible repeat (first | refine blk_drewN ?_ _ | refine blk_drew ?_ | refine blk_alloc ?_ _)); exact BK340.out⟩, ⟨by repeat (first | (with_reducible first | exact HK.out | apply Kept.alloc | apply Kept.drewN | apply Kept.drew | refine Kept.setCell ?_ (.inr GW339.out) _ | refine Kept.setCell ?_ (.inr GW340.out) _) | exact HK.out)⟩, ⟨hb_⟩⟩
                       ·rw [if_neg c62] at H
                        exact absurd H (by simp)
                    ·rw [if_neg c47] at H
                     exact absurd H (by simp)
                   ·rw [if_neg c46] at H
                    exact absurd H (by simp)
               ·rw [if_neg c33] at H
                exact absurd H (by simp)
              ·rw [if_neg c32] at H
               exact absurd H (by simp)
          ·rw [if_neg c23] at H
           have c23b0 : decide (x38_3 < (x2_2.length : Int)) = false := decide_eq_false c23
           (try simp only [hl2_2] at c23b0)
           (try simp only [hl2_3] at c23b0)
           clear c23
           have H' := Aside0.mk H
           clear H
           go_wp2
           (try simp only [← hl2_2, ← hl2_3])
           go_roundg k3
           case measure => have := HK1.out; have := HK2.out; have := HK3.out; omega
           case rel => exact ⟨(x2_3), (wrap64 (x32_2 + 1)), es_, H', ⟨by have := HK1.out; have := HK2.out; have := HK3.out; omega⟩, ⟨by (try simp only [hl2_2]); (try simp only [hl2_3]); (with_reducible repeat (first | apply Kd.R_alloc | apply Kd.R_drewN | apply Kd.R_drew)); exact HO_2.out⟩, ⟨by (try simp only [hl2_2]); (try simp only [hl2_3]); (with_reducible repeat (first | refine blk_drewN ?_ _ | refine blk_drew ?_ | refine blk_alloc ?_ _)); exact BK339.out⟩, ⟨by (try simp only [hl2_2]); (try simp only [hl2_3]); (with_reducible repeat (first | refine blk_drewN ?_ _ | refine blk_drew ?_ | refine blk_alloc ?_ _)); exact BK340.out⟩, ⟨by repeat (first | (with_reducible first | exact HK.out | apply Kept.alloc | apply Kept.drewN | apply Kept.drew | refine Kept.setCell ?_ (.inr GW339.out) _ | refine Kept.setCell ?_ (.inr GW340.out) _) | exact HK.out)⟩, ⟨hb_⟩⟩
       ·rw [if_neg c22] at H
        have c22b0 : decide (x32_2 < (x2_1.length : Int)) = false := decide_eq_false c22
        (try simp only [hl2_2] at c22b0)
        clear c22
        obtain rfl := Option.some.inj H
        go_wp2
        first | go_end0 | ((try simp only [Exit.inBlock, Exit.then]); refine bodyPost_ret (results_none rfl _ _ _) rfl ?_)
        exact ⟨er_, (by first | exact (ra_ HO_2.out) | (simp only [hl2_2]; exact (ra_ HO_2.out))), hb_, by repeat (first | (with_reducible first | exact HK.out | apply Kept.alloc | apply Kept.drewN | apply Kept.drew | refine Kept.setCell ?_ (.inr GW339.out) _ | refine Kept.setCell ?_ (.inr GW340.out) _) | exact HK.out)⟩

end Go.Proofs.YtdihodboopeakaaDoor.Pr
