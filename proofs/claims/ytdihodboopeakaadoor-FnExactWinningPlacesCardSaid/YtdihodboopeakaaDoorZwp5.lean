-- Joined and pruned by wip/tools/prune.py out of this session's own texts (Pr24)
import Derived.Test.YtdihodboopeakaaDoorZwp4
-- Written by this session's own print (wip/tools/mkmp.py) out of the translation. Lean checks it.
namespace Go.Proofs.YtdihodboopeakaaDoor.Pr
open Go.RowKit Go.Proofs.YtdihodboopeakaaDoorW.PrintWords Go.Proofs.YtdihodboopeakaaDoorW.PrintLast Go.Proofs.YtdihodboopeakaaDoorW.PrintMore
attribute [local go_sem] max2_int min2_int max_two min_two max_three min_three max_four min_four   -- for this text's walks alone
set_option linter.unusedVariables false
set_option linter.unusedSimpArgs false

set_option maxHeartbeats 8000000 in
set_option maxRecDepth 100000 in
theorem impl_Board_wins.calls (k : Nat) (A0_0 : Option Addr) (c0_0 : Nat) (l0_0 : List ByteArray) (A0_1 : Option Addr) (c0_1 : Nat) (l0_1 : List Bool) (A0_2 : Option Addr) (c0_2 : Nat) (l0_2 : List (List Int)) (A1_0 : Option Addr) (c1_0 : Nat) (l1_0 : List ByteArray) (A1_1 : Option Addr) (c1_1 : Nat) (l1_1 : List ByteArray) (r : List Int) (w : World) (hr0_0 : Kd.C Kd.string w A0_0 l0_0.length l0_0) (hc0_0 : l0_0.length ≤ c0_0) (hr0_1 : Kd.C Kd.bool w A0_1 l0_1.length l0_1) (hc0_1 : l0_1.length ≤ c0_1) (hr0_2 : Kd.C (Kd.slice 3 (Kd.int .i64)) w A0_2 l0_2.length l0_2) (hc0_2 : l0_2.length ≤ c0_2) (hr1_0 : Kd.C Kd.string w A1_0 l1_0.length l1_0) (hc1_0 : l1_0.length ≤ c1_0) (hr1_1 : Kd.C Kd.string w A1_1 l1_1.length l1_1) (hc1_1 : l1_1.length ≤ c1_1) (h : impl_Board_wins.f k l0_0 l0_1 l0_2 l1_0 l1_1 = some r) :
   Calls Tryd.prog 56 #[.agg #[.slice A0_0 l0_0.length c0_0, .slice A0_1 l0_1.length c0_1, .slice A0_2 l0_2.length c0_2], .agg #[.slice A1_0 l1_0.length c1_0, .slice A1_1 l1_1.length c1_1]] w fun e w' => ∃ v0_ : Value, e = .returned (v0_) ∧ Kd.R (Kd.int .i64) 3 w' w.heap.size (fun _ => True) v0_ r ∧ Below w.heap.size w w' := by
  have hu34 := Tryd.underlying34
  have hu36 := Tryd.underlying36
  have HR0_0 := Aside0.mk hr0_0
  have HC0_0 := Aside0.mk hc0_0
  clear hr0_0 hc0_0
  have HR0_1 := Aside0.mk hr0_1
  have HC0_1 := Aside0.mk hc0_1
  clear hr0_1 hc0_1
  have HR0_2 := Aside0.mk hr0_2
  have HC0_2 := Aside0.mk hc0_2
  clear hr0_2 hc0_2
  have HR1_0 := Aside0.mk hr1_0
  have HC1_0 := Aside0.mk hc1_0
  clear hr1_0 hc1_0
  have HR1_1 := Aside0.mk hr1_1
  have HC1_1 := Aside0.mk hc1_1
  clear hr1_1 hc1_1
  have HB := Aside0.mk (Below.refl w.heap.size w)
  have H : (if 0 ≤ (l0_0.length : Int) then (if ((l0_0.length : Int) : Int).toNat ≤ 35184372088832 then ((some (List.replicate ((l0_0.length : Int) : Int).toNat 0 : List Int)).bind fun y398 => (if (l1_0.length : Int) = 0 then (impl_Board_wins.l0 k y398 (y398.length : Int) 0 l0_0 l0_1 l0_2 l1_0 l1_1) else (impl_Board_wins.l4 k (l0_0.length : Int) y398 (y398.length : Int) 0 l0_0 l0_1 l0_2 l1_0 l1_1))) else (none)) else (none)) = some r := h
  clear h
  by_cases c3 : 0 ≤ (l0_0.length : Int)
  ·rw [if_pos c3] at H
   have c3b0 := eq_true c3
   have c3b1 : decide (0 ≤ (l0_0.length : Int)) = true := decide_eq_true c3
   clear c3
   by_cases c4 : ((l0_0.length : Int) : Int).toNat ≤ 35184372088832
   ·rw [if_pos c4] at H
    have c4b0 := eq_true c4
    have c4b1 : decide (((l0_0.length : Int) : Int).toNat ≤ 35184372088832) = true := decide_eq_true c4
    clear c4
    obtain ⟨y398, hy398⟩ : ∃ y_ : List Int, y_ = (List.replicate ((l0_0.length : Int) : Int).toNat 0) := ⟨_, rfl⟩
    replace H : (if (l1_0.length : Int) = 0 then (impl_Board_wins.l0 k y398 (y398.length : Int) 0 l0_0 l0_1 l0_2 l1_0 l1_1) else (impl_Board_wins.l4 k (l0_0.length : Int) y398 (y398.length : Int) 0 l0_0 l0_1 l0_2 l1_0 l1_1)) = some r := by first | (rw [hy398]; with_reducible exact H) | (have H2_ := (Option.bind_some _ _).symm.trans H; rw [hy398]; with_reducible exact H2_) | (have H2_ := (Option.bind_some _ _).symm.trans H; with_reducible exact H2_) | with_reducible exact H | (rw [hy398]; exact H) | exact H
    have Ny398 := Aside0.mk hy398
    clear hy398
    by_cases c5 : (l1_0.length : Int) = 0
    ·rw [if_pos c5] at H
     have c5b0 : ((l1_0.length : Int) == 0) = true := beq_iff_eq.mpr c5
     have c5b1 : ((l1_0.length : Int) != 0) = false := bne_eq_false_iff_eq.mpr c5
     clear c5
     have H' := Aside0.mk H
     clear H
     go_enter Tryd.func56, Tryd.ntmps56
     go_wp2_with (first | ((with_reducible refine gate_dst (N := 2) rfl ?_); (try (refine gate_guard (by rfl) ?_; dsimp only)); refine box_event ?hg (N := 2) ?hd (cs := #[.slice A0_0 l0_0.length c0_0, .slice A0_1 l0_1.length c0_1, .slice A0_2 l0_2.length c0_2]) (t := 34) ?hr ?_; (case hd => rfl); (case hg => rfl); (case hr => first | (go_simp; done) | (go_simp; rfl)); intro gb396 hg w6 hbox hb; have n0_ := Aside0.mk (below_step hb_ hb); have n1_ := Aside0.mk (hbox); have n2_ : Aside0 (w.heap.size ≤ gb396) := gz_; have n3_ : Aside0 (w.heap.size ≤ gb396) := gz_; clear HB; have HB := n0_; have BK396 := n1_; have GW396 := n2_; have GE396 := n3_; clear n0_ n1_ n2_ n3_; clear hb hbox hg) | ((with_reducible refine gate_dst (N := 3) rfl ?_); (try (refine gate_guard (by rfl) ?_; dsimp only)); refine box_event ?hg (N := 3) ?hd (cs := #[.slice A1_0 l1_0.length c1_0, .slice A1_1 l1_1.length c1_1]) (t := 36) ?hr ?_; (case hd => rfl); (case hg => rfl); (case hr => first | (go_simp; done) | (go_simp; rfl)); intro gb397 hg w7 hbox hb; have n0_ := bb_ BK396 hb; have n1_ := Aside0.mk (below_step hb_ hb); have n2_ := Aside0.mk (hbox); have n3_ : Aside0 (w.heap.size ≤ gb397) := gz_; have n4_ : Aside0 (w.heap.size ≤ gb397) := gz_; have n5_ := Aside0.mk ((by rw [hg]; exact Nat.ne_of_lt (blk_lt (g := gb396) (o := .cells #[.slice A0_0 l0_0.length c0_0, .slice A0_1 l0_1.length c0_1, .slice A0_2 l0_2.length c0_2] 34 (0, 0)) (bk_ BK396.out)) : gb396 ≠ gb397)); have n6_ := Aside0.mk ((by rw [hg]; exact Nat.ne_of_gt (blk_lt (g := gb396) (o := .cells #[.slice A0_0 l0_0.length c0_0, .slice A0_1 l0_1.length c0_1, .slice A0_2 l0_2.length c0_2] 34 (0, 0)) (bk_ BK396.out)) : gb397 ≠ gb396)); clear BK396; clear HB; have BK396 := n0_; have HB := n1_; have BK397 := n2_; have GW397 := n3_; have GE397 := n4_; have NB396_397 := n5_; have NB397_396 := n6_; clear n0_ n1_ n2_ n3_ n4_ n5_ n6_; clear hb hbox hg; have hnb8 := NB396_397.out; have hnc8 := NB397_396.out; have hcz9_0 : w7.cell? ⟨gb396, 0, none⟩ = some (.slice A0_0 l0_0.length c0_0) := (blk_cell BK396.out 0).trans rfl; have hcz9_1 : w7.cell? ⟨gb396, 1, none⟩ = some (.slice A0_1 l0_1.length c0_1) := (blk_cell BK396.out 1).trans rfl; have hcz9_2 : w7.cell? ⟨gb396, 2, none⟩ = some (.slice A0_2 l0_2.length c0_2) := (blk_cell BK396.out 2).trans rfl; have hfz9_0 := blk_frozen BK396.out 0; have hfz9_1 := blk_frozen BK396.out 1; have hfz9_2 := blk_frozen BK396.out 2) | ((with_reducible refine gate_dst (N := 26) rfl ?_); (try (refine gate_guard (by rfl) ?_; dsimp only)); refine Kd.R_make (Kd.int .i64) _ 3 rfl (N := 26) rfl 31 _ _ rfl (l0_0.length : Int) rfl rfl Tryd.underlying31 (.int .i64 0) 8 info3 rfl (by decide) (by omega) 0 (ok := fun _ => True) (okp := fun _ => True) rfl (fun _ hk => hk) trivial (of_decide_eq_true as_) (Nat.le_trans (Nat.mul_le_mul_right _ (of_decide_eq_true as_ : (l0_0.length : Int).toNat ≤ 35184372088832)) (by omega)) (Below.refl _ _) (Nat.le_refl _) ?_; intro v399 w10 ho11 hb hg_ hnew_; clear hg_ hnew_; (first | rw [← Ny398.out] at ho11 | (simp only [Int.reduceToNat] at ho11; rw [← Ny398.out] at ho11)); have n0_ := Aside0.mk (Kd.R_lower ho11 (below_size hb_)); have n1_ := bb_ BK396 hb; have n2_ := bb_ BK397 hb; have n3_ := Aside0.mk (below_step hb_ hb); clear BK396; clear BK397; clear HB; have HO400 := n0_; have BK396 := n1_; have BK397 := n2_; have HB := n3_; clear n0_ n1_ n2_ n3_; clear hb ho11; have hcz12_0 : w10.cell? ⟨gb397, 0, none⟩ = some (.slice A1_0 l1_0.length c1_0) := (blk_cell BK397.out 0).trans rfl; have hcz12_1 : w10.cell? ⟨gb397, 1, none⟩ = some (.slice A1_1 l1_1.length c1_1) := (blk_cell BK397.out 1).trans rfl; have hfz12_0 := blk_frozen BK397.out 0; have hfz12_1 := blk_frozen BK397.out 1; obtain ⟨Ao13, co13, eo13⟩ := Kd.R_slice HO400.out; subst eo13))
     repeat (go_quiet (first | ((with_reducible refine gate_dst (N := 2) rfl ?_); (try (refine gate_guard (by rfl) ?_; dsimp only)); refine box_event ?hg (N := 2) ?hd (cs := #[.slice A0_0 l0_0.length c0_0, .slice A0_1 l0_1.length c0_1, .slice A0_2 l0_2.length c0_2]) (t := 34) ?hr ?_; (case hd => rfl); (case hg => rfl); (case hr => first | (go_simp; done) | (go_simp; rfl)); intro gb396 hg w6 hbox hb; have n0_ := Aside0.mk (below_step hb_ hb); have n1_ := Aside0.mk (hbox); have n2_ : Aside0 (w.heap.size ≤ gb396) := gz_; have n3_ : Aside0 (w.heap.size ≤ gb396) := gz_; clear HB; have HB := n0_; have BK396 := n1_; have GW396 := n2_; have GE396 := n3_; clear n0_ n1_ n2_ n3_; clear hb hbox hg) | ((with_reducible refine gate_dst (N := 3) rfl ?_); (try (refine gate_guard (by rfl) ?_; dsimp only)); refine box_event ?hg (N := 3) ?hd (cs := #[.slice A1_0 l1_0.length c1_0, .slice A1_1 l1_1.length c1_1]) (t := 36) ?hr ?_; (case hd => rfl); (case hg => rfl); (case hr => first | (go_simp; done) | (go_simp; rfl)); intro gb397 hg w7 hbox hb; have n0_ := bb_ BK396 hb; have n1_ := Aside0.mk (below_step hb_ hb); have n2_ := Aside0.mk (hbox); have n3_ : Aside0 (w.heap.size ≤ gb397) := gz_; have n4_ : Aside0 (w.heap.size ≤ gb397) := gz_; have n5_ := Aside0.mk ((by rw [hg]; exact Nat.ne_of_lt (blk_lt (g := gb396) (o := .cells #[.slice A0_0 l0_0.length c0_0, .slice A0_1 l0_1.length c0_1, .slice A0_2 l0_2.length c0_2] 34 (0, 0)) (bk_ BK396.out)) : gb396 ≠ gb397)); have n6_ := Aside0.mk ((by rw [hg]; exact Nat.ne_of_gt (blk_lt (g := gb396) (o := .cells #[.slice A0_0 l0_0.length c0_0, .slice A0_1 l0_1.length c0_1, .slice A0_2 l0_2.length c0_2] 34 (0, 0)) (bk_ BK396.out)) : gb397 ≠ gb396)); clear BK396; clear HB; have BK396 := n0_; have HB := n1_; have BK397 := n2_; have GW397 := n3_; have GE397 := n4_; have NB396_397 := n5_; have NB397_396 := n6_; clear n0_ n1_ n2_ n3_ n4_ n5_ n6_; clear hb hbox hg; have hnb8 := NB396_397.out; have hnc8 := NB397_396.out; have hcz9_0 : w7.cell? ⟨gb396, 0, none⟩ = some (.slice A0_0 l0_0.length c0_0) := (blk_cell BK396.out 0).trans rfl; have hcz9_1 : w7.cell? ⟨gb396, 1, none⟩ = some (.slice A0_1 l0_1.length c0_1) := (blk_cell BK396.out 1).trans rfl; have hcz9_2 : w7.cell? ⟨gb396, 2, none⟩ = some (.slice A0_2 l0_2.length c0_2) := (blk_cell BK396.out 2).trans rfl; have hfz9_0 := blk_frozen BK396.out 0; have hfz9_1 := blk_frozen BK396.out 1; have hfz9_2 := blk_frozen BK396.out 2) | ((with_reducible refine gate_dst (N := 26) rfl ?_); (try (refine gate_guard (by rfl) ?_; dsimp only)); refine Kd.R_make (Kd.int .i64) _ 3 rfl (N := 26) rfl 31 _ _ rfl (l0_0.length : Int) rfl rfl Tryd.underlying31 (.int .i64 0) 8 info3 rfl (by decide) (by omega) 0 (ok := fun _ => True) (okp := fun _ => True) rfl (fun _ hk => hk) trivial (of_decide_eq_true as_) (Nat.le_trans (Nat.mul_le_mul_right _ (of_decide_eq_true as_ : (l0_0.length : Int).toNat ≤ 35184372088832)) (by omega)) (Below.refl _ _) (Nat.le_refl _) ?_; intro v399 w10 ho11 hb hg_ hnew_; clear hg_ hnew_; (first | rw [← Ny398.out] at ho11 | (simp only [Int.reduceToNat] at ho11; rw [← Ny398.out] at ho11)); have n0_ := Aside0.mk (Kd.R_lower ho11 (below_size hb_)); have n1_ := bb_ BK396 hb; have n2_ := bb_ BK397 hb; have n3_ := Aside0.mk (below_step hb_ hb); clear BK396; clear BK397; clear HB; have HO400 := n0_; have BK396 := n1_; have BK397 := n2_; have HB := n3_; clear n0_ n1_ n2_ n3_; clear hb ho11; have hcz12_0 : w10.cell? ⟨gb397, 0, none⟩ = some (.slice A1_0 l1_0.length c1_0) := (blk_cell BK397.out 0).trans rfl; have hcz12_1 : w10.cell? ⟨gb397, 1, none⟩ = some (.slice A1_1 l1_1.length c1_1) := (blk_cell BK397.out 1).trans rfl; have hfz12_0 := blk_frozen BK397.out 0; have hfz12_1 := blk_frozen BK397.out 1; obtain ⟨Ao13, co13, eo13⟩ := Kd.R_slice HO400.out; subst eo13)); try go_wp2_with (first | ((with_reducible refine gate_dst (N := 2) rfl ?_); (try (refine gate_guard (by rfl) ?_; dsimp only)); refine box_event ?hg (N := 2) ?hd (cs := #[.slice A0_0 l0_0.length c0_0, .slice A0_1 l0_1.length c0_1, .slice A0_2 l0_2.length c0_2]) (t := 34) ?hr ?_; (case hd => rfl); (case hg => rfl); (case hr => first | (go_simp; done) | (go_simp; rfl)); intro gb396 hg w6 hbox hb; have n0_ := Aside0.mk (below_step hb_ hb); have n1_ := Aside0.mk (hbox); have n2_ : Aside0 (w.heap.size ≤ gb396) := gz_; have n3_ : Aside0 (w.heap.size ≤ gb396) := gz_; clear HB; have HB := n0_; have BK396 := n1_; have GW396 := n2_; have GE396 := n3_; clear n0_ n1_ n2_ n3_; clear hb hbox hg) | ((with_reducible refine gate_dst (N := 3) rfl ?_); (try (refine gate_guard (by rfl) ?_; dsimp only)); refine box_event ?hg (N := 3) ?hd (cs := #[.slice A1_0 l1_0.length c1_0, .slice A1_1 l1_1.length c1_1]) (t := 36) ?hr ?_; (case hd => rfl); (case hg => rfl); (case hr => first | (go_simp; done) | (go_simp; rfl)); intro gb397 hg w7 hbox hb; have n0_ := bb_ BK396 hb; have n1_ := Aside0.mk (below_step hb_ hb); have n2_ := Aside0.mk (hbox); have n3_ : Aside0 (w.heap.size ≤ gb397) := gz_; have n4_ : Aside0 (w.heap.size ≤ gb397) := gz_; have n5_ := Aside0.mk ((by rw [hg]; exact Nat.ne_of_lt (blk_lt (g := gb396) (o := .cells #[.slice A0_0 l0_0.length c0_0, .slice A0_1 l0_1.length c0_1, .slice A0_2 l0_2.length c0_2] 34 (0, 0)) (bk_ BK396.out)) : gb396 ≠ gb397)); have n6_ := Aside0.mk ((by rw [hg]; exact Nat.ne_of_gt (blk_lt (g := gb396) (o := .cells #[.slice A0_0 l0_0.length c0_0, .slice A0_1 l0_1.length c0_1, .slice A0_2 l0_2.length c0_2] 34 (0, 0)) (bk_ BK396.out)) : gb397 ≠ gb396)); clear BK396; clear HB; have BK396 := n0_; have HB := n1_; have BK397 := n2_; have GW397 := n3_; have GE397 := n4_; have NB396_397 := n5_; have NB397_396 := n6_; clear n0_ n1_ n2_ n3_ n4_ n5_ n6_; clear hb hbox hg; have hnb8 := NB396_397.out; have hnc8 := NB397_396.out; have hcz9_0 : w7.cell? ⟨gb396, 0, none⟩ = some (.slice A0_0 l0_0.length c0_0) := (blk_cell BK396.out 0).trans rfl; have hcz9_1 : w7.cell? ⟨gb396, 1, none⟩ = some (.slice A0_1 l0_1.length c0_1) := (blk_cell BK396.out 1).trans rfl; have hcz9_2 : w7.cell? ⟨gb396, 2, none⟩ = some (.slice A0_2 l0_2.length c0_2) := (blk_cell BK396.out 2).trans rfl; have hfz9_0 := blk_frozen BK396.out 0; have hfz9_1 := blk_frozen BK396.out 1; have hfz9_2 := blk_frozen BK396.out 2) | ((with_reducible refine gate_dst (N := 26) rfl ?_); (try (refine gate_guard (by rfl) ?_; dsimp only)); refine Kd.R_make (Kd.int .i64) _ 3 rfl (N := 26) rfl 31 _ _ rfl (l0_0.length : Int) rfl rfl Tryd.underlying31 (.int .i64 0) 8 info3 rfl (by decide) (by omega) 0 (ok := fun _ => True) (okp := fun _ => True) rfl (fun _ hk => hk) trivial (of_decide_eq_true as_) (Nat.le_trans (Nat.mul_le_mul_right _ (of_decide_eq_true as_ : (l0_0.length : Int).toNat ≤ 35184372088832)) (by omega)) (Below.refl _ _) (Nat.le_refl _) ?_; intro v399 w10 ho11 hb hg_ hnew_; clear hg_ hnew_; (first | rw [← Ny398.out] at ho11 | (simp only [Int.reduceToNat] at ho11; rw [← Ny398.out] at ho11)); have n0_ := Aside0.mk (Kd.R_lower ho11 (below_size hb_)); have n1_ := bb_ BK396 hb; have n2_ := bb_ BK397 hb; have n3_ := Aside0.mk (below_step hb_ hb); clear BK396; clear BK397; clear HB; have HO400 := n0_; have BK396 := n1_; have BK397 := n2_; have HB := n3_; clear n0_ n1_ n2_ n3_; clear hb ho11; have hcz12_0 : w10.cell? ⟨gb397, 0, none⟩ = some (.slice A1_0 l1_0.length c1_0) := (blk_cell BK397.out 0).trans rfl; have hcz12_1 : w10.cell? ⟨gb397, 1, none⟩ = some (.slice A1_1 l1_1.length c1_1) := (blk_cell BK397.out 1).trans rfl; have hfz12_0 := blk_frozen BK397.out 0; have hfz12_1 := blk_frozen BK397.out 1; obtain ⟨Ao13, co13, eo13⟩ := Kd.R_slice HO400.out; subst eo13)))
     go_loopg [33] k (fun kq v33 w' => ∃ (x6_1 : List Int) (x33_1 : Int), v33 = .int .i64 x33_1 ∧ Aside0 (impl_Board_wins.l0 kq x6_1 (y398.length : Int) x33_1 l0_0 l0_1 l0_2 l1_0 l1_1 = some r) ∧ Aside0 (kq ≤ k) ∧ Aside0 (Kd.R (Kd.int .i64) 3 w' w.heap.size (fun _ => True) (.slice Ao13 y398.length co13) x6_1) ∧ Aside0 (w'.heap[gb396]? = some (.cells #[(.slice A0_0 l0_0.length c0_0), (.slice A0_1 l0_1.length c0_1), (.slice A0_2 l0_2.length c0_2)] 34 (0, 0))) ∧ Aside0 (w'.heap[gb397]? = some (.cells #[(.slice A1_0 l1_0.length c1_0), (.slice A1_1 l1_1.length c1_1)] 36 (0, 0))) ∧ Aside0 (Below w.heap.size w w'))
     case atStart => exact ⟨(y398), (0), es_, H', ⟨Nat.le_refl _⟩, ⟨ra_ HO400.out⟩, ⟨bk_ BK396.out⟩, ⟨bk_ BK397.out⟩, ⟨hb_⟩⟩
     case round =>
      clear H'
      obtain ⟨x6_1, x33_1, rfl, HA, HK1, HO_6, BK396, BK397, HB⟩ := hrel
      have hl6_1 := (Kd.R_reads' HO_6.out).1
      rw [hl6_1] at HO_6
      (try simp only [hl6_1])
      (try simp only [hl6_1] at BK396)
      (try simp only [hl6_1] at BK397)
      cases gk with
      | zero => exact absurd HA.out (by simp [impl_Board_wins.l0])
      | succ k1 =>
       have H := HA.out
       clear HA
       simp only [impl_Board_wins.l0] at H
       by_cases c14 : x33_1 < (y398.length : Int)
       ·rw [if_pos c14] at H
        have c14b0 : decide (x33_1 < (y398.length : Int)) = true := decide_eq_true c14
        (try simp only [hl6_1] at c14b0)
        clear c14
        replace H := Option.bind_eq_some_iff.mp H
        obtain ⟨t401, A150, H⟩ := H
        replace H : (if t401 = true then (if 0 ≤ x33_1 then (if x33_1 < (x6_1.length : Int) then (impl_Board_wins.l0 k1 (x6_1.set (x33_1 : Int).toNat (-1)) (y398.length : Int) (wrap64 (x33_1 + 1)) l0_0 l0_1 l0_2 l1_0 l1_1) else (none)) else (none)) else (impl_Board_wins.l0 k1 x6_1 (y398.length : Int) (wrap64 (x33_1 + 1)) l0_0 l0_1 l0_2 l1_0 l1_1)) = some r := H
        have A15 := Aside0.mk A150
        clear A150
        by_cases c16 : t401 = true
        ·subst c16
         rw [if_pos rfl] at H
         by_cases c17 : 0 ≤ x33_1
         ·rw [if_pos c17] at H
          have c17b0 : decide (0 ≤ x33_1) = true := decide_eq_true c17
          clear c17
          by_cases c18 : x33_1 < (x6_1.length : Int)
          ·rw [if_pos c18] at H
           have c18b0 : decide (x33_1 < (x6_1.length : Int)) = true := decide_eq_true c18
           (try simp only [hl6_1] at c18b0)
           clear c18
           obtain ⟨y402, hy402⟩ : ∃ y_ : List Int, y_ = (x6_1.set (x33_1 : Int).toNat (-1)) := ⟨_, rfl⟩
           replace H : (impl_Board_wins.l0 k1 y402 (y398.length : Int) (wrap64 (x33_1 + 1)) l0_0 l0_1 l0_2 l1_0 l1_1) = some r := by first | (rw [hy402]; with_reducible exact H) | (have H2_ := (Option.bind_some _ _).symm.trans H; rw [hy402]; with_reducible exact H2_) | (have H2_ := (Option.bind_some _ _).symm.trans H; with_reducible exact H2_) | with_reducible exact H | (rw [hy402]; exact H) | exact H
           have Ny402 := Aside0.mk hy402
           clear hy402
           have H' := Aside0.mk H
           clear H
           have hnb20 := NB396_397.out
           have hnc20 := NB397_396.out
           have hcz21_0 : wr.cell? ⟨gb396, 0, none⟩ = some (.slice A0_0 l0_0.length c0_0) := (blk_cell BK396.out 0).trans rfl
           have hcz21_1 : wr.cell? ⟨gb396, 1, none⟩ = some (.slice A0_1 l0_1.length c0_1) := (blk_cell BK396.out 1).trans rfl
           have hcz21_2 : wr.cell? ⟨gb396, 2, none⟩ = some (.slice A0_2 l0_2.length c0_2) := (blk_cell BK396.out 2).trans rfl
           have hfz21_0 := blk_frozen BK396.out 0
           have hfz21_1 := blk_frozen BK396.out 1
           have hfz21_2 := blk_frozen BK396.out 2
           have hcz22_0 : wr.cell? ⟨gb397, 0, none⟩ = some (.slice A1_0 l1_0.length c1_0) := (blk_cell BK397.out 0).trans rfl
           have hcz22_1 : wr.cell? ⟨gb397, 1, none⟩ = some (.slice A1_1 l1_1.length c1_1) := (blk_cell BK397.out 1).trans rfl
           have hfz22_0 := blk_frozen BK397.out 0
           have hfz22_1 := blk_frozen BK397.out 1
           go_wp2_with (first | (go_at_call 79; (with_reducible refine (impl_Board_shuns.calls k1 _ _ l0_0 _ _ l0_1 _ _ l0_2 _ _ l1_0 _ _ l1_1 x33_1 true _ ?side1 ?side2 ?side3 ?side4 ?side5 ?side6 ?side7 ?side8 ?side9 ?side10 A15.out).mono ?_); (case side1 => exact cb_ HR0_0.out); (case side2 => exact HC0_0.out); (case side3 => exact cb_ HR0_1.out); (case side4 => exact HC0_1.out); (case side5 => exact cb_ HR0_2.out); (case side6 => exact HC0_2.out); (case side7 => exact cb_ HR1_0.out); (case side8 => exact HC1_0.out); (case side9 => exact cb_ HR1_1.out); (case side10 => exact HC1_1.out); rintro e w23 ⟨rfl, hb⟩; have n0_ := Aside0.mk (Kd.R_below (ra_ HO_6.out) hb); have n1_ := bb_ BK396 hb; have n2_ := bb_ BK397 hb; have n3_ := Aside0.mk (below_step hb_ hb); clear HO_6; clear BK396; clear BK397; clear HB; have HO_6 := n0_; have BK396 := n1_; have BK397 := n2_; have HB := n3_; clear n0_ n1_ n2_ n3_; (try clear hb); (try clear hb2); (try clear hk); (try clear hi); have p19 : 0 ≤ (x33_1 : Int) := of_decide_eq_true as_; have q19 : (x33_1 : Int) < ((x6_1.length : Int) : Int) := of_decide_eq_true as_; obtain ⟨go19, co19, eo19, gb19, gl19, cl19, HG19⟩ := Kd.R_form HO_6.out (by omega); (first | cases eo19 | (injection eo19 with ea_ en_ ec_; (first | subst ea_ | (injection ea_ with ea_; subst ea_)); subst ec_; clear en_)); have GB19 := Aside0.mk gb19; have GG19 := Aside0.mk HG19; clear gb19 gl19 HG19; obtain ⟨hx19_0, hf19_0⟩ := Kd.R_celln 0 HO_6.out (x33_1 : Int) p19 q19; replace p19 := eq_true p19; replace q19 := eq_true q19; obtain ⟨hy24_, hz24_⟩ := Kd.R_celln 0 HO_6.out (x33_1 : Int) (of_decide_eq_true as_) (of_decide_eq_true as_); have HP24 := Kd.R_putg HO_6.out (x33_1 : Int) (-1)) | ((with_reducible refine gate_store (t := 3) (p := 42) rfl ?_); (try (rw [drewN_self w23]; generalize hq_ : World.drewN w23 _ = w23; have n0_ := Aside0.mk (Kd.R_at hq_ HO_6.out); have n1_ := Aside0.mk (blk_at hq_ BK396.out); have n2_ := Aside0.mk (blk_at hq_ BK397.out); have n3_ := Aside0.mk (below_at hq_ HB.out); clear hq_ HO_6 BK396 BK397 HB; have HO_6 := n0_; have BK396 := n1_; have BK397 := n2_; have HB := n3_; clear n0_ n1_ n2_ n3_; (try (obtain ⟨hy24_, hz24_⟩ := Kd.R_celln 0 HO_6.out (x33_1 : Int) (of_decide_eq_true as_) (of_decide_eq_true as_))); (try (have HP24 := Kd.R_putg HO_6.out (x33_1 : Int) (-1))))); refine store_event (t := 3) (p := 42) (v := ?vo_w25) (w1 := (w23.setCell ⟨go19, (x33_1 : Int).toNat, none⟩ (.int .i64 (-1)))) ?hg ?ho ?hn ?hr ?_; (case ho => rfl); (case hg => rfl); (case hn => rfl); (case hr => first | (go_simp; done) | (go_simp; rfl)); intro w25 hw; have hg : w23.grownBy w25 (some go19) := (by rw [hw]; exact HP24.2); have hp_ : Kd.R (Kd.int .i64) 3 w25 w.heap.size (fun _ => True) (.slice (some ⟨go19, 0, none⟩) x6_1.length co13) y402 := (by rw [hw, Ny402.out]; exact HP24.1); clear HP24; have n0_ := Aside0.mk (hp_); have n1_ := Aside0.mk (blk_grown (g := gb396) (o := .cells #[.slice A0_0 l0_0.length c0_0, .slice A0_1 l0_1.length c0_1, .slice A0_2 l0_2.length c0_2] 34 (0, 0)) (bk_ BK396.out) hg (Kd.R_ne HO_6.out BK396.out (by decide))); have n2_ := Aside0.mk (blk_grown (g := gb397) (o := .cells #[.slice A1_0 l1_0.length c1_0, .slice A1_1 l1_1.length c1_1] 36 (0, 0)) (bk_ BK397.out) hg (Kd.R_ne HO_6.out BK397.out (by decide))); have n3_ := Aside0.mk ((by rw [hw]; exact below_set (HB.out) GB19.out : Below w.heap.size w w25)); clear HO_6; clear BK396; clear BK397; clear HB; have HO_6 := n0_; have BK396 := n1_; have BK397 := n2_; have HB := n3_; clear n0_ n1_ n2_ n3_; clear hg hw hp_))
           repeat (go_quiet (first | (go_at_call 79; (with_reducible refine (impl_Board_shuns.calls k1 _ _ l0_0 _ _ l0_1 _ _ l0_2 _ _ l1_0 _ _ l1_1 x33_1 true _ ?side1 ?side2 ?side3 ?side4 ?side5 ?side6 ?side7 ?side8 ?side9 ?side10 A15.out).mono ?_); (case side1 => exact cb_ HR0_0.out); (case side2 => exact HC0_0.out); (case side3 => exact cb_ HR0_1.out); (case side4 => exact HC0_1.out); (case side5 => exact cb_ HR0_2.out); (case side6 => exact HC0_2.out); (case side7 => exact cb_ HR1_0.out); (case side8 => exact HC1_0.out); (case side9 => exact cb_ HR1_1.out); (case side10 => exact HC1_1.out); rintro e w23 ⟨rfl, hb⟩; have n0_ := Aside0.mk (Kd.R_below (ra_ HO_6.out) hb); have n1_ := bb_ BK396 hb; have n2_ := bb_ BK397 hb; have n3_ := Aside0.mk (below_step hb_ hb); clear HO_6; clear BK396; clear BK397; clear HB; have HO_6 := n0_; have BK396 := n1_; have BK397 := n2_; have HB := n3_; clear n0_ n1_ n2_ n3_; (try clear hb); (try clear hb2); (try clear hk); (try clear hi); have p19 : 0 ≤ (x33_1 : Int) := of_decide_eq_true as_; have q19 : (x33_1 : Int) < ((x6_1.length : Int) : Int) := of_decide_eq_true as_; obtain ⟨go19, co19, eo19, gb19, gl19, cl19, HG19⟩ := Kd.R_form HO_6.out (by omega); (first | cases eo19 | (injection eo19 with ea_ en_ ec_; (first | subst ea_ | (injection ea_ with ea_; subst ea_)); subst ec_; clear en_)); have GB19 := Aside0.mk gb19; have GG19 := Aside0.mk HG19; clear gb19 gl19 HG19; obtain ⟨hx19_0, hf19_0⟩ := Kd.R_celln 0 HO_6.out (x33_1 : Int) p19 q19; replace p19 := eq_true p19; replace q19 := eq_true q19; obtain ⟨hy24_, hz24_⟩ := Kd.R_celln 0 HO_6.out (x33_1 : Int) (of_decide_eq_true as_) (of_decide_eq_true as_); have HP24 := Kd.R_putg HO_6.out (x33_1 : Int) (-1)) | ((with_reducible refine gate_store (t := 3) (p := 42) rfl ?_); (try (rw [drewN_self w23]; generalize hq_ : World.drewN w23 _ = w23; have n0_ := Aside0.mk (Kd.R_at hq_ HO_6.out); have n1_ := Aside0.mk (blk_at hq_ BK396.out); have n2_ := Aside0.mk (blk_at hq_ BK397.out); have n3_ := Aside0.mk (below_at hq_ HB.out); clear hq_ HO_6 BK396 BK397 HB; have HO_6 := n0_; have BK396 := n1_; have BK397 := n2_; have HB := n3_; clear n0_ n1_ n2_ n3_; (try (obtain ⟨hy24_, hz24_⟩ := Kd.R_celln 0 HO_6.out (x33_1 : Int) (of_decide_eq_true as_) (of_decide_eq_true as_))); (try (have HP24 := Kd.R_putg HO_6.out (x33_1 : Int) (-1))))); refine store_event (t := 3) (p := 42) (v := ?vo_w25) (w1 := (w23.setCell ⟨go19, (x33_1 : Int).toNat, none⟩ (.int .i64 (-1)))) ?hg ?ho ?hn ?hr ?_; (case ho => rfl); (case hg => rfl); (case hn => rfl); (case hr => first | (go_simp; done) | (go_simp; rfl)); intro w25 hw; have hg : w23.grownBy w25 (some go19) := (by rw [hw]; exact HP24.2); have hp_ : Kd.R (Kd.int .i64) 3 w25 w.heap.size (fun _ => True) (.slice (some ⟨go19, 0, none⟩) x6_1.length co13) y402 := (by rw [hw, Ny402.out]; exact HP24.1); clear HP24; have n0_ := Aside0.mk (hp_); have n1_ := Aside0.mk (blk_grown (g := gb396) (o := .cells #[.slice A0_0 l0_0.length c0_0, .slice A0_1 l0_1.length c0_1, .slice A0_2 l0_2.length c0_2] 34 (0, 0)) (bk_ BK396.out) hg (Kd.R_ne HO_6.out BK396.out (by decide))); have n2_ := Aside0.mk (blk_grown (g := gb397) (o := .cells #[.slice A1_0 l1_0.length c1_0, .slice A1_1 l1_1.length c1_1] 36 (0, 0)) (bk_ BK397.out) hg (Kd.R_ne HO_6.out BK397.out (by decide))); have n3_ := Aside0.mk ((by rw [hw]; exact below_set (HB.out) GB19.out : Below w.heap.size w w25)); clear HO_6; clear BK396; clear BK397; clear HB; have HO_6 := n0_; have BK396 := n1_; have BK397 := n2_; have HB := n3_; clear n0_ n1_ n2_ n3_; clear hg hw hp_)); try go_wp2_with (first | (go_at_call 79; (with_reducible refine (impl_Board_shuns.calls k1 _ _ l0_0 _ _ l0_1 _ _ l0_2 _ _ l1_0 _ _ l1_1 x33_1 true _ ?side1 ?side2 ?side3 ?side4 ?side5 ?side6 ?side7 ?side8 ?side9 ?side10 A15.out).mono ?_); (case side1 => exact cb_ HR0_0.out); (case side2 => exact HC0_0.out); (case side3 => exact cb_ HR0_1.out); (case side4 => exact HC0_1.out); (case side5 => exact cb_ HR0_2.out); (case side6 => exact HC0_2.out); (case side7 => exact cb_ HR1_0.out); (case side8 => exact HC1_0.out); (case side9 => exact cb_ HR1_1.out); (case side10 => exact HC1_1.out); rintro e w23 ⟨rfl, hb⟩; have n0_ := Aside0.mk (Kd.R_below (ra_ HO_6.out) hb); have n1_ := bb_ BK396 hb; have n2_ := bb_ BK397 hb; have n3_ := Aside0.mk (below_step hb_ hb); clear HO_6; clear BK396; clear BK397; clear HB; have HO_6 := n0_; have BK396 := n1_; have BK397 := n2_; have HB := n3_; clear n0_ n1_ n2_ n3_; (try clear hb); (try clear hb2); (try clear hk); (try clear hi); have p19 : 0 ≤ (x33_1 : Int) := of_decide_eq_true as_; have q19 : (x33_1 : Int) < ((x6_1.length : Int) : Int) := of_decide_eq_true as_; obtain ⟨go19, co19, eo19, gb19, gl19, cl19, HG19⟩ := Kd.R_form HO_6.out (by omega); (first | cases eo19 | (injection eo19 with ea_ en_ ec_; (first | subst ea_ | (injection ea_ with ea_; subst ea_)); subst ec_; clear en_)); have GB19 := Aside0.mk gb19; have GG19 := Aside0.mk HG19; clear gb19 gl19 HG19; obtain ⟨hx19_0, hf19_0⟩ := Kd.R_celln 0 HO_6.out (x33_1 : Int) p19 q19; replace p19 := eq_true p19; replace q19 := eq_true q19; obtain ⟨hy24_, hz24_⟩ := Kd.R_celln 0 HO_6.out (x33_1 : Int) (of_decide_eq_true as_) (of_decide_eq_true as_); have HP24 := Kd.R_putg HO_6.out (x33_1 : Int) (-1)) | ((with_reducible refine gate_store (t := 3) (p := 42) rfl ?_); (try (rw [drewN_self w23]; generalize hq_ : World.drewN w23 _ = w23; have n0_ := Aside0.mk (Kd.R_at hq_ HO_6.out); have n1_ := Aside0.mk (blk_at hq_ BK396.out); have n2_ := Aside0.mk (blk_at hq_ BK397.out); have n3_ := Aside0.mk (below_at hq_ HB.out); clear hq_ HO_6 BK396 BK397 HB; have HO_6 := n0_; have BK396 := n1_; have BK397 := n2_; have HB := n3_; clear n0_ n1_ n2_ n3_; (try (obtain ⟨hy24_, hz24_⟩ := Kd.R_celln 0 HO_6.out (x33_1 : Int) (of_decide_eq_true as_) (of_decide_eq_true as_))); (try (have HP24 := Kd.R_putg HO_6.out (x33_1 : Int) (-1))))); refine store_event (t := 3) (p := 42) (v := ?vo_w25) (w1 := (w23.setCell ⟨go19, (x33_1 : Int).toNat, none⟩ (.int .i64 (-1)))) ?hg ?ho ?hn ?hr ?_; (case ho => rfl); (case hg => rfl); (case hn => rfl); (case hr => first | (go_simp; done) | (go_simp; rfl)); intro w25 hw; have hg : w23.grownBy w25 (some go19) := (by rw [hw]; exact HP24.2); have hp_ : Kd.R (Kd.int .i64) 3 w25 w.heap.size (fun _ => True) (.slice (some ⟨go19, 0, none⟩) x6_1.length co13) y402 := (by rw [hw, Ny402.out]; exact HP24.1); clear HP24; have n0_ := Aside0.mk (hp_); have n1_ := Aside0.mk (blk_grown (g := gb396) (o := .cells #[.slice A0_0 l0_0.length c0_0, .slice A0_1 l0_1.length c0_1, .slice A0_2 l0_2.length c0_2] 34 (0, 0)) (bk_ BK396.out) hg (Kd.R_ne HO_6.out BK396.out (by decide))); have n2_ := Aside0.mk (blk_grown (g := gb397) (o := .cells #[.slice A1_0 l1_0.length c1_0, .slice A1_1 l1_1.length c1_1] 36 (0, 0)) (bk_ BK397.out) hg (Kd.R_ne HO_6.out BK397.out (by decide))); have n3_ := Aside0.mk ((by rw [hw]; exact below_set (HB.out) GB19.out : Below w.heap.size w w25)); clear HO_6; clear BK396; clear BK397; clear HB; have HO_6 := n0_; have BK396 := n1_; have BK397 := n2_; have HB := n3_; clear n0_ n1_ n2_ n3_; clear hg hw hp_)))
           (try simp only [← hl6_1])
           go_roundg k1
           case measure => have := HK1.out; omega
           case rel => exact ⟨(y402), (wrap64 (x33_1 + 1)), es_, H', ⟨by have := HK1.out; omega⟩, ⟨by (try simp only [hl6_1]); (with_reducible repeat (first | apply Kd.R_alloc | apply Kd.R_drewN | apply Kd.R_drew)); exact HO_6.out⟩, ⟨by (try simp only [hl6_1]); (with_reducible repeat (first | refine blk_drewN ?_ _ | refine blk_drew ?_ | refine blk_alloc ?_ _)); exact BK396.out⟩, ⟨by (try simp only [hl6_1]); (with_reducible repeat (first | refine blk_drewN ?_ _ | refine blk_drew ?_ | refine blk_alloc ?_ _)); exact BK397.out⟩, ⟨hb_⟩⟩
          ·rw [if_neg c18] at H
           exact absurd H (by simp)
         ·rw [if_neg c17] at H
          exact absurd H (by simp)
        ·replace c16 := Bool.eq_false_iff.mpr c16
         subst c16
         rw [if_neg (show ¬ (false = true) by decide)] at H
         have H' := Aside0.mk H
         clear H
         have hnb26 := NB396_397.out
         have hnc26 := NB397_396.out
         have hcz27_0 : wr.cell? ⟨gb396, 0, none⟩ = some (.slice A0_0 l0_0.length c0_0) := (blk_cell BK396.out 0).trans rfl
         have hcz27_1 : wr.cell? ⟨gb396, 1, none⟩ = some (.slice A0_1 l0_1.length c0_1) := (blk_cell BK396.out 1).trans rfl
         have hcz27_2 : wr.cell? ⟨gb396, 2, none⟩ = some (.slice A0_2 l0_2.length c0_2) := (blk_cell BK396.out 2).trans rfl
         have hfz27_0 := blk_frozen BK396.out 0
         have hfz27_1 := blk_frozen BK396.out 1
         have hfz27_2 := blk_frozen BK396.out 2
         have hcz28_0 : wr.cell? ⟨gb397, 0, none⟩ = some (.slice A1_0 l1_0.length c1_0) := (blk_cell BK397.out 0).trans rfl
         have hcz28_1 : wr.cell? ⟨gb397, 1, none⟩ = some (.slice A1_1 l1_1.length c1_1) := (blk_cell BK397.out 1).trans rfl
         have hfz28_0 := blk_frozen BK397.out 0
         have hfz28_1 := blk_frozen BK397.out 1
         go_wp2_with (first | (go_at_call 79; (with_reducible refine (impl_Board_shuns.calls k1 _ _ l0_0 _ _ l0_1 _ _ l0_2 _ _ l1_0 _ _ l1_1 x33_1 false _ ?side1 ?side2 ?side3 ?side4 ?side5 ?side6 ?side7 ?side8 ?side9 ?side10 A15.out).mono ?_); (case side1 => exact cb_ HR0_0.out); (case side2 => exact HC0_0.out); (case side3 => exact cb_ HR0_1.out); (case side4 => exact HC0_1.out); (case side5 => exact cb_ HR0_2.out); (case side6 => exact HC0_2.out); (case side7 => exact cb_ HR1_0.out); (case side8 => exact HC1_0.out); (case side9 => exact cb_ HR1_1.out); (case side10 => exact HC1_1.out); rintro e w29 ⟨rfl, hb⟩; have n0_ := Aside0.mk (Kd.R_below (ra_ HO_6.out) hb); have n1_ := bb_ BK396 hb; have n2_ := bb_ BK397 hb; have n3_ := Aside0.mk (below_step hb_ hb); clear HO_6; clear BK396; clear BK397; clear HB; have HO_6 := n0_; have BK396 := n1_; have BK397 := n2_; have HB := n3_; clear n0_ n1_ n2_ n3_; (try clear hb); (try clear hb2); (try clear hk); (try clear hi)))
         repeat (go_quiet (first | (go_at_call 79; (with_reducible refine (impl_Board_shuns.calls k1 _ _ l0_0 _ _ l0_1 _ _ l0_2 _ _ l1_0 _ _ l1_1 x33_1 false _ ?side1 ?side2 ?side3 ?side4 ?side5 ?side6 ?side7 ?side8 ?side9 ?side10 A15.out).mono ?_); (case side1 => exact cb_ HR0_0.out); (case side2 => exact HC0_0.out); (case side3 => exact cb_ HR0_1.out); (case side4 => exact HC0_1.out); (case side5 => exact cb_ HR0_2.out); (case side6 => exact HC0_2.out); (case side7 => exact cb_ HR1_0.out); (case side8 => exact HC1_0.out); (case side9 => exact cb_ HR1_1.out); (case side10 => exact HC1_1.out); rintro e w29 ⟨rfl, hb⟩; have n0_ := Aside0.mk (Kd.R_below (ra_ HO_6.out) hb); have n1_ := bb_ BK396 hb; have n2_ := bb_ BK397 hb; have n3_ := Aside0.mk (below_step hb_ hb); clear HO_6; clear BK396; clear BK397; clear HB; have HO_6 := n0_; have BK396 := n1_; have BK397 := n2_; have HB := n3_; clear n0_ n1_ n2_ n3_; (try clear hb); (try clear hb2); (try clear hk); (try clear hi))); try go_wp2_with (first | (go_at_call 79; (with_reducible refine (impl_Board_shuns.calls k1 _ _ l0_0 _ _ l0_1 _ _ l0_2 _ _ l1_0 _ _ l1_1 x33_1 false _ ?side1 ?side2 ?side3 ?side4 ?side5 ?side6 ?side7 ?side8 ?side9 ?side10 A15.out).mono ?_); (case side1 => exact cb_ HR0_0.out); (case side2 => exact HC0_0.out); (case side3 => exact cb_ HR0_1.out); (case side4 => exact HC0_1.out); (case side5 => exact cb_ HR0_2.out); (case side6 => exact HC0_2.out); (case side7 => exact cb_ HR1_0.out); (case side8 => exact HC1_0.out); (case side9 => exact cb_ HR1_1.out); (case side10 => exact HC1_1.out); rintro e w29 ⟨rfl, hb⟩; have n0_ := Aside0.mk (Kd.R_below (ra_ HO_6.out) hb); have n1_ := bb_ BK396 hb; have n2_ := bb_ BK397 hb; have n3_ := Aside0.mk (below_step hb_ hb); clear HO_6; clear BK396; clear BK397; clear HB; have HO_6 := n0_; have BK396 := n1_; have BK397 := n2_; have HB := n3_; clear n0_ n1_ n2_ n3_; (try clear hb); (try clear hb2); (try clear hk); (try clear hi))))
         (try simp only [← hl6_1])
         go_roundg k1
         case measure => have := HK1.out; omega
         case rel => exact ⟨(x6_1), (wrap64 (x33_1 + 1)), es_, H', ⟨by have := HK1.out; omega⟩, ⟨by (try simp only [hl6_1]); (with_reducible repeat (first | apply Kd.R_alloc | apply Kd.R_drewN | apply Kd.R_drew)); exact HO_6.out⟩, ⟨by (try simp only [hl6_1]); (with_reducible repeat (first | refine blk_drewN ?_ _ | refine blk_drew ?_ | refine blk_alloc ?_ _)); exact BK396.out⟩, ⟨by (try simp only [hl6_1]); (with_reducible repeat (first | refine blk_drewN ?_ _ | refine blk_drew ?_ | refine blk_alloc ?_ _)); exact BK397.out⟩, ⟨hb_⟩⟩
       ·rw [if_neg c14] at H
        have c14b0 : decide (x33_1 < (y398.length : Int)) = false := decide_eq_false c14
        (try simp only [hl6_1] at c14b0)
        clear c14
        have H' := Aside0.mk H
        clear H
        go_wp2
        repeat (go_quiet (fail); try go_wp2)
        go_loopg [8] k1 (fun kq v8 w' => ∃ (x6_2 : List Int) (x8_2 : Bool), v8 = .bool x8_2 ∧ Aside0 (impl_Board_wins.l1 kq x6_2 x8_2 l0_0 l0_1 l0_2 = some r) ∧ Aside0 (kq ≤ k1) ∧ Aside0 (Kd.R (Kd.int .i64) 3 w' w.heap.size (fun _ => True) (.slice Ao13 x6_1.length co13) x6_2) ∧ Aside0 (w'.heap[gb396]? = some (.cells #[(.slice A0_0 l0_0.length c0_0), (.slice A0_1 l0_1.length c0_1), (.slice A0_2 l0_2.length c0_2)] 34 (0, 0))) ∧ Aside0 (w'.heap[gb397]? = some (.cells #[(.slice A1_0 l1_0.length c1_0), (.slice A1_1 l1_1.length c1_1)] 36 (0, 0))) ∧ Aside0 (Below w.heap.size w w'))
        case atStart => exact ⟨(x6_1), (true), es_, H', ⟨Nat.le_refl _⟩, ⟨by (try simp only [hl6_1]); (with_reducible repeat (first | apply Kd.R_alloc | apply Kd.R_drewN | apply Kd.R_drew)); exact HO_6.out⟩, ⟨by (try simp only [hl6_1]); (with_reducible repeat (first | refine blk_drewN ?_ _ | refine blk_drew ?_ | refine blk_alloc ?_ _)); exact BK396.out⟩, ⟨by (try simp only [hl6_1]); (with_reducible repeat (first | refine blk_drewN ?_ _ | refine blk_drew ?_ | refine blk_alloc ?_ _)); exact BK397.out⟩, ⟨hb_⟩⟩
        case round =>
         clear H'
         obtain ⟨x6_2, x8_2, rfl, HA, HK2, HO_6, BK396, BK397, HB⟩ := hrel
         have hl6_2 := (Kd.R_reads' HO_6.out).1
         rw [hl6_2] at HO_6
         (try simp only [hl6_2])
         (try simp only [hl6_2] at BK396)
         (try simp only [hl6_2] at BK397)
         cases gk with
         | zero => exact absurd HA.out (by simp [impl_Board_wins.l1])
         | succ k2 =>
          have H := HA.out
          clear HA
          simp only [impl_Board_wins.l1] at H
          by_cases c30 : x8_2 = true
          ·subst c30
           rw [if_pos rfl] at H
           have H' := Aside0.mk H
           clear H
           go_wp2
           repeat (go_quiet (fail); try go_wp2)
           go_loopg [8, 47] k2 (fun kq v8 v47 w' => ∃ (x6_3 : List Int) (x8_3 : Bool) (x47_3 : Int), v8 = .bool x8_3 ∧ v47 = .int .i64 x47_3 ∧ Aside0 (impl_Board_wins.l2 kq x6_3 x8_3 (x6_2.length : Int) x47_3 l0_0 l0_1 l0_2 = some r) ∧ Aside0 (kq ≤ k2) ∧ Aside0 (Kd.R (Kd.int .i64) 3 w' w.heap.size (fun _ => True) (.slice Ao13 x6_2.length co13) x6_3) ∧ Aside0 (w'.heap[gb396]? = some (.cells #[(.slice A0_0 l0_0.length c0_0), (.slice A0_1 l0_1.length c0_1), (.slice A0_2 l0_2.length c0_2)] 34 (0, 0))) ∧ Aside0 (w'.heap[gb397]? = some (.cells #[(.slice A1_0 l1_0.length c1_0), (.slice A1_1 l1_1.length c1_1)] 36 (0, 0))) ∧ Aside0 (Below w.heap.size w w'))
           case atStart => exact ⟨(x6_2), (false), (0), es_, es_, H', ⟨Nat.le_refl _⟩, ⟨by (try simp only [hl6_1]); (try simp only [hl6_2]); (with_reducible repeat (first | apply Kd.R_alloc | apply Kd.R_drewN | apply Kd.R_drew)); exact HO_6.out⟩, ⟨by (try simp only [hl6_1]); (try simp only [hl6_2]); (with_reducible repeat (first | refine blk_drewN ?_ _ | refine blk_drew ?_ | refine blk_alloc ?_ _)); exact BK396.out⟩, ⟨by (try simp only [hl6_1]); (try simp only [hl6_2]); (with_reducible repeat (first | refine blk_drewN ?_ _ | refine blk_drew ?_ | refine blk_alloc ?_ _)); exact BK397.out⟩, ⟨hb_⟩⟩
           case round =>
            clear H'
            obtain ⟨x6_3, x8_3, x47_3, rfl, rfl, HA, HK3, HO_6, BK396, BK397, HB⟩ := hrel
            have hl6_3 := (Kd.R_reads' HO_6.out).1
            rw [hl6_3] at HO_6
            (try simp only [hl6_3])
            (try simp only [hl6_3] at BK396)
            (try simp only [hl6_3] at BK397)
            cases gk with
            | zero => exact absurd HA.out (by simp [impl_Board_wins.l2])
            | succ k3 =>
             have H := HA.out
             clear HA
             simp only [impl_Board_wins.l2] at H
             by_cases c31 : x47_3 < (x6_2.length : Int)
             ·rw [if_pos c31] at H
              have c31b0 : decide (x47_3 < (x6_2.length : Int)) = true := decide_eq_true c31
              (try simp only [hl6_1] at c31b0)
              (try simp only [hl6_2] at c31b0)
              (try simp only [hl6_3] at c31b0)
              clear c31
              have HC32 := Aside0.mk H
              clear H
              go_upto_region 16 with (fail)
              repeat (go_quiet (fail); go_upto_region 16 with (fail))
              go_cut [63] (fun v63 wc => ∃ (kq : Nat) (x63_31 : Bool), v63 = .bool x63_31 ∧ Aside0 (impl_Board_wins.j3 kq x6_3 x8_3 x47_3 (x6_2.length : Int) x47_3 x63_31 l0_0 l0_1 l0_2 = some r) ∧ Aside0 (kq ≤ k3) ∧ Aside0 (Kd.R (Kd.int .i64) 3 wc w.heap.size (fun _ => True) (.slice Ao13 x6_3.length co13) x6_3) ∧ Aside0 (wc.heap[gb396]? = some (.cells #[(.slice A0_0 l0_0.length c0_0), (.slice A0_1 l0_1.length c0_1), (.slice A0_2 l0_2.length c0_2)] 34 (0, 0))) ∧ Aside0 (wc.heap[gb397]? = some (.cells #[(.slice A1_0 l1_0.length c1_0), (.slice A1_1 l1_1.length c1_1)] 36 (0, 0))) ∧ Aside0 (Below w.heap.size w wc))
              case first =>
               have H := HC32.out
               clear HC32
               by_cases c33 : 0 ≤ x47_3
               ·rw [if_pos c33] at H
                have c33b0 : decide (0 ≤ x47_3) = true := decide_eq_true c33
                clear c33
                (first | rw [c33b0] | (simp only [i64_w, i32_w]; rw [c33b0]) | skip)
                by_cases c34 : x47_3 < (x6_3.length : Int)
                ·rw [if_pos c34] at H
                 have c34b0 : decide (x47_3 < (x6_3.length : Int)) = true := decide_eq_true c34
                 (try simp only [hl6_1] at c34b0)
                 (try simp only [hl6_2] at c34b0)
                 (try simp only [hl6_3] at c34b0)
                 clear c34
                 by_cases c35 : (rd x6_3 x47_3) < 0
                 ·rw [if_pos c35] at H
                  have c35b0 : decide ((rd x6_3 x47_3) < 0) = true := decide_eq_true c35
                  clear c35
                  have H' := Aside0.mk H
                  clear H
                  have p403 : 0 ≤ (x47_3 : Int) := of_decide_eq_true as_
                  have q403 : x47_3 < (x6_3.length : Int) := of_decide_eq_true as_
                  obtain ⟨ad403, e403, hx403_0⟩ := Kd.at_int (Kd.R_reads' HO_6.out).2.2 x47_3 p403 q403
                  cases e403
                  replace p403 := eq_true p403
                  replace q403 := eq_true q403
                  go_wp2
                  repeat (go_quiet (fail); try go_wp2)
                  go_meet
                  case rel => exact ⟨_, (true), es_, H', ⟨by have := HK1.out; have := HK2.out; have := HK3.out; first | omega | exact Nat.le_refl _⟩, ⟨by (try simp only [hl6_1]); (try simp only [hl6_2]); (try simp only [hl6_3]); (with_reducible repeat (first | apply Kd.R_alloc | apply Kd.R_drewN | apply Kd.R_drew)); exact HO_6.out⟩, ⟨by (try simp only [hl6_1]); (try simp only [hl6_2]); (try simp only [hl6_3]); (with_reducible repeat (first | refine blk_drewN ?_ _ | refine blk_drew ?_ | refine blk_alloc ?_ _)); exact BK396.out⟩, ⟨by (try simp only [hl6_1]); (try simp only [hl6_2]); (try simp only [hl6_3]); (with_reducible repeat (first | refine blk_drewN ?_ _ | refine blk_drew ?_ | refine blk_alloc ?_ _)); exact BK397.out⟩, ⟨hb_⟩⟩
                 ·rw [if_neg c35] at H
                  have c35b0 : decide ((rd x6_3 x47_3) < 0) = false := decide_eq_false c35
                  clear c35
                  by_cases c36 : x47_3 < (l0_2.length : Int)
                  ·rw [if_pos c36] at H
                   have c36b0 : decide (x47_3 < (l0_2.length : Int)) = true := decide_eq_true c36
                   (try simp only [hl6_1] at c36b0)
                   (try simp only [hl6_2] at c36b0)
                   (try simp only [hl6_3] at c36b0)
                   clear c36
                   have H' := Aside0.mk H
                   clear H
                   have p403 : 0 ≤ (x47_3 : Int) := of_decide_eq_true as_
                   have q403 : x47_3 < (x6_3.length : Int) := of_decide_eq_true as_
                   obtain ⟨ad403, e403, hx403_0⟩ := Kd.at_int (Kd.R_reads' HO_6.out).2.2 x47_3 p403 q403
                   cases e403
                   replace p403 := eq_true p403
                   replace q403 := eq_true q403
                   have hnb37 := NB396_397.out
                   have hnc37 := NB397_396.out
                   have hcz38_0 : wr.cell? ⟨gb396, 0, none⟩ = some (.slice A0_0 l0_0.length c0_0) := (blk_cell BK396.out 0).trans rfl
                   have hcz38_1 : wr.cell? ⟨gb396, 1, none⟩ = some (.slice A0_1 l0_1.length c0_1) := (blk_cell BK396.out 1).trans rfl
                   have hcz38_2 : wr.cell? ⟨gb396, 2, none⟩ = some (.slice A0_2 l0_2.length c0_2) := (blk_cell BK396.out 2).trans rfl
                   have hfz38_0 := blk_frozen BK396.out 0
                   have hfz38_1 := blk_frozen BK396.out 1
                   have hfz38_2 := blk_frozen BK396.out 2
                   have p404 : 0 ≤ (x47_3 : Int) := of_decide_eq_true as_
                   have q404 : x47_3 < (l0_2.length : Int) := of_decide_eq_true as_
                   obtain ⟨ad404, A404_0, c404_0, e404, hx404_0, hl404_0, hi404_0⟩ := at_L3 HR0_2.out x47_3 p404 q404
                   cases e404
                   replace hx404_0 := hc_ HB hx404_0
                   have HR404_0 := Aside0.mk hi404_0
                   have HC404_0 := Aside0.mk hl404_0
                   clear hi404_0 hl404_0
                   replace p404 := eq_true p404
                   replace q404 := eq_true q404
                   go_wp2
                   repeat (go_quiet (fail); try go_wp2)
                   go_meet
                   case rel => exact ⟨_, ((((rd_L3 l0_2 x47_3).length : Int) == 0)), es_, H', ⟨by have := HK1.out; have := HK2.out; have := HK3.out; first | omega | exact Nat.le_refl _⟩, ⟨by (try simp only [hl6_1]); (try simp only [hl6_2]); (try simp only [hl6_3]); (with_reducible repeat (first | apply Kd.R_alloc | apply Kd.R_drewN | apply Kd.R_drew)); exact HO_6.out⟩, ⟨by (try simp only [hl6_1]); (try simp only [hl6_2]); (try simp only [hl6_3]); (with_reducible repeat (first | refine blk_drewN ?_ _ | refine blk_drew ?_ | refine blk_alloc ?_ _)); exact BK396.out⟩, ⟨by (try simp only [hl6_1]); (try simp only [hl6_2]); (try simp only [hl6_3]); (with_reducible repeat (first | refine blk_drewN ?_ _ | refine blk_drew ?_ | refine blk_alloc ?_ _)); exact BK397.out⟩, ⟨hb_⟩⟩
                  ·rw [if_neg c36] at H
                   exact absurd H (by simp)
                ·rw [if_neg c34] at H
                 exact absurd H (by simp)
               ·rw [if_neg c33] at H
                exact absurd H (by simp)
              case rest =>
               clear HC32
               obtain ⟨kq, x63_31, rfl, HA, HJ31, HO_6, BK396, BK397, HB⟩ := hcut
               cases kq with
               | zero => exact absurd HA.out (by simp [impl_Board_wins.j3])
               | succ kj31 =>
                have H := HA.out
                clear HA
                simp only [impl_Board_wins.j3] at H
                by_cases c39 : x63_31 = true
                ·subst c39
                 rw [if_pos rfl] at H
                 have H' := Aside0.mk H
                 clear H
                 go_wp2
                 repeat (go_quiet (fail); try go_wp2)
                 (try simp only [← hl6_3])
                 go_roundg kj31
                 case measure => have := HK1.out; have := HK2.out; have := HK3.out; have := HJ31.out; omega
                 case rel => exact ⟨(x6_3), (x8_3), (wrap64 (x47_3 + 1)), es_, es_, H', ⟨by have := HK1.out; have := HK2.out; have := HK3.out; have := HJ31.out; omega⟩, ⟨by (try simp only [hl6_1]); (try simp only [hl6_2]); (try simp only [hl6_3]); (with_reducible repeat (first | apply Kd.R_alloc | apply Kd.R_drewN | apply Kd.R_drew)); exact HO_6.out⟩, ⟨by (try simp only [hl6_1]); (try simp only [hl6_2]); (try simp only [hl6_3]); (with_reducible repeat (first | refine blk_drewN ?_ _ | refine blk_drew ?_ | refine blk_alloc ?_ _)); exact BK396.out⟩, ⟨by (try simp only [hl6_1]); (try simp only [hl6_2]); (try simp only [hl6_3]); (with_reducible repeat (first | refine blk_drewN ?_ _ | refine blk_drew ?_ | refine blk_alloc ?_ _)); exact BK397.out⟩, ⟨hb_⟩⟩
                ·replace c39 := Bool.eq_false_iff.mpr c39
                 subst c39
                 rw [if_neg (show ¬ (false = true) by decide)] at H
                 by_cases c40 : 0 ≤ x47_3
                 ·rw [if_pos c40] at H
                  have c40b0 : decide (0 ≤ x47_3) = true := decide_eq_true c40
                  clear c40
                  by_cases c41 : x47_3 < (l0_2.length : Int)
                  ·rw [if_pos c41] at H
                   have c41b0 : decide (x47_3 < (l0_2.length : Int)) = true := decide_eq_true c41
                   (try simp only [hl6_1] at c41b0)
                   (try simp only [hl6_2] at c41b0)
                   (try simp only [hl6_3] at c41b0)
                   clear c41
                   have H' := Aside0.mk H
                   clear H
                   have hnb42 := NB396_397.out
                   have hnc42 := NB397_396.out
                   have hcz43_0 : wc.cell? ⟨gb396, 0, none⟩ = some (.slice A0_0 l0_0.length c0_0) := (blk_cell BK396.out 0).trans rfl
                   have hcz43_1 : wc.cell? ⟨gb396, 1, none⟩ = some (.slice A0_1 l0_1.length c0_1) := (blk_cell BK396.out 1).trans rfl
                   have hcz43_2 : wc.cell? ⟨gb396, 2, none⟩ = some (.slice A0_2 l0_2.length c0_2) := (blk_cell BK396.out 2).trans rfl
                   have hfz43_0 := blk_frozen BK396.out 0
                   have hfz43_1 := blk_frozen BK396.out 1
                   have hfz43_2 := blk_frozen BK396.out 2
                   have p405 : 0 ≤ (x47_3 : Int) := of_decide_eq_true as_
                   have q405 : x47_3 < (l0_2.length : Int) := of_decide_eq_true as_
                   obtain ⟨ad405, A405_0, c405_0, e405, hx405_0, hl405_0, hi405_0⟩ := at_L3 HR0_2.out x47_3 p405 q405
                   cases e405
                   replace hx405_0 := hc_ HB hx405_0
                   have HR405_0 := Aside0.mk hi405_0
                   have HC405_0 := Aside0.mk hl405_0
                   clear hi405_0 hl405_0
                   replace p405 := eq_true p405
                   replace q405 := eq_true q405
                   go_wp2
                   repeat (go_quiet (fail); try go_wp2)
                   go_loopg [10, 11, 70] kj31 (fun kq v10 v11 v70 w' => ∃ (x10_5 : Bool) (x11_5 : Bool) (x70_5 : Int), v10 = .bool x10_5 ∧ v11 = .bool x11_5 ∧ v70 = .int .i64 x70_5 ∧ Aside0 (impl_Board_wins.l3 kq x6_3 x8_3 x47_3 x10_5 x11_5 (x6_2.length : Int) x47_3 (rd_L3 l0_2 x47_3) ((rd_L3 l0_2 x47_3).length : Int) x70_5 l0_0 l0_1 l0_2 = some r) ∧ Aside0 (kq ≤ kj31) ∧ Aside0 (Kd.R (Kd.int .i64) 3 w' w.heap.size (fun _ => True) (.slice Ao13 x6_3.length co13) x6_3) ∧ Aside0 (w'.heap[gb396]? = some (.cells #[(.slice A0_0 l0_0.length c0_0), (.slice A0_1 l0_1.length c0_1), (.slice (some ad405) l0_2.length c0_2)] 34 (0, 0))) ∧ Aside0 (w'.heap[gb397]? = some (.cells #[(.slice A1_0 l1_0.length c1_0), (.slice A1_1 l1_1.length c1_1)] 36 (0, 0))) ∧ Aside0 (Below w.heap.size w w'))
                   case atStart => exact ⟨(false), (false), (0), es_, es_, es_, H', ⟨Nat.le_refl _⟩, ⟨by (try simp only [hl6_1]); (try simp only [hl6_2]); (try simp only [hl6_3]); (with_reducible repeat (first | apply Kd.R_alloc | apply Kd.R_drewN | apply Kd.R_drew)); exact HO_6.out⟩, ⟨by (try simp only [hl6_1]); (try simp only [hl6_2]); (try simp only [hl6_3]); (with_reducible repeat (first | refine blk_drewN ?_ _ | refine blk_drew ?_ | refine blk_alloc ?_ _)); exact BK396.out⟩, ⟨by (try simp only [hl6_1]); (try simp only [hl6_2]); (try simp only [hl6_3]); (with_reducible repeat (first | refine blk_drewN ?_ _ | refine blk_drew ?_ | refine blk_alloc ?_ _)); exact BK397.out⟩, ⟨hb_⟩⟩
                   case round =>
                    clear H'
                    obtain ⟨x10_5, x11_5, x70_5, rfl, rfl, rfl, HA, HK5, HO_6, BK396, BK397, HB⟩ := hrel
                    cases gk with
                    | zero => exact absurd HA.out (by simp [impl_Board_wins.l3])
                    | succ k5 =>
                     have H := HA.out
                     clear HA
                     simp only [impl_Board_wins.l3] at H
                     by_cases c44 : x70_5 < ((rd_L3 l0_2 x47_3).length : Int)
                     ·rw [if_pos c44] at H
                      have c44b0 : decide (x70_5 < ((rd_L3 l0_2 x47_3).length : Int)) = true := decide_eq_true c44
                      (try simp only [hl6_1] at c44b0)
                      (try simp only [hl6_2] at c44b0)
                      (try simp only [hl6_3] at c44b0)
                      clear c44
                      by_cases c45 : 0 ≤ x70_5
                      ·rw [if_pos c45] at H
                       have c45b0 : decide (0 ≤ x70_5) = true := decide_eq_true c45
                       clear c45
                       by_cases c46 : x70_5 < ((rd_L3 l0_2 x47_3).length : Int)
                       ·rw [if_pos c46] at H
                        have c46b0 : decide (x70_5 < ((rd_L3 l0_2 x47_3).length : Int)) = true := decide_eq_true c46
                        (try simp only [hl6_1] at c46b0)
                        (try simp only [hl6_2] at c46b0)
                        (try simp only [hl6_3] at c46b0)
                        clear c46
                        by_cases c47 : x10_5 = true
                        ·subst c47
                         rw [if_pos rfl] at H
                         by_cases c48 : x11_5 = true
                         ·subst c48
                          rw [if_pos rfl] at H
                          have H' := Aside0.mk H
                          clear H
                          have p406 : 0 ≤ (x70_5 : Int) := of_decide_eq_true as_
                          have q406 : x70_5 < ((rd_L3 l0_2 x47_3).length : Int) := of_decide_eq_true as_
                          obtain ⟨ad406, e406, hx406_0⟩ := Kd.at_int HR405_0.out x70_5 p406 q406
                          cases e406
                          replace hx406_0 := hc_ HB hx406_0
                          replace p406 := eq_true p406
                          replace q406 := eq_true q406
                          go_wp2
                          repeat (go_quiet (fail); try go_wp2)
                          go_roundg k5
                          case measure => have := HK1.out; have := HK2.out; have := HK3.out; have := HJ31.out; have := HK5.out; omega
                          case rel => exact ⟨(true), (true), (wrap64 (x70_5 + 1)), es_, es_, es_, H', ⟨by have := HK1.out; have := HK2.out; have := HK3.out; have := HJ31.out; have := HK5.out; omega⟩, ⟨by (try simp only [hl6_1]); (try simp only [hl6_2]); (try simp only [hl6_3]); (with_reducible repeat (first | apply Kd.R_alloc | apply Kd.R_drewN | apply Kd.R_drew)); exact HO_6.out⟩, ⟨by (try simp only [hl6_1]); (try simp only [hl6_2]); (try simp only [hl6_3]); (with_reducible repeat (first | refine blk_drewN ?_ _ | refine blk_drew ?_ | refine blk_alloc ?_ _)); exact BK396.out⟩, ⟨by (try simp only [hl6_1]); (try simp only [hl6_2]); (try simp only [hl6_3]); (with_reducible repeat (first | refine blk_drewN ?_ _ | refine blk_drew ?_ | refine blk_alloc ?_ _)); exact BK397.out⟩, ⟨hb_⟩⟩
                         ·replace c48 := Bool.eq_false_iff.mpr c48
                          subst c48
                          rw [if_neg (show ¬ (false = true) by decide)] at H
                          by_cases c49 : 0 ≤ (rd (rd_L3 l0_2 x47_3) x70_5)
                          ·rw [if_pos c49] at H
                           have c49b0 : decide (0 ≤ (rd (rd_L3 l0_2 x47_3) x70_5)) = true := decide_eq_true c49
                           clear c49
                           by_cases c50 : (rd (rd_L3 l0_2 x47_3) x70_5) < (x6_3.length : Int)
                           ·rw [if_pos c50] at H
                            have c50b0 : decide ((rd (rd_L3 l0_2 x47_3) x70_5) < (x6_3.length : Int)) = true := decide_eq_true c50
                            (try simp only [hl6_1] at c50b0)
                            (try simp only [hl6_2] at c50b0)
                            (try simp only [hl6_3] at c50b0)
                            clear c50
                            have H' := Aside0.mk H
                            clear H
                            have p406 : 0 ≤ (x70_5 : Int) := of_decide_eq_true as_
                            have q406 : x70_5 < ((rd_L3 l0_2 x47_3).length : Int) := of_decide_eq_true as_
                            obtain ⟨ad406, e406, hx406_0⟩ := Kd.at_int HR405_0.out x70_5 p406 q406
                            cases e406
                            replace hx406_0 := hc_ HB hx406_0
                            replace p406 := eq_true p406
                            replace q406 := eq_true q406
                            have p407 : 0 ≤ ((rd (rd_L3 l0_2 x47_3) x70_5) : Int) := of_decide_eq_true as_
                            have q407 : (rd (rd_L3 l0_2 x47_3) x70_5) < (x6_3.length : Int) := of_decide_eq_true as_
                            obtain ⟨ad407, e407, hx407_0⟩ := Kd.at_int (Kd.R_reads' HO_6.out).2.2 (rd (rd_L3 l0_2 x47_3) x70_5) p407 q407
                            cases e407
                            replace p407 := eq_true p407
                            replace q407 := eq_true q407
                            go_wp2
                            repeat (go_quiet (fail); try go_wp2)
                            go_roundg k5
                            case measure => have := HK1.out; have := HK2.out; have := HK3.out; have := HJ31.out; have := HK5.out; omega
                            case rel => exact ⟨(true), (decide ((rd x6_3 (rd (rd_L3 l0_2 x47_3) x70_5)) < 0)), (wrap64 (x70_5 + 1)), es_, es_, es_, H', ⟨by have := HK1.out; have := HK2.out; have := HK3.out; have := HJ31.out; have := HK5.out; omega⟩, ⟨by (try simp only [hl6_1]); (try simp only [hl6_2]); (try simp only [hl6_3]); (with_reducible repeat (first | apply Kd.R_alloc | apply Kd.R_drewN | apply Kd.R_drew)); exact HO_6.out⟩, ⟨by (try simp only [hl6_1]); (try simp only [hl6_2]); (try simp only [hl6_3]); (with_reducible repeat (first | refine blk_drewN ?_ _ | refine blk_drew ?_ | refine blk_alloc ?_ _)); exact BK396.out⟩, ⟨by (try simp only [hl6_1]); (try simp only [hl6_2]); (try simp only [hl6_3]); (with_reducible repeat (first | refine blk_drewN ?_ _ | refine blk_drew ?_ | refine blk_alloc ?_ _)); exact BK397.out⟩, ⟨hb_⟩⟩
                           ·rw [if_neg c50] at H
                            exact absurd H (by simp)
                          ·rw [if_neg c49] at H
                           exact absurd H (by simp)
                        ·replace c47 := Bool.eq_false_iff.mpr c47
                         subst c47
                         rw [if_neg (show ¬ (false = true) by decide)] at H
                         by_cases c51 : 0 ≤ (rd (rd_L3 l0_2 x47_3) x70_5)
                         ·rw [if_pos c51] at H
                          have c51b0 : decide (0 ≤ (rd (rd_L3 l0_2 x47_3) x70_5)) = true := decide_eq_true c51
                          clear c51
                          by_cases c52 : (rd (rd_L3 l0_2 x47_3) x70_5) < (x6_3.length : Int)
                          ·rw [if_pos c52] at H
                           have c52b0 : decide ((rd (rd_L3 l0_2 x47_3) x70_5) < (x6_3.length : Int)) = true := decide_eq_true c52
                           (try simp only [hl6_1] at c52b0)
                           (try simp only [hl6_2] at c52b0)
                           (try simp only [hl6_3] at c52b0)
                           clear c52
                           by_cases c53 : x11_5 = true
                           ·subst c53
                            rw [if_pos rfl] at H
                            have H' := Aside0.mk H
                            clear H
                            have p406 : 0 ≤ (x70_5 : Int) := of_decide_eq_true as_
                            have q406 : x70_5 < ((rd_L3 l0_2 x47_3).length : Int) := of_decide_eq_true as_
                            obtain ⟨ad406, e406, hx406_0⟩ := Kd.at_int HR405_0.out x70_5 p406 q406
                            cases e406
                            replace hx406_0 := hc_ HB hx406_0
                            replace p406 := eq_true p406
                            replace q406 := eq_true q406
                            have p408 : 0 ≤ ((rd (rd_L3 l0_2 x47_3) x70_5) : Int) := of_decide_eq_true as_
                            have q408 : (rd (rd_L3 l0_2 x47_3) x70_5) < (x6_3.length : Int) := of_decide_eq_true as_
                            obtain ⟨ad408, e408, hx408_0⟩ := Kd.at_int (Kd.R_reads' HO_6.out).2.2 (rd (rd_L3 l0_2 x47_3) x70_5) p408 q408
                            cases e408
                            replace p408 := eq_true p408
                            replace q408 := eq_true q408
                            go_wp2
                            repeat (go_quiet (fail); try go_wp2)
                            go_roundg k5
                            case measure => have := HK1.out; have := HK2.out; have := HK3.out; have := HJ31.out; have := HK5.out; omega
                            case rel => exact ⟨(decide ((rd x6_3 (rd (rd_L3 l0_2 x47_3) x70_5)) ≥ 0)), (true), (wrap64 (x70_5 + 1)), es_, es_, es_, H', ⟨by have := HK1.out; have := HK2.out; have := HK3.out; have := HJ31.out; have := HK5.out; omega⟩, ⟨by (try simp only [hl6_1]); (try simp only [hl6_2]); (try simp only [hl6_3]); (with_reducible repeat (first | apply Kd.R_alloc | apply Kd.R_drewN | apply Kd.R_drew)); exact HO_6.out⟩, ⟨by (try simp only [hl6_1]); (try simp only [hl6_2]); (try simp only [hl6_3]); (with_reducible repeat (first | refine blk_drewN ?_ _ | refine blk_drew ?_ | refine blk_alloc ?_ _)); exact BK396.out⟩, ⟨by (try simp only [hl6_1]); (try simp only [hl6_2]); (try simp only [hl6_3]); (with_reducible repeat (first | refine blk_drewN ?_ _ | refine blk_drew ?_ | refine blk_alloc ?_ _)); exact BK397.out⟩, ⟨hb_⟩⟩
                           ·replace c53 := Bool.eq_false_iff.mpr c53
                            subst c53
                            rw [if_neg (show ¬ (false = true) by decide)] at H
                            have H' := Aside0.mk H
                            clear H
                            have p406 : 0 ≤ (x70_5 : Int) := of_decide_eq_true as_
                            have q406 : x70_5 < ((rd_L3 l0_2 x47_3).length : Int) := of_decide_eq_true as_
                            obtain ⟨ad406, e406, hx406_0⟩ := Kd.at_int HR405_0.out x70_5 p406 q406
                            cases e406
                            replace hx406_0 := hc_ HB hx406_0
                            replace p406 := eq_true p406
                            replace q406 := eq_true q406
                            have p408 : 0 ≤ ((rd (rd_L3 l0_2 x47_3) x70_5) : Int) := of_decide_eq_true as_
                            have q408 : (rd (rd_L3 l0_2 x47_3) x70_5) < (x6_3.length : Int) := of_decide_eq_true as_
                            obtain ⟨ad408, e408, hx408_0⟩ := Kd.at_int (Kd.R_reads' HO_6.out).2.2 (rd (rd_L3 l0_2 x47_3) x70_5) p408 q408
                            cases e408
                            replace p408 := eq_true p408
                            replace q408 := eq_true q408
                            have p409 : 0 ≤ ((rd (rd_L3 l0_2 x47_3) x70_5) : Int) := of_decide_eq_true as_
                            have q409 : (rd (rd_L3 l0_2 x47_3) x70_5) < (x6_3.length : Int) := of_decide_eq_true as_
                            obtain ⟨ad409, e409, hx409_0⟩ := Kd.at_int (Kd.R_reads' HO_6.out).2.2 (rd (rd_L3 l0_2 x47_3) x70_5) p409 q409
                            obtain rfl : ad408 = ad409 := (by injection e409)
                            replace p409 := eq_true p409
                            replace q409 := eq_true q409
                            go_wp2
                            repeat (go_quiet (fail); try go_wp2)
                            go_roundg k5
                            case measure => have := HK1.out; have := HK2.out; have := HK3.out; have := HJ31.out; have := HK5.out; omega
                            case rel => exact ⟨(decide ((rd x6_3 (rd (rd_L3 l0_2 x47_3) x70_5)) ≥ 0)), (decide ((rd x6_3 (rd (rd_L3 l0_2 x47_3) x70_5)) < 0)), (wrap64 (x70_5 + 1)), es_, es_, es_, H', ⟨by have := HK1.out; have := HK2.out; have := HK3.out; have := HJ31.out; have := HK5.out; omega⟩, ⟨by (try simp only [hl6_1]); (try simp only [hl6_2]); (try simp only [hl6_3]); (with_reducible repeat (first | apply Kd.R_alloc | apply Kd.R_drewN | apply Kd.R_drew)); exact HO_6.out⟩, ⟨by (try simp only [hl6_1]); (try simp only [hl6_2]); (try simp only [hl6_3]); (with_reducible repeat (first | refine blk_drewN ?_ _ | refine blk_drew ?_ | refine blk_alloc ?_ _)); exact BK396.out⟩, ⟨by (try simp only [hl6_1]); (try simp only [hl6_2]); (try simp only [hl6_3]); (with_reducible repeat (first | refine blk_drewN ?_ _ | refine blk_drew ?_ | refine blk_alloc ?_ _)); exact BK397.out⟩, ⟨hb_⟩⟩
                          ·rw [if_neg c52] at H
                           exact absurd H (by simp)
                         ·rw [if_neg c51] at H
                          exact absurd H (by simp)
                       ·rw [if_neg c46] at H
                        exact absurd H (by simp)
                      ·rw [if_neg c45] at H
                       exact absurd H (by simp)
                     ·rw [if_neg c44] at H
                      have c44b0 : decide (x70_5 < ((rd_L3 l0_2 x47_3).length : Int)) = false := decide_eq_false c44
                      (try simp only [hl6_1] at c44b0)
                      (try simp only [hl6_2] at c44b0)
                      (try simp only [hl6_3] at c44b0)
                      clear c44
                      by_cases c54 : 0 ≤ x47_3
                      ·rw [if_pos c54] at H
                       have c54b0 : decide (0 ≤ x47_3) = true := decide_eq_true c54
                       clear c54
                       by_cases c55 : x47_3 < (l0_1.length : Int)
                       ·rw [if_pos c55] at H
                        have c55b0 : decide (x47_3 < (l0_1.length : Int)) = true := decide_eq_true c55
                        (try simp only [hl6_1] at c55b0)
                        (try simp only [hl6_2] at c55b0)
                        (try simp only [hl6_3] at c55b0)
                        clear c55
                        obtain ⟨bq56, hbq56⟩ : ∃ b_ : Bool, b_ = (rdOf false l0_1 x47_3) := ⟨_, rfl⟩
                        replace H : (if bq56 = true then (if x10_5 = true then (impl_Board_wins.l2 k5 x6_3 x8_3 (x6_2.length : Int) (wrap64 (x47_3 + 1)) l0_0 l0_1 l0_2) else (if x47_3 < (x6_3.length : Int) then (impl_Board_wins.l2 k5 (x6_3.set (x47_3 : Int).toNat (-1)) true (x6_2.length : Int) (wrap64 (x47_3 + 1)) l0_0 l0_1 l0_2) else (none))) else (if x11_5 = true then (if x47_3 < (x6_3.length : Int) then (impl_Board_wins.l2 k5 (x6_3.set (x47_3 : Int).toNat (-1)) true (x6_2.length : Int) (wrap64 (x47_3 + 1)) l0_0 l0_1 l0_2) else (none)) else (impl_Board_wins.l2 k5 x6_3 x8_3 (x6_2.length : Int) (wrap64 (x47_3 + 1)) l0_0 l0_1 l0_2))) = some r := by rw [← hbq56] at H; exact H
                        have Nbq56 := Aside0.mk hbq56
                        clear hbq56
                        by_cases c57 : bq56 = true
                        ·subst c57
                         rw [if_pos rfl] at H
                         by_cases c58 : x10_5 = true
                         ·subst c58
                          rw [if_pos rfl] at H
                          have H' := Aside0.mk H
                          clear H
                          have hnb59 := NB396_397.out
                          have hnc59 := NB397_396.out
                          have hcz60_0 : wr.cell? ⟨gb396, 0, none⟩ = some (.slice A0_0 l0_0.length c0_0) := (blk_cell BK396.out 0).trans rfl
                          have hcz60_1 : wr.cell? ⟨gb396, 1, none⟩ = some (.slice A0_1 l0_1.length c0_1) := (blk_cell BK396.out 1).trans rfl
                          have hcz60_2 : wr.cell? ⟨gb396, 2, none⟩ = some (.slice (some ad405) l0_2.length c0_2) := (blk_cell BK396.out 2).trans rfl
                          have hfz60_0 := blk_frozen BK396.out 0
                          have hfz60_1 := blk_frozen BK396.out 1
                          have hfz60_2 := blk_frozen BK396.out 2
                          have p410 : 0 ≤ (x47_3 : Int) := of_decide_eq_true as_
                          have q410 : x47_3 < (l0_1.length : Int) := of_decide_eq_true as_
                          obtain ⟨ad410, e410, hx410_0⟩ := Kd.at_bool HR0_1.out x47_3 p410 q410
                          (try rw [← Nbq56.out] at hx410_0)
                          cases e410
                          replace hx410_0 := hc_ HB hx410_0
                          replace p410 := eq_true p410
                          replace q410 := eq_true q410
                          have p411 : 0 ≤ (x47_3 : Int) := of_decide_eq_true as_
                          have q411 : x47_3 < (l0_1.length : Int) := of_decide_eq_true as_
                          obtain ⟨ad411, e411, hx411_0⟩ := Kd.at_bool HR0_1.out x47_3 p411 q411
                          (try rw [← Nbq56.out] at hx411_0)
                          obtain rfl : ad410 = ad411 := (by injection e411)
                          replace hx411_0 := hc_ HB hx411_0
                          replace p411 := eq_true p411
                          replace q411 := eq_true q411
                          go_wp2
                          repeat (go_quiet (fail); try go_wp2)
                          (try simp only [← hl6_3])
                          go_roundg k5
                          case measure => have := HK1.out; have := HK2.out; have := HK3.out; have := HJ31.out; have := HK5.out; omega
                          case rel => exact ⟨(x6_3), (x8_3), (wrap64 (x47_3 + 1)), es_, es_, H', ⟨by have := HK1.out; have := HK2.out; have := HK3.out; have := HJ31.out; have := HK5.out; omega⟩, ⟨by (try simp only [hl6_1]); (try simp only [hl6_2]); (try simp only [hl6_3]); (with_reducible repeat (first | apply Kd.R_alloc | apply Kd.R_drewN | apply Kd.R_drew)); exact HO_6.out⟩, ⟨by (try simp only [hl6_1]); (try simp only [hl6_2]); (try simp only [hl6_3]); (with_reducible repeat (first | refine blk_drewN ?_ _ | refine blk_drew ?_ | refine blk_alloc ?_ _)); exact BK396.out⟩, ⟨by (try simp only [hl6_1]); (try simp only [hl6_2]); (try simp only [hl6_3]); (with_reducible repeat (first | refine blk_drewN ?_ _ | refine blk_drew ?_ | refine blk_alloc ?_ _)); exact BK397.out⟩, ⟨hb_⟩⟩
                         ·replace c58 := Bool.eq_false_iff.mpr c58
                          subst c58
                          rw [if_neg (show ¬ (false = true) by decide)] at H
                          by_cases c61 : x47_3 < (x6_3.length : Int)
                          ·rw [if_pos c61] at H
                           have c61b0 : decide (x47_3 < (x6_3.length : Int)) = true := decide_eq_true c61
                           (try simp only [hl6_1] at c61b0)
                           (try simp only [hl6_2] at c61b0)
                           (try simp only [hl6_3] at c61b0)
                           clear c61
                           obtain ⟨y412, hy412⟩ : ∃ y_ : List Int, y_ = (x6_3.set (x47_3 : Int).toNat (-1)) := ⟨_, rfl⟩
                           replace H : (impl_Board_wins.l2 k5 y412 true (x6_2.length : Int) (wrap64 (x47_3 + 1)) l0_0 l0_1 l0_2) = some r := by first | (rw [hy412]; with_reducible exact H) | (have H2_ := (Option.bind_some _ _).symm.trans H; rw [hy412]; with_reducible exact H2_) | (have H2_ := (Option.bind_some _ _).symm.trans H; with_reducible exact H2_) | with_reducible exact H | (rw [hy412]; exact H) | exact H
                           have Ny412 := Aside0.mk hy412
                           clear hy412
                           have H' := Aside0.mk H
                           clear H
                           have hnb63 := NB396_397.out
                           have hnc63 := NB397_396.out
                           have hcz64_0 : wr.cell? ⟨gb396, 0, none⟩ = some (.slice A0_0 l0_0.length c0_0) := (blk_cell BK396.out 0).trans rfl
                           have hcz64_1 : wr.cell? ⟨gb396, 1, none⟩ = some (.slice A0_1 l0_1.length c0_1) := (blk_cell BK396.out 1).trans rfl
                           have hcz64_2 : wr.cell? ⟨gb396, 2, none⟩ = some (.slice (some ad405) l0_2.length c0_2) := (blk_cell BK396.out 2).trans rfl
                           have hfz64_0 := blk_frozen BK396.out 0
                           have hfz64_1 := blk_frozen BK396.out 1
                           have hfz64_2 := blk_frozen BK396.out 2
                           have p410 : 0 ≤ (x47_3 : Int) := of_decide_eq_true as_
                           have q410 : x47_3 < (l0_1.length : Int) := of_decide_eq_true as_
                           obtain ⟨ad410, e410, hx410_0⟩ := Kd.at_bool HR0_1.out x47_3 p410 q410
                           (try rw [← Nbq56.out] at hx410_0)
                           cases e410
                           replace hx410_0 := hc_ HB hx410_0
                           replace p410 := eq_true p410
                           replace q410 := eq_true q410
                           have p62 : 0 ≤ (x47_3 : Int) := of_decide_eq_true as_
                           have q62 : (x47_3 : Int) < ((x6_3.length : Int) : Int) := of_decide_eq_true as_
                           obtain ⟨go62, co62, eo62, gb62, gl62, cl62, HG62⟩ := Kd.R_form HO_6.out (by omega)
                           (first | cases eo62 | (injection eo62 with ea_ en_ ec_; (first | subst ea_ | (injection ea_ with ea_; subst ea_)); subst ec_; clear en_))
                           have GB62 := Aside0.mk gb62
                           have GG62 := Aside0.mk HG62
                           clear gb62 gl62 HG62
                           obtain ⟨hx62_0, hf62_0⟩ := Kd.R_celln 0 HO_6.out (x47_3 : Int) p62 q62
                           replace p62 := eq_true p62
                           replace q62 := eq_true q62
                           have HP65 := Kd.R_putg HO_6.out (x47_3 : Int) (-1)
                           go_wp2_with (first | ((with_reducible refine gate_store (t := 3) (p := 113) rfl ?_); (try (rw [drewN_self wr]; generalize hq_ : World.drewN wr _ = wr; have n0_ := Aside0.mk (Kd.R_at hq_ HO_6.out); have n1_ := Aside0.mk (blk_at hq_ BK396.out); have n2_ := Aside0.mk (blk_at hq_ BK397.out); have n3_ := Aside0.mk (below_at hq_ HB.out); clear hq_ HO_6 BK396 BK397 HB; have HO_6 := n0_; have BK396 := n1_; have BK397 := n2_; have HB := n3_; clear n0_ n1_ n2_ n3_; (try (have HP65 := Kd.R_putg HO_6.out (x47_3 : Int) (-1))))); refine store_event (t := 3) (p := 113) (v := ?vo_w66) (w1 := (wr.setCell ⟨go62, (x47_3 : Int).toNat, none⟩ (.int .i64 (-1)))) ?hg ?ho ?hn ?hr ?_; (case ho => rfl); (case hg => rfl); (case hn => rfl); (case hr => first | (go_simp; done) | (go_simp; rfl)); intro w66 hw; have hg : wr.grownBy w66 (some go62) := (by rw [hw]; exact HP65.2); have hp_ : Kd.R (Kd.int .i64) 3 w66 w.heap.size (fun _ => True) (.slice (some ⟨go62, 0, none⟩) x6_3.length co13) y412 := (by rw [hw, Ny412.out]; exact HP65.1); clear HP65; have n0_ := Aside0.mk (hp_); have n1_ := Aside0.mk (blk_grown (g := gb396) (o := .cells #[.slice A0_0 l0_0.length c0_0, .slice (some ad410) l0_1.length c0_1, .slice (some ad405) l0_2.length c0_2] 34 (0, 0)) (bk_ BK396.out) hg (Kd.R_ne HO_6.out BK396.out (by decide))); have n2_ := Aside0.mk (blk_grown (g := gb397) (o := .cells #[.slice A1_0 l1_0.length c1_0, .slice A1_1 l1_1.length c1_1] 36 (0, 0)) (bk_ BK397.out) hg (Kd.R_ne HO_6.out BK397.out (by decide))); have n3_ := Aside0.mk ((by rw [hw]; exact below_set (HB.out) GB62.out : Below w.heap.size w w66)); clear HO_6; clear BK396; clear BK397; clear HB; have HO_6 := n0_; have BK396 := n1_; have BK397 := n2_; have HB := n3_; clear n0_ n1_ n2_ n3_; clear hg hw hp_))
                           repeat (go_quiet (first | ((with_reducible refine gate_store (t := 3) (p := 113) rfl ?_); (try (rw [drewN_self wr]; generalize hq_ : World.drewN wr _ = wr; have n0_ := Aside0.mk (Kd.R_at hq_ HO_6.out); have n1_ := Aside0.mk (blk_at hq_ BK396.out); have n2_ := Aside0.mk (blk_at hq_ BK397.out); have n3_ := Aside0.mk (below_at hq_ HB.out); clear hq_ HO_6 BK396 BK397 HB; have HO_6 := n0_; have BK396 := n1_; have BK397 := n2_; have HB := n3_; clear n0_ n1_ n2_ n3_; (try (have HP65 := Kd.R_putg HO_6.out (x47_3 : Int) (-1))))); refine store_event (t := 3) (p := 113) (v := ?vo_w66) (w1 := (wr.setCell ⟨go62, (x47_3 : Int).toNat, none⟩ (.int .i64 (-1)))) ?hg ?ho ?hn ?hr ?_; (case ho => rfl); (case hg => rfl); (case hn => rfl); (case hr => first | (go_simp; done) | (go_simp; rfl)); intro w66 hw; have hg : wr.grownBy w66 (some go62) := (by rw [hw]; exact HP65.2); have hp_ : Kd.R (Kd.int .i64) 3 w66 w.heap.size (fun _ => True) (.slice (some ⟨go62, 0, none⟩) x6_3.length co13) y412 := (by rw [hw, Ny412.out]; exact HP65.1); clear HP65; have n0_ := Aside0.mk (hp_); have n1_ := Aside0.mk (blk_grown (g := gb396) (o := .cells #[.slice A0_0 l0_0.length c0_0, .slice (some ad410) l0_1.length c0_1, .slice (some ad405) l0_2.length c0_2] 34 (0, 0)) (bk_ BK396.out) hg (Kd.R_ne HO_6.out BK396.out (by decide))); have n2_ := Aside0.mk (blk_grown (g := gb397) (o := .cells #[.slice A1_0 l1_0.length c1_0, .slice A1_1 l1_1.length c1_1] 36 (0, 0)) (bk_ BK397.out) hg (Kd.R_ne HO_6.out BK397.out (by decide))); have n3_ := Aside0.mk ((by rw [hw]; exact below_set (HB.out) GB62.out : Below w.heap.size w w66)); clear HO_6; clear BK396; clear BK397; clear HB; have HO_6 := n0_; have BK396 := n1_; have BK397 := n2_; have HB := n3_; clear n0_ n1_ n2_ n3_; clear hg hw hp_)); try go_wp2_with (first | ((with_reducible refine gate_store (t := 3) (p := 113) rfl ?_); (try (rw [drewN_self wr]; generalize hq_ : World.drewN wr _ = wr; have n0_ := Aside0.mk (Kd.R_at hq_ HO_6.out); have n1_ := Aside0.mk (blk_at hq_ BK396.out); have n2_ := Aside0.mk (blk_at hq_ BK397.out); have n3_ := Aside0.mk (below_at hq_ HB.out); clear hq_ HO_6 BK396 BK397 HB; have HO_6 := n0_; have BK396 := n1_; have BK397 := n2_; have HB := n3_; clear n0_ n1_ n2_ n3_; (try (have HP65 := Kd.R_putg HO_6.out (x47_3 : Int) (-1))))); refine store_event (t := 3) (p := 113) (v := ?vo_w66) (w1 := (wr.setCell ⟨go62, (x47_3 : Int).toNat, none⟩ (.int .i64 (-1)))) ?hg ?ho ?hn ?hr ?_; (case ho => rfl); (case hg => rfl); (case hn => rfl); (case hr => first | (go_simp; done) | (go_simp; rfl)); intro w66 hw; have hg : wr.grownBy w66 (some go62) := (by rw [hw]; exact HP65.2); have hp_ : Kd.R (Kd.int .i64) 3 w66 w.heap.size (fun _ => True) (.slice (some ⟨go62, 0, none⟩) x6_3.length co13) y412 := (by rw [hw, Ny412.out]; exact HP65.1); clear HP65; have n0_ := Aside0.mk (hp_); have n1_ := Aside0.mk (blk_grown (g := gb396) (o := .cells #[.slice A0_0 l0_0.length c0_0, .slice (some ad410) l0_1.length c0_1, .slice (some ad405) l0_2.length c0_2] 34 (0, 0)) (bk_ BK396.out) hg (Kd.R_ne HO_6.out BK396.out (by decide))); have n2_ := Aside0.mk (blk_grown (g := gb397) (o := .cells #[.slice A1_0 l1_0.length c1_0, .slice A1_1 l1_1.length c1_1] 36 (0, 0)) (bk_ BK397.out) hg (Kd.R_ne HO_6.out BK397.out (by decide))); have n3_ := Aside0.mk ((by rw [hw]; exact below_set (HB.out) GB62.out : Below w.heap.size w w66)); clear HO_6; clear BK396; clear BK397; clear HB; have HO_6 := n0_; have BK396 := n1_; have BK397 := n2_; have HB := n3_; clear n0_ n1_ n2_ n3_; clear hg hw hp_)))
                           (try simp only [← hl6_3])
                           go_roundg k5
                           case measure => have := HK1.out; have := HK2.out; have := HK3.out; have := HJ31.out; have := HK5.out; omega
                           case rel => exact ⟨(y412), (true), (wrap64 (x47_3 + 1)), es_, es_, H', ⟨by have := HK1.out; have := HK2.out; have := HK3.out; have := HJ31.out; have := HK5.out; omega⟩, ⟨by (try simp only [hl6_1]); (try simp only [hl6_2]); (try simp only [hl6_3]); (with_reducible repeat (first | apply Kd.R_alloc | apply Kd.R_drewN | apply Kd.R_drew)); exact HO_6.out⟩, ⟨by (try simp only [hl6_1]); (try simp only [hl6_2]); (try simp only [hl6_3]); (with_reducible repeat (first | refine blk_drewN ?_ _ | refine blk_drew ?_ | refine blk_alloc ?_ _)); exact BK396.out⟩, ⟨by (try simp only [hl6_1]); (try simp only [hl6_2]); (try simp only [hl6_3]); (with_reducible repeat (first | refine blk_drewN ?_ _ | refine blk_drew ?_ | refine blk_alloc ?_ _)); exact BK397.out⟩, ⟨hb_⟩⟩
                          ·rw [if_neg c61] at H
                           exact absurd H (by simp)
                        ·replace c57 := Bool.eq_false_iff.mpr c57
                         subst c57
                         rw [if_neg (show ¬ (false = true) by decide)] at H
                         by_cases c67 : x11_5 = true
                         ·subst c67
                          rw [if_pos rfl] at H
                          by_cases c68 : x47_3 < (x6_3.length : Int)
                          ·rw [if_pos c68] at H
                           have c68b0 : decide (x47_3 < (x6_3.length : Int)) = true := decide_eq_true c68
                           (try simp only [hl6_1] at c68b0)
                           (try simp only [hl6_2] at c68b0)
                           (try simp only [hl6_3] at c68b0)
                           clear c68
                           obtain ⟨y414, hy414⟩ : ∃ y_ : List Int, y_ = (x6_3.set (x47_3 : Int).toNat (-1)) := ⟨_, rfl⟩
                           replace H : (impl_Board_wins.l2 k5 y414 true (x6_2.length : Int) (wrap64 (x47_3 + 1)) l0_0 l0_1 l0_2) = some r := by first | (rw [hy414]; with_reducible exact H) | (have H2_ := (Option.bind_some _ _).symm.trans H; rw [hy414]; with_reducible exact H2_) | (have H2_ := (Option.bind_some _ _).symm.trans H; with_reducible exact H2_) | with_reducible exact H | (rw [hy414]; exact H) | exact H
                           have Ny414 := Aside0.mk hy414
                           clear hy414
                           have H' := Aside0.mk H
                           clear H
                           have hnb70 := NB396_397.out
                           have hnc70 := NB397_396.out
                           have hcz71_0 : wr.cell? ⟨gb396, 0, none⟩ = some (.slice A0_0 l0_0.length c0_0) := (blk_cell BK396.out 0).trans rfl
                           have hcz71_1 : wr.cell? ⟨gb396, 1, none⟩ = some (.slice A0_1 l0_1.length c0_1) := (blk_cell BK396.out 1).trans rfl
                           have hcz71_2 : wr.cell? ⟨gb396, 2, none⟩ = some (.slice (some ad405) l0_2.length c0_2) := (blk_cell BK396.out 2).trans rfl
                           have hfz71_0 := blk_frozen BK396.out 0
                           have hfz71_1 := blk_frozen BK396.out 1
                           have hfz71_2 := blk_frozen BK396.out 2
                           have p410 : 0 ≤ (x47_3 : Int) := of_decide_eq_true as_
                           have q410 : x47_3 < (l0_1.length : Int) := of_decide_eq_true as_
                           obtain ⟨ad410, e410, hx410_0⟩ := Kd.at_bool HR0_1.out x47_3 p410 q410
                           (try rw [← Nbq56.out] at hx410_0)
                           cases e410
                           replace hx410_0 := hc_ HB hx410_0
                           replace p410 := eq_true p410
                           replace q410 := eq_true q410
                           have p413 : 0 ≤ (x47_3 : Int) := of_decide_eq_true as_
                           have q413 : x47_3 < (l0_1.length : Int) := of_decide_eq_true as_
                           obtain ⟨ad413, e413, hx413_0⟩ := Kd.at_bool HR0_1.out x47_3 p413 q413
                           (try rw [← Nbq56.out] at hx413_0)
                           obtain rfl : ad410 = ad413 := (by injection e413)
                           replace hx413_0 := hc_ HB hx413_0
                           replace p413 := eq_true p413
                           replace q413 := eq_true q413
                           have p69 : 0 ≤ (x47_3 : Int) := of_decide_eq_true as_
                           have q69 : (x47_3 : Int) < ((x6_3.length : Int) : Int) := of_decide_eq_true as_
                           obtain ⟨go69, co69, eo69, gb69, gl69, cl69, HG69⟩ := Kd.R_form HO_6.out (by omega)
                           (first | cases eo69 | (injection eo69 with ea_ en_ ec_; (first | subst ea_ | (injection ea_ with ea_; subst ea_)); subst ec_; clear en_))
                           have GB69 := Aside0.mk gb69
                           have GG69 := Aside0.mk HG69
                           clear gb69 gl69 HG69
                           obtain ⟨hx69_0, hf69_0⟩ := Kd.R_celln 0 HO_6.out (x47_3 : Int) p69 q69
                           replace p69 := eq_true p69
                           replace q69 := eq_true q69
                           have HP72 := Kd.R_putg HO_6.out (x47_3 : Int) (-1)
                           go_wp2_with (first | ((with_reducible refine gate_store (t := 3) (p := 113) rfl ?_); (try (rw [drewN_self wr]; generalize hq_ : World.drewN wr _ = wr; have n0_ := Aside0.mk (Kd.R_at hq_ HO_6.out); have n1_ := Aside0.mk (blk_at hq_ BK396.out); have n2_ := Aside0.mk (blk_at hq_ BK397.out); have n3_ := Aside0.mk (below_at hq_ HB.out); clear hq_ HO_6 BK396 BK397 HB; have HO_6 := n0_; have BK396 := n1_; have BK397 := n2_; have HB := n3_; clear n0_ n1_ n2_ n3_; (try (have HP72 := Kd.R_putg HO_6.out (x47_3 : Int) (-1))))); refine store_event (t := 3) (p := 113) (v := ?vo_w73) (w1 := (wr.setCell ⟨go69, (x47_3 : Int).toNat, none⟩ (.int .i64 (-1)))) ?hg ?ho ?hn ?hr ?_; (case ho => rfl); (case hg => rfl); (case hn => rfl); (case hr => first | (go_simp; done) | (go_simp; rfl)); intro w73 hw; have hg : wr.grownBy w73 (some go69) := (by rw [hw]; exact HP72.2); have hp_ : Kd.R (Kd.int .i64) 3 w73 w.heap.size (fun _ => True) (.slice (some ⟨go69, 0, none⟩) x6_3.length co13) y414 := (by rw [hw, Ny414.out]; exact HP72.1); clear HP72; have n0_ := Aside0.mk (hp_); have n1_ := Aside0.mk (blk_grown (g := gb396) (o := .cells #[.slice A0_0 l0_0.length c0_0, .slice (some ad410) l0_1.length c0_1, .slice (some ad405) l0_2.length c0_2] 34 (0, 0)) (bk_ BK396.out) hg (Kd.R_ne HO_6.out BK396.out (by decide))); have n2_ := Aside0.mk (blk_grown (g := gb397) (o := .cells #[.slice A1_0 l1_0.length c1_0, .slice A1_1 l1_1.length c1_1] 36 (0, 0)) (bk_ BK397.out) hg (Kd.R_ne HO_6.out BK397.out (by decide))); have n3_ := Aside0.mk ((by rw [hw]; exact below_set (HB.out) GB69.out : Below w.heap.size w w73)); clear HO_6; clear BK396; clear BK397; clear HB; have HO_6 := n0_; have BK396 := n1_; have BK397 := n2_; have HB := n3_; clear n0_ n1_ n2_ n3_; clear hg hw hp_))
                           repeat (go_quiet (first | ((with_reducible refine gate_store (t := 3) (p := 113) rfl ?_); (try (rw [drewN_self wr]; generalize hq_ : World.drewN wr _ = wr; have n0_ := Aside0.mk (Kd.R_at hq_ HO_6.out); have n1_ := Aside0.mk (blk_at hq_ BK396.out); have n2_ := Aside0.mk (blk_at hq_ BK397.out); have n3_ := Aside0.mk (below_at hq_ HB.out); clear hq_ HO_6 BK396 BK397 HB; have HO_6 := n0_; have BK396 := n1_; have BK397 := n2_; have HB := n3_; clear n0_ n1_ n2_ n3_; (try (have HP72 := Kd.R_putg HO_6.out (x47_3 : Int) (-1))))); refine store_event (t := 3) (p := 113) (v := ?vo_w73) (w1 := (wr.setCell ⟨go69, (x47_3 : Int).toNat, none⟩ (.int .i64 (-1)))) ?hg ?ho ?hn ?hr ?_; (case ho => rfl); (case hg => rfl); (case hn => rfl); (case hr => first | (go_simp; done) | (go_simp; rfl)); intro w73 hw; have hg : wr.grownBy w73 (some go69) := (by rw [hw]; exact HP72.2); have hp_ : Kd.R (Kd.int .i64) 3 w73 w.heap.size (fun _ => True) (.slice (some ⟨go69, 0, none⟩) x6_3.length co13) y414 := (by rw [hw, Ny414.out]; exact HP72.1); clear HP72; have n0_ := Aside0.mk (hp_); have n1_ := Aside0.mk (blk_grown (g := gb396) (o := .cells #[.slice A0_0 l0_0.length c0_0, .slice (some ad410) l0_1.length c0_1, .slice (some ad405) l0_2.length c0_2] 34 (0, 0)) (bk_ BK396.out) hg (Kd.R_ne HO_6.out BK396.out (by decide))); have n2_ := Aside0.mk (blk_grown (g := gb397) (o := .cells #[.slice A1_0 l1_0.length c1_0, .slice A1_1 l1_1.length c1_1] 36 (0, 0)) (bk_ BK397.out) hg (Kd.R_ne HO_6.out BK397.out (by decide))); have n3_ := Aside0.mk ((by rw [hw]; exact below_set (HB.out) GB69.out : Below w.heap.size w w73)); clear HO_6; clear BK396; clear BK397; clear HB; have HO_6 := n0_; have BK396 := n1_; have BK397 := n2_; have HB := n3_; clear n0_ n1_ n2_ n3_; clear hg hw hp_)); try go_wp2_with (first | ((with_reducible refine gate_store (t := 3) (p := 113) rfl ?_); (try (rw [drewN_self wr]; generalize hq_ : World.drewN wr _ = wr; have n0_ := Aside0.mk (Kd.R_at hq_ HO_6.out); have n1_ := Aside0.mk (blk_at hq_ BK396.out); have n2_ := Aside0.mk (blk_at hq_ BK397.out); have n3_ := Aside0.mk (below_at hq_ HB.out); clear hq_ HO_6 BK396 BK397 HB; have HO_6 := n0_; have BK396 := n1_; have BK397 := n2_; have HB := n3_; clear n0_ n1_ n2_ n3_; (try (have HP72 := Kd.R_putg HO_6.out (x47_3 : Int) (-1))))); refine store_event (t := 3) (p := 113) (v := ?vo_w73) (w1 := (wr.setCell ⟨go69, (x47_3 : Int).toNat, none⟩ (.int .i64 (-1)))) ?hg ?ho ?hn ?hr ?_; (case ho => rfl); (case hg => rfl); (case hn => rfl); (case hr => first | (go_simp; done) | (go_simp; rfl)); intro w73 hw; have hg : wr.grownBy w73 (some go69) := (by rw [hw]; exact HP72.2); have hp_ : Kd.R (Kd.int .i64) 3 w73 w.heap.size (fun _ => True) (.slice (some ⟨go69, 0, none⟩) x6_3.length co13) y414 := (by rw [hw, Ny414.out]; exact HP72.1); clear HP72; have n0_ := Aside0.mk (hp_); have n1_ := Aside0.mk (blk_grown (g := gb396) (o := .cells #[.slice A0_0 l0_0.length c0_0, .slice (some ad410) l0_1.length c0_1, .slice (some ad405) l0_2.length c0_2] 34 (0, 0)) (bk_ BK396.out) hg (Kd.R_ne HO_6.out BK396.out (by decide))); have n2_ := Aside0.mk (blk_grown (g := gb397) (o := .cells #[.slice A1_0 l1_0.length c1_0, .slice A1_1 l1_1.length c1_1] 36 (0, 0)) (bk_ BK397.out) hg (Kd.R_ne HO_6.out BK397.out (by decide))); have n3_ := Aside0.mk ((by rw [hw]; exact below_set (HB.out) GB69.out : Below w.heap.size w w73)); clear HO_6; clear BK396; clear BK397; clear HB; have HO_6 := n0_; have BK396 := n1_; have BK397 := n2_; have HB := n3_; clear n0_ n1_ n2_ n3_; clear hg hw hp_)))
                           (try simp only [← hl6_3])
                           go_roundg k5
                           case measure => have := HK1.out; have := HK2.out; have := HK3.out; have := HJ31.out; have := HK5.out; omega
                           case rel => exact ⟨(y414), (true), (wrap64 (x47_3 + 1)), es_, es_, H', ⟨by have := HK1.out; have := HK2.out; have := HK3.out; have := HJ31.out; have := HK5.out; omega⟩, ⟨by (try simp only [hl6_1]); (try simp only [hl6_2]); (try simp only [hl6_3]); (with_reducible repeat (first | apply Kd.R_alloc | apply Kd.R_drewN | apply Kd.R_drew)); exact HO_6.out⟩, ⟨by (try simp only [hl6_1]); (try simp only [hl6_2]); (try simp only [hl6_3]); (with_reducible repeat (first | refine blk_drewN ?_ _ | refine blk_drew ?_ | refine blk_alloc ?_ _)); exact BK396.out⟩, ⟨by (try simp only [hl6_1]); (try simp only [hl6_2]); (try simp only [hl6_3]); (with_reducible repeat (first | refine blk_drewN ?_ _ | refine blk_drew ?_ | refine blk_alloc ?_ _)); exact BK397.out⟩, ⟨hb_⟩⟩
                          ·rw [if_neg c68] at H
                           exact absurd H (by simp)
                         ·replace c67 := Bool.eq_false_iff.mpr c67
                          subst c67
                          rw [if_neg (show ¬ (false = true) by decide)] at H
                          have H' := Aside0.mk H
                          clear H
                          have hnb74 := NB396_397.out
                          have hnc74 := NB397_396.out
                          have hcz75_0 : wr.cell? ⟨gb396, 0, none⟩ = some (.slice A0_0 l0_0.length c0_0) := (blk_cell BK396.out 0).trans rfl
                          have hcz75_1 : wr.cell? ⟨gb396, 1, none⟩ = some (.slice A0_1 l0_1.length c0_1) := (blk_cell BK396.out 1).trans rfl
                          have hcz75_2 : wr.cell? ⟨gb396, 2, none⟩ = some (.slice (some ad405) l0_2.length c0_2) := (blk_cell BK396.out 2).trans rfl
                          have hfz75_0 := blk_frozen BK396.out 0
                          have hfz75_1 := blk_frozen BK396.out 1
                          have hfz75_2 := blk_frozen BK396.out 2
                          have p410 : 0 ≤ (x47_3 : Int) := of_decide_eq_true as_
                          have q410 : x47_3 < (l0_1.length : Int) := of_decide_eq_true as_
                          obtain ⟨ad410, e410, hx410_0⟩ := Kd.at_bool HR0_1.out x47_3 p410 q410
                          (try rw [← Nbq56.out] at hx410_0)
                          cases e410
                          replace hx410_0 := hc_ HB hx410_0
                          replace p410 := eq_true p410
                          replace q410 := eq_true q410
                          have p413 : 0 ≤ (x47_3 : Int) := of_decide_eq_true as_
                          have q413 : x47_3 < (l0_1.length : Int) := of_decide_eq_true as_
                          obtain ⟨ad413, e413, hx413_0⟩ := Kd.at_bool HR0_1.out x47_3 p413 q413
                          (try rw [← Nbq56.out] at hx413_0)
                          obtain rfl : ad410 = ad413 := (by injection e413)
                          replace hx413_0 := hc_ HB hx413_0
                          replace p413 := eq_true p413
                          replace q413 := eq_true q413
                          go_wp2
                          repeat (go_quiet (fail); try go_wp2)
                          (try simp only [← hl6_3])
                          go_roundg k5
                          case measure => have := HK1.out; have := HK2.out; have := HK3.out; have := HJ31.out; have := HK5.out; omega
                          case rel => exact ⟨(x6_3), (x8_3), (wrap64 (x47_3 + 1)), es_, es_, H', ⟨by have := HK1.out; have := HK2.out; have := HK3.out; have := HJ31.out; have := HK5.out; omega⟩, ⟨by (try simp only [hl6_1]); (try simp only [hl6_2]); (try simp only [hl6_3]); (with_reducible repeat (first | apply Kd.R_alloc | apply Kd.R_drewN | apply Kd.R_drew)); exact HO_6.out⟩, ⟨by (try simp only [hl6_1]); (try simp only [hl6_2]); (try simp only [hl6_3]); (with_reducible repeat (first | refine blk_drewN ?_ _ | refine blk_drew ?_ | refine blk_alloc ?_ _)); exact BK396.out⟩, ⟨by (try simp only [hl6_1]); (try simp only [hl6_2]); (try simp only [hl6_3]); (with_reducible repeat (first | refine blk_drewN ?_ _ | refine blk_drew ?_ | refine blk_alloc ?_ _)); exact BK397.out⟩, ⟨hb_⟩⟩
                       ·rw [if_neg c55] at H
                        exact absurd H (by simp)
                      ·rw [if_neg c54] at H
                       exact absurd H (by simp)
                  ·rw [if_neg c41] at H
                   exact absurd H (by simp)
                 ·rw [if_neg c40] at H
                  exact absurd H (by simp)
             ·rw [if_neg c31] at H
              have c31b0 : decide (x47_3 < (x6_2.length : Int)) = false := decide_eq_false c31
              (try simp only [hl6_1] at c31b0)
              (try simp only [hl6_2] at c31b0)
              (try simp only [hl6_3] at c31b0)
              clear c31
              have H' := Aside0.mk H
              clear H
              go_wp2
              repeat (go_quiet (fail); try go_wp2)
              (try simp only [← hl6_2, ← hl6_3])
              go_roundg k3
              case measure => have := HK1.out; have := HK2.out; have := HK3.out; omega
              case rel => exact ⟨(x6_3), (x8_3), es_, H', ⟨by have := HK1.out; have := HK2.out; have := HK3.out; omega⟩, ⟨by (try simp only [hl6_1]); (try simp only [hl6_2]); (try simp only [hl6_3]); (with_reducible repeat (first | apply Kd.R_alloc | apply Kd.R_drewN | apply Kd.R_drew)); exact HO_6.out⟩, ⟨by (try simp only [hl6_1]); (try simp only [hl6_2]); (try simp only [hl6_3]); (with_reducible repeat (first | refine blk_drewN ?_ _ | refine blk_drew ?_ | refine blk_alloc ?_ _)); exact BK396.out⟩, ⟨by (try simp only [hl6_1]); (try simp only [hl6_2]); (try simp only [hl6_3]); (with_reducible repeat (first | refine blk_drewN ?_ _ | refine blk_drew ?_ | refine blk_alloc ?_ _)); exact BK397.out⟩, ⟨hb_⟩⟩
          ·replace c30 := Bool.eq_false_iff.mpr c30
           subst c30
           rw [if_neg (show ¬ (false = true) by decide)] at H
           obtain rfl := Option.some.inj H
           go_wp2
           repeat (go_quiet (fail); try go_wp2)
           go_ret
           exact ⟨_, er_, by (with_reducible repeat (first | apply Kd.R_alloc | apply Kd.R_drewN | apply Kd.R_drew)); exact HO_6.out, hb_⟩
    ·rw [if_neg c5] at H
     have c5b0 : ((l1_0.length : Int) == 0) = false := beq_eq_false_iff_ne.mpr c5
     have c5b1 : ((l1_0.length : Int) != 0) = true := bne_iff_ne.mpr c5
     have c5b2 : ¬ (l1_0 = []) := fun h_ => c5 (by rw [h_]; rfl)
     have H' := Aside0.mk H
     clear H
     go_enter Tryd.func56, Tryd.ntmps56
     go_wp2_with (first | ((with_reducible refine gate_dst (N := 2) rfl ?_); (try (refine gate_guard (by rfl) ?_; dsimp only)); refine box_event ?hg (N := 2) ?hd (cs := #[.slice A0_0 l0_0.length c0_0, .slice A0_1 l0_1.length c0_1, .slice A0_2 l0_2.length c0_2]) (t := 34) ?hr ?_; (case hd => rfl); (case hg => rfl); (case hr => first | (go_simp; done) | (go_simp; rfl)); intro gb396 hg w76 hbox hb; have n0_ := Aside0.mk (below_step hb_ hb); have n1_ := Aside0.mk (hbox); have n2_ : Aside0 (w.heap.size ≤ gb396) := gz_; have n3_ : Aside0 (w.heap.size ≤ gb396) := gz_; clear HB; have HB := n0_; have BK396 := n1_; have GW396 := n2_; have GE396 := n3_; clear n0_ n1_ n2_ n3_; clear hb hbox hg) | ((with_reducible refine gate_dst (N := 3) rfl ?_); (try (refine gate_guard (by rfl) ?_; dsimp only)); refine box_event ?hg (N := 3) ?hd (cs := #[.slice A1_0 l1_0.length c1_0, .slice A1_1 l1_1.length c1_1]) (t := 36) ?hr ?_; (case hd => rfl); (case hg => rfl); (case hr => first | (go_simp; done) | (go_simp; rfl)); intro gb397 hg w77 hbox hb; have n0_ := bb_ BK396 hb; have n1_ := Aside0.mk (below_step hb_ hb); have n2_ := Aside0.mk (hbox); have n3_ : Aside0 (w.heap.size ≤ gb397) := gz_; have n4_ : Aside0 (w.heap.size ≤ gb397) := gz_; have n5_ := Aside0.mk ((by rw [hg]; exact Nat.ne_of_lt (blk_lt (g := gb396) (o := .cells #[.slice A0_0 l0_0.length c0_0, .slice A0_1 l0_1.length c0_1, .slice A0_2 l0_2.length c0_2] 34 (0, 0)) (bk_ BK396.out)) : gb396 ≠ gb397)); have n6_ := Aside0.mk ((by rw [hg]; exact Nat.ne_of_gt (blk_lt (g := gb396) (o := .cells #[.slice A0_0 l0_0.length c0_0, .slice A0_1 l0_1.length c0_1, .slice A0_2 l0_2.length c0_2] 34 (0, 0)) (bk_ BK396.out)) : gb397 ≠ gb396)); clear BK396; clear HB; have BK396 := n0_; have HB := n1_; have BK397 := n2_; have GW397 := n3_; have GE397 := n4_; have NB396_397 := n5_; have NB397_396 := n6_; clear n0_ n1_ n2_ n3_ n4_ n5_ n6_; clear hb hbox hg; have hnb78 := NB396_397.out; have hnc78 := NB397_396.out; have hcz79_0 : w77.cell? ⟨gb396, 0, none⟩ = some (.slice A0_0 l0_0.length c0_0) := (blk_cell BK396.out 0).trans rfl; have hcz79_1 : w77.cell? ⟨gb396, 1, none⟩ = some (.slice A0_1 l0_1.length c0_1) := (blk_cell BK396.out 1).trans rfl; have hcz79_2 : w77.cell? ⟨gb396, 2, none⟩ = some (.slice A0_2 l0_2.length c0_2) := (blk_cell BK396.out 2).trans rfl; have hfz79_0 := blk_frozen BK396.out 0; have hfz79_1 := blk_frozen BK396.out 1; have hfz79_2 := blk_frozen BK396.out 2) | ((with_reducible refine gate_dst (N := 26) rfl ?_); (try (refine gate_guard (by rfl) ?_; dsimp only)); refine Kd.R_make (Kd.int .i64) _ 3 rfl (N := 26) rfl 31 _ _ rfl (l0_0.length : Int) rfl rfl Tryd.underlying31 (.int .i64 0) 8 info3 rfl (by decide) (by omega) 0 (ok := fun _ => True) (okp := fun _ => True) rfl (fun _ hk => hk) trivial (of_decide_eq_true as_) (Nat.le_trans (Nat.mul_le_mul_right _ (of_decide_eq_true as_ : (l0_0.length : Int).toNat ≤ 35184372088832)) (by omega)) (Below.refl _ _) (Nat.le_refl _) ?_; intro v399 w80 ho81 hb hg_ hnew_; clear hg_ hnew_; (first | rw [← Ny398.out] at ho81 | (simp only [Int.reduceToNat] at ho81; rw [← Ny398.out] at ho81)); have n0_ := Aside0.mk (Kd.R_lower ho81 (below_size hb_)); have n1_ := bb_ BK396 hb; have n2_ := bb_ BK397 hb; have n3_ := Aside0.mk (below_step hb_ hb); clear BK396; clear BK397; clear HB; have HO400 := n0_; have BK396 := n1_; have BK397 := n2_; have HB := n3_; clear n0_ n1_ n2_ n3_; clear hb ho81; have hcz82_0 : w80.cell? ⟨gb397, 0, none⟩ = some (.slice A1_0 l1_0.length c1_0) := (blk_cell BK397.out 0).trans rfl; have hcz82_1 : w80.cell? ⟨gb397, 1, none⟩ = some (.slice A1_1 l1_1.length c1_1) := (blk_cell BK397.out 1).trans rfl; have hfz82_0 := blk_frozen BK397.out 0; have hfz82_1 := blk_frozen BK397.out 1; obtain ⟨Ao83, co83, eo83⟩ := Kd.R_slice HO400.out; subst eo83))
     repeat (go_quiet (first | ((with_reducible refine gate_dst (N := 2) rfl ?_); (try (refine gate_guard (by rfl) ?_; dsimp only)); refine box_event ?hg (N := 2) ?hd (cs := #[.slice A0_0 l0_0.length c0_0, .slice A0_1 l0_1.length c0_1, .slice A0_2 l0_2.length c0_2]) (t := 34) ?hr ?_; (case hd => rfl); (case hg => rfl); (case hr => first | (go_simp; done) | (go_simp; rfl)); intro gb396 hg w76 hbox hb; have n0_ := Aside0.mk (below_step hb_ hb); have n1_ := Aside0.mk (hbox); have n2_ : Aside0 (w.heap.size ≤ gb396) := gz_; have n3_ : Aside0 (w.heap.size ≤ gb396) := gz_; clear HB; have HB := n0_; have BK396 := n1_; have GW396 := n2_; have GE396 := n3_; clear n0_ n1_ n2_ n3_; clear hb hbox hg) | ((with_reducible refine gate_dst (N := 3) rfl ?_); (try (refine gate_guard (by rfl) ?_; dsimp only)); refine box_event ?hg (N := 3) ?hd (cs := #[.slice A1_0 l1_0.length c1_0, .slice A1_1 l1_1.length c1_1]) (t := 36) ?hr ?_; (case hd => rfl); (case hg => rfl); (case hr => first | (go_simp; done) | (go_simp; rfl)); intro gb397 hg w77 hbox hb; have n0_ := bb_ BK396 hb; have n1_ := Aside0.mk (below_step hb_ hb); have n2_ := Aside0.mk (hbox); have n3_ : Aside0 (w.heap.size ≤ gb397) := gz_; have n4_ : Aside0 (w.heap.size ≤ gb397) := gz_; have n5_ := Aside0.mk ((by rw [hg]; exact Nat.ne_of_lt (blk_lt (g := gb396) (o := .cells #[.slice A0_0 l0_0.length c0_0, .slice A0_1 l0_1.length c0_1, .slice A0_2 l0_2.length c0_2] 34 (0, 0)) (bk_ BK396.out)) : gb396 ≠ gb397)); have n6_ := Aside0.mk ((by rw [hg]; exact Nat.ne_of_gt (blk_lt (g := gb396) (o := .cells #[.slice A0_0 l0_0.length c0_0, .slice A0_1 l0_1.length c0_1, .slice A0_2 l0_2.length c0_2] 34 (0, 0)) (bk_ BK396.out)) : gb397 ≠ gb396)); clear BK396; clear HB; have BK396 := n0_; have HB := n1_; have BK397 := n2_; have GW397 := n3_; have GE397 := n4_; have NB396_397 := n5_; have NB397_396 := n6_; clear n0_ n1_ n2_ n3_ n4_ n5_ n6_; clear hb hbox hg; have hnb78 := NB396_397.out; have hnc78 := NB397_396.out; have hcz79_0 : w77.cell? ⟨gb396, 0, none⟩ = some (.slice A0_0 l0_0.length c0_0) := (blk_cell BK396.out 0).trans rfl; have hcz79_1 : w77.cell? ⟨gb396, 1, none⟩ = some (.slice A0_1 l0_1.length c0_1) := (blk_cell BK396.out 1).trans rfl; have hcz79_2 : w77.cell? ⟨gb396, 2, none⟩ = some (.slice A0_2 l0_2.length c0_2) := (blk_cell BK396.out 2).trans rfl; have hfz79_0 := blk_frozen BK396.out 0; have hfz79_1 := blk_frozen BK396.out 1; have hfz79_2 := blk_frozen BK396.out 2) | ((with_reducible refine gate_dst (N := 26) rfl ?_); (try (refine gate_guard (by rfl) ?_; dsimp only)); refine Kd.R_make (Kd.int .i64) _ 3 rfl (N := 26) rfl 31 _ _ rfl (l0_0.length : Int) rfl rfl Tryd.underlying31 (.int .i64 0) 8 info3 rfl (by decide) (by omega) 0 (ok := fun _ => True) (okp := fun _ => True) rfl (fun _ hk => hk) trivial (of_decide_eq_true as_) (Nat.le_trans (Nat.mul_le_mul_right _ (of_decide_eq_true as_ : (l0_0.length : Int).toNat ≤ 35184372088832)) (by omega)) (Below.refl _ _) (Nat.le_refl _) ?_; intro v399 w80 ho81 hb hg_ hnew_; clear hg_ hnew_; (first | rw [← Ny398.out] at ho81 | (simp only [Int.reduceToNat] at ho81; rw [← Ny398.out] at ho81)); have n0_ := Aside0.mk (Kd.R_lower ho81 (below_size hb_)); have n1_ := bb_ BK396 hb; have n2_ := bb_ BK397 hb; have n3_ := Aside0.mk (below_step hb_ hb); clear BK396; clear BK397; clear HB; have HO400 := n0_; have BK396 := n1_; have BK397 := n2_; have HB := n3_; clear n0_ n1_ n2_ n3_; clear hb ho81; have hcz82_0 : w80.cell? ⟨gb397, 0, none⟩ = some (.slice A1_0 l1_0.length c1_0) := (blk_cell BK397.out 0).trans rfl; have hcz82_1 : w80.cell? ⟨gb397, 1, none⟩ = some (.slice A1_1 l1_1.length c1_1) := (blk_cell BK397.out 1).trans rfl; have hfz82_0 := blk_frozen BK397.out 0; have hfz82_1 := blk_frozen BK397.out 1; obtain ⟨Ao83, co83, eo83⟩ := Kd.R_slice HO400.out; subst eo83)); try go_wp2_with (first | ((with_reducible refine gate_dst (N := 2) rfl ?_); (try (refine gate_guard (by rfl) ?_; dsimp only)); refine box_event ?hg (N := 2) ?hd (cs := #[.slice A0_0 l0_0.length c0_0, .slice A0_1 l0_1.length c0_1, .slice A0_2 l0_2.length c0_2]) (t := 34) ?hr ?_; (case hd => rfl); (case hg => rfl); (case hr => first | (go_simp; done) | (go_simp; rfl)); intro gb396 hg w76 hbox hb; have n0_ := Aside0.mk (below_step hb_ hb); have n1_ := Aside0.mk (hbox); have n2_ : Aside0 (w.heap.size ≤ gb396) := gz_; have n3_ : Aside0 (w.heap.size ≤ gb396) := gz_; clear HB; have HB := n0_; have BK396 := n1_; have GW396 := n2_; have GE396 := n3_; clear n0_ n1_ n2_ n3_; clear hb hbox hg) | ((with_reducible refine gate_dst (N := 3) rfl ?_); (try (refine gate_guard (by rfl) ?_; dsimp only)); refine box_event ?hg (N := 3) ?hd (cs := #[.slice A1_0 l1_0.length c1_0, .slice A1_1 l1_1.length c1_1]) (t := 36) ?hr ?_; (case hd => rfl); (case hg => rfl); (case hr => first | (go_simp; done) | (go_simp; rfl)); intro gb397 hg w77 hbox hb; have n0_ := bb_ BK396 hb; have n1_ := Aside0.mk (below_step hb_ hb); have n2_ := Aside0.mk (hbox); have n3_ : Aside0 (w.heap.size ≤ gb397) := gz_; have n4_ : Aside0 (w.heap.size ≤ gb397) := gz_; have n5_ := Aside0.mk ((by rw [hg]; exact Nat.ne_of_lt (blk_lt (g := gb396) (o := .cells #[.slice A0_0 l0_0.length c0_0, .slice A0_1 l0_1.length c0_1, .slice A0_2 l0_2.length c0_2] 34 (0, 0)) (bk_ BK396.out)) : gb396 ≠ gb397)); have n6_ := Aside0.mk ((by rw [hg]; exact Nat.ne_of_gt (blk_lt (g := gb396) (o := .cells #[.slice A0_0 l0_0.length c0_0, .slice A0_1 l0_1.length c0_1, .slice A0_2 l0_2.length c0_2] 34 (0, 0)) (bk_ BK396.out)) : gb397 ≠ gb396)); clear BK396; clear HB; have BK396 := n0_; have HB := n1_; have BK397 := n2_; have GW397 := n3_; have GE397 := n4_; have NB396_397 := n5_; have NB397_396 := n6_; clear n0_ n1_ n2_ n3_ n4_ n5_ n6_; clear hb hbox hg; have hnb78 := NB396_397.out; have hnc78 := NB397_396.out; have hcz79_0 : w77.cell? ⟨gb396, 0, none⟩ = some (.slice A0_0 l0_0.length c0_0) := (blk_cell BK396.out 0).trans rfl; have hcz79_1 : w77.cell? ⟨gb396, 1, none⟩ = some (.slice A0_1 l0_1.length c0_1) := (blk_cell BK396.out 1).trans rfl; have hcz79_2 : w77.cell? ⟨gb396, 2, none⟩ = some (.slice A0_2 l0_2.length c0_2) := (blk_cell BK396.out 2).trans rfl; have hfz79_0 := blk_frozen BK396.out 0; have hfz79_1 := blk_frozen BK396.out 1; have hfz79_2 := blk_frozen BK396.out 2) | ((with_reducible refine gate_dst (N := 26) rfl ?_); (try (refine gate_guard (by rfl) ?_; dsimp only)); refine Kd.R_make (Kd.int .i64) _ 3 rfl (N := 26) rfl 31 _ _ rfl (l0_0.length : Int) rfl rfl Tryd.underlying31 (.int .i64 0) 8 info3 rfl (by decide) (by omega) 0 (ok := fun _ => True) (okp := fun _ => True) rfl (fun _ hk => hk) trivial (of_decide_eq_true as_) (Nat.le_trans (Nat.mul_le_mul_right _ (of_decide_eq_true as_ : (l0_0.length : Int).toNat ≤ 35184372088832)) (by omega)) (Below.refl _ _) (Nat.le_refl _) ?_; intro v399 w80 ho81 hb hg_ hnew_; clear hg_ hnew_; (first | rw [← Ny398.out] at ho81 | (simp only [Int.reduceToNat] at ho81; rw [← Ny398.out] at ho81)); have n0_ := Aside0.mk (Kd.R_lower ho81 (below_size hb_)); have n1_ := bb_ BK396 hb; have n2_ := bb_ BK397 hb; have n3_ := Aside0.mk (below_step hb_ hb); clear BK396; clear BK397; clear HB; have HO400 := n0_; have BK396 := n1_; have BK397 := n2_; have HB := n3_; clear n0_ n1_ n2_ n3_; clear hb ho81; have hcz82_0 : w80.cell? ⟨gb397, 0, none⟩ = some (.slice A1_0 l1_0.length c1_0) := (blk_cell BK397.out 0).trans rfl; have hcz82_1 : w80.cell? ⟨gb397, 1, none⟩ = some (.slice A1_1 l1_1.length c1_1) := (blk_cell BK397.out 1).trans rfl; have hfz82_0 := blk_frozen BK397.out 0; have hfz82_1 := blk_frozen BK397.out 1; obtain ⟨Ao83, co83, eo83⟩ := Kd.R_slice HO400.out; subst eo83)))
     go_loopg [118] k (fun kq v118 w' => ∃ (x6_1 : List Int) (x118_1 : Int), v118 = .int .i64 x118_1 ∧ Aside0 (impl_Board_wins.l4 kq (l0_0.length : Int) x6_1 (y398.length : Int) x118_1 l0_0 l0_1 l0_2 l1_0 l1_1 = some r) ∧ Aside0 (kq ≤ k) ∧ Aside0 (Kd.R (Kd.int .i64) 3 w' w.heap.size (fun _ => True) (.slice Ao83 y398.length co83) x6_1) ∧ Aside0 (w'.heap[gb396]? = some (.cells #[(.slice A0_0 l0_0.length c0_0), (.slice A0_1 l0_1.length c0_1), (.slice A0_2 l0_2.length c0_2)] 34 (0, 0))) ∧ Aside0 (w'.heap[gb397]? = some (.cells #[(.slice A1_0 l1_0.length c1_0), (.slice A1_1 l1_1.length c1_1)] 36 (0, 0))) ∧ Aside0 (Below w.heap.size w w'))
     case atStart => exact ⟨(y398), (0), es_, H', ⟨Nat.le_refl _⟩, ⟨ra_ HO400.out⟩, ⟨bk_ BK396.out⟩, ⟨bk_ BK397.out⟩, ⟨hb_⟩⟩
     case round =>
      clear H'
      obtain ⟨x6_1, x118_1, rfl, HA, HK1, HO_6, BK396, BK397, HB⟩ := hrel
      have hl6_1 := (Kd.R_reads' HO_6.out).1
      rw [hl6_1] at HO_6
      (try simp only [hl6_1])
      (try simp only [hl6_1] at BK396)
      (try simp only [hl6_1] at BK397)
      cases gk with
      | zero => exact absurd HA.out (by simp [impl_Board_wins.l4])
      | succ k1 =>
       have H := HA.out
       clear HA
       simp only [impl_Board_wins.l4] at H
       by_cases c84 : x118_1 < (y398.length : Int)
       ·rw [if_pos c84] at H
        have c84b0 : decide (x118_1 < (y398.length : Int)) = true := decide_eq_true c84
        (try simp only [hl6_1] at c84b0)
        clear c84
        by_cases c85 : 0 ≤ x118_1
        ·rw [if_pos c85] at H
         have c85b0 : decide (0 ≤ x118_1) = true := decide_eq_true c85
         clear c85
         by_cases c86 : x118_1 < (x6_1.length : Int)
         ·rw [if_pos c86] at H
          have c86b0 : decide (x118_1 < (x6_1.length : Int)) = true := decide_eq_true c86
          (try simp only [hl6_1] at c86b0)
          clear c86
          obtain ⟨y415, hy415⟩ : ∃ y_ : List Int, y_ = (x6_1.set (x118_1 : Int).toNat (-1)) := ⟨_, rfl⟩
          replace H : ((impl_Board_aims.f k1 l0_0 l0_1 l0_2 l1_0 l1_1 x118_1).bind fun t416 => (if t416 = true then (impl_Board_wins.l4 k1 (l0_0.length : Int) (y415.set (x118_1 : Int).toNat 0) (y398.length : Int) (wrap64 (x118_1 + 1)) l0_0 l0_1 l0_2 l1_0 l1_1) else (impl_Board_wins.l4 k1 (l0_0.length : Int) y415 (y398.length : Int) (wrap64 (x118_1 + 1)) l0_0 l0_1 l0_2 l1_0 l1_1))) = some r := by first | (rw [hy415]; with_reducible exact H) | (have H2_ := (Option.bind_some _ _).symm.trans H; rw [hy415]; with_reducible exact H2_) | (have H2_ := (Option.bind_some _ _).symm.trans H; with_reducible exact H2_) | with_reducible exact H | (rw [hy415]; exact H) | exact H
          have Ny415 := Aside0.mk hy415
          clear hy415
          replace H := Option.bind_eq_some_iff.mp H
          obtain ⟨t416, A880, H⟩ := H
          replace H : (if t416 = true then (impl_Board_wins.l4 k1 (l0_0.length : Int) (y415.set (x118_1 : Int).toNat 0) (y398.length : Int) (wrap64 (x118_1 + 1)) l0_0 l0_1 l0_2 l1_0 l1_1) else (impl_Board_wins.l4 k1 (l0_0.length : Int) y415 (y398.length : Int) (wrap64 (x118_1 + 1)) l0_0 l0_1 l0_2 l1_0 l1_1)) = some r := H
          have A88 := Aside0.mk A880
          clear A880
          by_cases c89 : t416 = true
          ·subst c89
           rw [if_pos rfl] at H
           obtain ⟨y417, hy417⟩ : ∃ y_ : List Int, y_ = (y415.set (x118_1 : Int).toNat 0) := ⟨_, rfl⟩
           replace H : (impl_Board_wins.l4 k1 (l0_0.length : Int) y417 (y398.length : Int) (wrap64 (x118_1 + 1)) l0_0 l0_1 l0_2 l1_0 l1_1) = some r := by first | (rw [hy417]; with_reducible exact H) | (have H2_ := (Option.bind_some _ _).symm.trans H; rw [hy417]; with_reducible exact H2_) | (have H2_ := (Option.bind_some _ _).symm.trans H; with_reducible exact H2_) | with_reducible exact H | (rw [hy417]; exact H) | exact H
           have Ny417 := Aside0.mk hy417
           clear hy417
           have H' := Aside0.mk H
           clear H
           have p87 : 0 ≤ (x118_1 : Int) := of_decide_eq_true as_
           have q87 : (x118_1 : Int) < ((x6_1.length : Int) : Int) := of_decide_eq_true as_
           obtain ⟨go87, co87, eo87, gb87, gl87, cl87, HG87⟩ := Kd.R_form HO_6.out (by omega)
           (first | cases eo87 | (injection eo87 with ea_ en_ ec_; (first | subst ea_ | (injection ea_ with ea_; subst ea_)); subst ec_; clear en_))
           have GB87 := Aside0.mk gb87
           have GG87 := Aside0.mk HG87
           clear gb87 gl87 HG87
           obtain ⟨hx87_0, hf87_0⟩ := Kd.R_celln 0 HO_6.out (x118_1 : Int) p87 q87
           replace p87 := eq_true p87
           replace q87 := eq_true q87
           have HP91 := Kd.R_putg HO_6.out (x118_1 : Int) (-1)
           go_wp2_with (first | ((with_reducible refine gate_store (t := 3) (p := 123) rfl ?_); (try (rw [drewN_self wr]; generalize hq_ : World.drewN wr _ = wr; have n0_ := Aside0.mk (Kd.R_at hq_ HO_6.out); have n1_ := Aside0.mk (blk_at hq_ BK396.out); have n2_ := Aside0.mk (blk_at hq_ BK397.out); have n3_ := Aside0.mk (below_at hq_ HB.out); clear hq_ HO_6 BK396 BK397 HB; have HO_6 := n0_; have BK396 := n1_; have BK397 := n2_; have HB := n3_; clear n0_ n1_ n2_ n3_; (try (have HP91 := Kd.R_putg HO_6.out (x118_1 : Int) (-1))))); refine store_event (t := 3) (p := 123) (v := ?vo_w92) (w1 := (wr.setCell ⟨go87, (x118_1 : Int).toNat, none⟩ (.int .i64 (-1)))) ?hg ?ho ?hn ?hr ?_; (case ho => rfl); (case hg => rfl); (case hn => rfl); (case hr => first | (go_simp; done) | (go_simp; rfl)); intro w92 hw; have hg : wr.grownBy w92 (some go87) := (by rw [hw]; exact HP91.2); have hp_ : Kd.R (Kd.int .i64) 3 w92 w.heap.size (fun _ => True) (.slice (some ⟨go87, 0, none⟩) x6_1.length co83) y415 := (by rw [hw, Ny415.out]; exact HP91.1); clear HP91; have n0_ := Aside0.mk (hp_); have n1_ := Aside0.mk (blk_grown (g := gb396) (o := .cells #[.slice A0_0 l0_0.length c0_0, .slice A0_1 l0_1.length c0_1, .slice A0_2 l0_2.length c0_2] 34 (0, 0)) (bk_ BK396.out) hg (Kd.R_ne HO_6.out BK396.out (by decide))); have n2_ := Aside0.mk (blk_grown (g := gb397) (o := .cells #[.slice A1_0 l1_0.length c1_0, .slice A1_1 l1_1.length c1_1] 36 (0, 0)) (bk_ BK397.out) hg (Kd.R_ne HO_6.out BK397.out (by decide))); have n3_ := Aside0.mk ((by rw [hw]; exact below_set (HB.out) GB87.out : Below w.heap.size w w92)); clear HO_6; clear BK396; clear BK397; clear HB; have HO_6 := n0_; have BK396 := n1_; have BK397 := n2_; have HB := n3_; clear n0_ n1_ n2_ n3_; clear hg hw hp_; have hnb93 := NB396_397.out; have hnc93 := NB397_396.out; have hcz94_0 : w92.cell? ⟨gb396, 0, none⟩ = some (.slice A0_0 l0_0.length c0_0) := (blk_cell BK396.out 0).trans rfl; have hcz94_1 : w92.cell? ⟨gb396, 1, none⟩ = some (.slice A0_1 l0_1.length c0_1) := (blk_cell BK396.out 1).trans rfl; have hcz94_2 : w92.cell? ⟨gb396, 2, none⟩ = some (.slice A0_2 l0_2.length c0_2) := (blk_cell BK396.out 2).trans rfl; have hfz94_0 := blk_frozen BK396.out 0; have hfz94_1 := blk_frozen BK396.out 1; have hfz94_2 := blk_frozen BK396.out 2; have hcz95_0 : w92.cell? ⟨gb397, 0, none⟩ = some (.slice A1_0 l1_0.length c1_0) := (blk_cell BK397.out 0).trans rfl; have hcz95_1 : w92.cell? ⟨gb397, 1, none⟩ = some (.slice A1_1 l1_1.length c1_1) := (blk_cell BK397.out 1).trans rfl; have hfz95_0 := blk_frozen BK397.out 0; have hfz95_1 := blk_frozen BK397.out 1) | (go_at_call 63; (with_reducible refine (impl_Board_aims.calls k1 _ _ l0_0 _ _ l0_1 _ _ l0_2 _ _ l1_0 _ _ l1_1 x118_1 true _ ?side1 ?side2 ?side3 ?side4 ?side5 ?side6 ?side7 ?side8 ?side9 ?side10 A88.out).mono ?_); (case side1 => exact cb_ HR0_0.out); (case side2 => exact HC0_0.out); (case side3 => exact cb_ HR0_1.out); (case side4 => exact HC0_1.out); (case side5 => exact cb_ HR0_2.out); (case side6 => exact HC0_2.out); (case side7 => exact cb_ HR1_0.out); (case side8 => exact HC1_0.out); (case side9 => exact cb_ HR1_1.out); (case side10 => exact HC1_1.out); rintro e w96 ⟨rfl, hb⟩; have n0_ := Aside0.mk (Kd.R_below (ra_ HO_6.out) hb); have n1_ := bb_ BK396 hb; have n2_ := bb_ BK397 hb; have n3_ := Aside0.mk (below_step hb_ hb); clear HO_6; clear BK396; clear BK397; clear HB; have HO_6 := n0_; have BK396 := n1_; have BK397 := n2_; have HB := n3_; clear n0_ n1_ n2_ n3_; (try clear hb); (try clear hb2); (try clear hk); (try clear hi); have p90 : 0 ≤ (x118_1 : Int) := of_decide_eq_true as_; have q90 : (x118_1 : Int) < ((x6_1.length : Int) : Int) := of_decide_eq_true as_; obtain ⟨hx90_0, hf90_0⟩ := Kd.R_celln 0 HO_6.out (x118_1 : Int) p90 q90; replace p90 := eq_true p90; replace q90 := eq_true q90; obtain ⟨hy97_, hz97_⟩ := Kd.R_celln 0 HO_6.out (x118_1 : Int) (of_decide_eq_true as_) (of_decide_eq_true as_); have HP97 := Kd.R_putg HO_6.out (x118_1 : Int) 0) | ((with_reducible refine gate_store (t := 3) (p := 130) rfl ?_); (try (rw [drewN_self w96]; generalize hq_ : World.drewN w96 _ = w96; have n0_ := Aside0.mk (Kd.R_at hq_ HO_6.out); have n1_ := Aside0.mk (blk_at hq_ BK396.out); have n2_ := Aside0.mk (blk_at hq_ BK397.out); have n3_ := Aside0.mk (below_at hq_ HB.out); clear hq_ HO_6 BK396 BK397 HB; have HO_6 := n0_; have BK396 := n1_; have BK397 := n2_; have HB := n3_; clear n0_ n1_ n2_ n3_; (try (obtain ⟨hy97_, hz97_⟩ := Kd.R_celln 0 HO_6.out (x118_1 : Int) (of_decide_eq_true as_) (of_decide_eq_true as_))); (try (have HP97 := Kd.R_putg HO_6.out (x118_1 : Int) 0)))); refine store_event (t := 3) (p := 130) (v := ?vo_w98) (w1 := (w96.setCell ⟨go87, (x118_1 : Int).toNat, none⟩ (.int .i64 0))) ?hg ?ho ?hn ?hr ?_; (case ho => rfl); (case hg => rfl); (case hn => rfl); (case hr => first | (go_simp; done) | (go_simp; rfl)); intro w98 hw; have hg : w96.grownBy w98 (some go87) := (by rw [hw]; exact HP97.2); have hp_ : Kd.R (Kd.int .i64) 3 w98 w.heap.size (fun _ => True) (.slice (some ⟨go87, 0, none⟩) x6_1.length co83) y417 := (by rw [hw, Ny417.out]; exact HP97.1); clear HP97; have n0_ := Aside0.mk (hp_); have n1_ := Aside0.mk (blk_grown (g := gb396) (o := .cells #[.slice A0_0 l0_0.length c0_0, .slice A0_1 l0_1.length c0_1, .slice A0_2 l0_2.length c0_2] 34 (0, 0)) (bk_ BK396.out) hg (Kd.R_ne HO_6.out BK396.out (by decide))); have n2_ := Aside0.mk (blk_grown (g := gb397) (o := .cells #[.slice A1_0 l1_0.length c1_0, .slice A1_1 l1_1.length c1_1] 36 (0, 0)) (bk_ BK397.out) hg (Kd.R_ne HO_6.out BK397.out (by decide))); have n3_ := Aside0.mk ((by rw [hw]; exact below_set (HB.out) GB87.out : Below w.heap.size w w98)); clear HO_6; clear BK396; clear BK397; clear HB; have HO_6 := n0_; have BK396 := n1_; have BK397 := n2_; have HB := n3_; clear n0_ n1_ n2_ n3_; clear hg hw hp_))
           repeat (go_quiet (first | ((with_reducible refine gate_store (t := 3) (p := 123) rfl ?_); (try (rw [drewN_self wr]; generalize hq_ : World.drewN wr _ = wr; have n0_ := Aside0.mk (Kd.R_at hq_ HO_6.out); have n1_ := Aside0.mk (blk_at hq_ BK396.out); have n2_ := Aside0.mk (blk_at hq_ BK397.out); have n3_ := Aside0.mk (below_at hq_ HB.out); clear hq_ HO_6 BK396 BK397 HB; have HO_6 := n0_; have BK396 := n1_; have BK397 := n2_; have HB := n3_; clear n0_ n1_ n2_ n3_; (try (have HP91 := Kd.R_putg HO_6.out (x118_1 : Int) (-1))))); refine store_event (t := 3) (p := 123) (v := ?vo_w92) (w1 := (wr.setCell ⟨go87, (x118_1 : Int).toNat, none⟩ (.int .i64 (-1)))) ?hg ?ho ?hn ?hr ?_; (case ho => rfl); (case hg => rfl); (case hn => rfl); (case hr => first | (go_simp; done) | (go_simp; rfl)); intro w92 hw; have hg : wr.grownBy w92 (some go87) := (by rw [hw]; exact HP91.2); have hp_ : Kd.R (Kd.int .i64) 3 w92 w.heap.size (fun _ => True) (.slice (some ⟨go87, 0, none⟩) x6_1.length co83) y415 := (by rw [hw, Ny415.out]; exact HP91.1); clear HP91; have n0_ := Aside0.mk (hp_); have n1_ := Aside0.mk (blk_grown (g := gb396) (o := .cells #[.slice A0_0 l0_0.length c0_0, .slice A0_1 l0_1.length c0_1, .slice A0_2 l0_2.length c0_2] 34 (0, 0)) (bk_ BK396.out) hg (Kd.R_ne HO_6.out BK396.out (by decide))); have n2_ := Aside0.mk (blk_grown (g := gb397) (o := .cells #[.slice A1_0 l1_0.length c1_0, .slice A1_1 l1_1.length c1_1] 36 (0, 0)) (bk_ BK397.out) hg (Kd.R_ne HO_6.out BK397.out (by decide))); have n3_ := Aside0.mk ((by rw [hw]; exact below_set (HB.out) GB87.out : Below w.heap.size w w92)); clear HO_6; clear BK396; clear BK397; clear HB; have HO_6 := n0_; have BK396 := n1_; have BK397 := n2_; have HB := n3_; clear n0_ n1_ n2_ n3_; clear hg hw hp_; have hnb93 := NB396_397.out; have hnc93 := NB397_396.out; have hcz94_0 : w92.cell? ⟨gb396, 0, none⟩ = some (.slice A0_0 l0_0.length c0_0) := (blk_cell BK396.out 0).trans rfl; have hcz94_1 : w92.cell? ⟨gb396, 1, none⟩ = some (.slice A0_1 l0_1.length c0_1) := (blk_cell BK396.out 1).trans rfl; have hcz94_2 : w92.cell? ⟨gb396, 2, none⟩ = some (.slice A0_2 l0_2.length c0_2) := (blk_cell BK396.out 2).trans rfl; have hfz94_0 := blk_frozen BK396.out 0; have hfz94_1 := blk_frozen BK396.out 1; have hfz94_2 := blk_frozen BK396.out 2; have hcz95_0 : w92.cell? ⟨gb397, 0, none⟩ = some (.slice A1_0 l1_0.length c1_0) := (blk_cell BK397.out 0).trans rfl; have hcz95_1 : w92.cell? ⟨gb397, 1, none⟩ = some (.slice A1_1 l1_1.length c1_1) := (blk_cell BK397.out 1).trans rfl; have hfz95_0 := blk_frozen BK397.out 0; have hfz95_1 := blk_frozen BK397.out 1) | (go_at_call 63; (with_reducible refine (impl_Board_aims.calls k1 _ _ l0_0 _ _ l0_1 _ _ l0_2 _ _ l1_0 _ _ l1_1 x118_1 true _ ?side1 ?side2 ?side3 ?side4 ?side5 ?side6 ?side7 ?side8 ?side9 ?side10 A88.out).mono ?_); (case side1 => exact cb_ HR0_0.out); (case side2 => exact HC0_0.out); (case side3 => exact cb_ HR0_1.out); (case side4 => exact HC0_1.out); (case side5 => exact cb_ HR0_2.out); (case side6 => exact HC0_2.out); (case side7 => exact cb_ HR1_0.out); (case side8 => exact HC1_0.out); (case side9 => exact cb_ HR1_1.out); (case side10 => exact HC1_1.out); rintro e w96 ⟨rfl, hb⟩; have n0_ := Aside0.mk (Kd.R_below (ra_ HO_6.out) hb); have n1_ := bb_ BK396 hb; have n2_ := bb_ BK397 hb; have n3_ := Aside0.mk (below_step hb_ hb); clear HO_6; clear BK396; clear BK397; clear HB; have HO_6 := n0_; have BK396 := n1_; have BK397 := n2_; have HB := n3_; clear n0_ n1_ n2_ n3_; (try clear hb); (try clear hb2); (try clear hk); (try clear hi); have p90 : 0 ≤ (x118_1 : Int) := of_decide_eq_true as_; have q90 : (x118_1 : Int) < ((x6_1.length : Int) : Int) := of_decide_eq_true as_; obtain ⟨hx90_0, hf90_0⟩ := Kd.R_celln 0 HO_6.out (x118_1 : Int) p90 q90; replace p90 := eq_true p90; replace q90 := eq_true q90; obtain ⟨hy97_, hz97_⟩ := Kd.R_celln 0 HO_6.out (x118_1 : Int) (of_decide_eq_true as_) (of_decide_eq_true as_); have HP97 := Kd.R_putg HO_6.out (x118_1 : Int) 0) | ((with_reducible refine gate_store (t := 3) (p := 130) rfl ?_); (try (rw [drewN_self w96]; generalize hq_ : World.drewN w96 _ = w96; have n0_ := Aside0.mk (Kd.R_at hq_ HO_6.out); have n1_ := Aside0.mk (blk_at hq_ BK396.out); have n2_ := Aside0.mk (blk_at hq_ BK397.out); have n3_ := Aside0.mk (below_at hq_ HB.out); clear hq_ HO_6 BK396 BK397 HB; have HO_6 := n0_; have BK396 := n1_; have BK397 := n2_; have HB := n3_; clear n0_ n1_ n2_ n3_; (try (obtain ⟨hy97_, hz97_⟩ := Kd.R_celln 0 HO_6.out (x118_1 : Int) (of_decide_eq_true as_) (of_decide_eq_true as_))); (try (have HP97 := Kd.R_putg HO_6.out (x118_1 : Int) 0)))); refine store_event (t := 3) (p := 130) (v := ?vo_w98) (w1 := (w96.setCell ⟨go87, (x118_1 : Int).toNat, none⟩ (.int .i64 0))) ?hg ?ho ?hn ?hr ?_; (case ho => rfl); (case hg => rfl); (case hn => rfl); (case hr => first | (go_simp; done) | (go_simp; rfl)); intro w98 hw; have hg : w96.grownBy w98 (some go87) := (by rw [hw]; exact HP97.2); have hp_ : Kd.R (Kd.int .i64) 3 w98 w.heap.size (fun _ => True) (.slice (some ⟨go87, 0, none⟩) x6_1.length co83) y417 := (by rw [hw, Ny417.out]; exact HP97.1); clear HP97; have n0_ := Aside0.mk (hp_); have n1_ := Aside0.mk (blk_grown (g := gb396) (o := .cells #[.slice A0_0 l0_0.length c0_0, .slice A0_1 l0_1.length c0_1, .slice A0_2 l0_2.length c0_2] 34 (0, 0)) (bk_ BK396.out) hg (Kd.R_ne HO_6.out BK396.out (by decide))); have n2_ := Aside0.mk (blk_grown (g := gb397) (o := .cells #[.slice A1_0 l1_0.length c1_0, .slice A1_1 l1_1.length c1_1] 36 (0, 0)) (bk_ BK397.out) hg (Kd.R_ne HO_6.out BK397.out (by decide))); have n3_ := Aside0.mk ((by rw [hw]; exact below_set (HB.out) GB87.out : Below w.heap.size w w98)); clear HO_6; clear BK396; clear BK397; clear HB; have HO_6 := n0_; have BK396 := n1_; have BK397 := n2_; have HB := n3_; clear n0_ n1_ n2_ n3_; clear hg hw hp_)); try go_wp2_with (first | ((with_reducible refine gate_store (t := 3) (p := 123) rfl ?_); (try (rw [drewN_self wr]; generalize hq_ : World.drewN wr _ = wr; have n0_ := Aside0.mk (Kd.R_at hq_ HO_6.out); have n1_ := Aside0.mk (blk_at hq_ BK396.out); have n2_ := Aside0.mk (blk_at hq_ BK397.out); have n3_ := Aside0.mk (below_at hq_ HB.out); clear hq_ HO_6 BK396 BK397 HB; have HO_6 := n0_; have BK396 := n1_; have BK397 := n2_; have HB := n3_; clear n0_ n1_ n2_ n3_; (try (have HP91 := Kd.R_putg HO_6.out (x118_1 : Int) (-1))))); refine store_event (t := 3) (p := 123) (v := ?vo_w92) (w1 := (wr.setCell ⟨go87, (x118_1 : Int).toNat, none⟩ (.int .i64 (-1)))) ?hg ?ho ?hn ?hr ?_; (case ho => rfl); (case hg => rfl); (case hn => rfl); (case hr => first | (go_simp; done) | (go_simp; rfl)); intro w92 hw; have hg : wr.grownBy w92 (some go87) := (by rw [hw]; exact HP91.2); have hp_ : Kd.R (Kd.int .i64) 3 w92 w.heap.size (fun _ => True) (.slice (some ⟨go87, 0, none⟩) x6_1.length co83) y415 := (by rw [hw, Ny415.out]; exact HP91.1); clear HP91; have n0_ := Aside0.mk (hp_); have n1_ := Aside0.mk (blk_grown (g := gb396) (o := .cells #[.slice A0_0 l0_0.length c0_0, .slice A0_1 l0_1.length c0_1, .slice A0_2 l0_2.length c0_2] 34 (0, 0)) (bk_ BK396.out) hg (Kd.R_ne HO_6.out BK396.out (by decide))); have n2_ := Aside0.mk (blk_grown (g := gb397) (o := .cells #[.slice A1_0 l1_0.length c1_0, .slice A1_1 l1_1.length c1_1] 36 (0, 0)) (bk_ BK397.out) hg (Kd.R_ne HO_6.out BK397.out (by decide))); have n3_ := Aside0.mk ((by rw [hw]; exact below_set (HB.out) GB87.out : Below w.heap.size w w92)); clear HO_6; clear BK396; clear BK397; clear HB; have HO_6 := n0_; have BK396 := n1_; have BK397 := n2_; have HB := n3_; clear n0_ n1_ n2_ n3_; clear hg hw hp_; have hnb93 := NB396_397.out; have hnc93 := NB397_396.out; have hcz94_0 : w92.cell? ⟨gb396, 0, none⟩ = some (.slice A0_0 l0_0.length c0_0) := (blk_cell BK396.out 0).trans rfl; have hcz94_1 : w92.cell? ⟨gb396, 1, none⟩ = some (.slice A0_1 l0_1.length c0_1) := (blk_cell BK396.out 1).trans rfl; have hcz94_2 : w92.cell? ⟨gb396, 2, none⟩ = some (.slice A0_2 l0_2.length c0_2) := (blk_cell BK396.out 2).trans rfl; have hfz94_0 := blk_frozen BK396.out 0; have hfz94_1 := blk_frozen BK396.out 1; have hfz94_2 := blk_frozen BK396.out 2; have hcz95_0 : w92.cell? ⟨gb397, 0, none⟩ = some (.slice A1_0 l1_0.length c1_0) := (blk_cell BK397.out 0).trans rfl; have hcz95_1 : w92.cell? ⟨gb397, 1, none⟩ = some (.slice A1_1 l1_1.length c1_1) := (blk_cell BK397.out 1).trans rfl; have hfz95_0 := blk_frozen BK397.out 0; have hfz95_1 := blk_frozen BK397.out 1) | (go_at_call 63; (with_reducible refine (impl_Board_aims.calls k1 _ _ l0_0 _ _ l0_1 _ _ l0_2 _ _ l1_0 _ _ l1_1 x118_1 true _ ?side1 ?side2 ?side3 ?side4 ?side5 ?side6 ?side7 ?side8 ?side9 ?side10 A88.out).mono ?_); (case side1 => exact cb_ HR0_0.out); (case side2 => exact HC0_0.out); (case side3 => exact cb_ HR0_1.out); (case side4 => exact HC0_1.out); (case side5 => exact cb_ HR0_2.out); (case side6 => exact HC0_2.out); (case side7 => exact cb_ HR1_0.out); (case side8 => exact HC1_0.out); (case side9 => exact cb_ HR1_1.out); (case side10 => exact HC1_1.out); rintro e w96 ⟨rfl, hb⟩; have n0_ := Aside0.mk (Kd.R_below (ra_ HO_6.out) hb); have n1_ := bb_ BK396 hb; have n2_ := bb_ BK397 hb; have n3_ := Aside0.mk (below_step hb_ hb); clear HO_6; clear BK396; clear BK397; clear HB; have HO_6 := n0_; have BK396 := n1_; have BK397 := n2_; have HB := n3_; clear n0_ n1_ n2_ n3_; (try clear hb); (try clear hb2); (try clear hk); (try clear hi); have p90 : 0 ≤ (x118_1 : Int) := of_decide_eq_true as_; have q90 : (x118_1 : Int) < ((x6_1.length : Int) : Int) := of_decide_eq_true as_; obtain ⟨hx90_0, hf90_0⟩ := Kd.R_celln 0 HO_6.out (x118_1 : Int) p90 q90; replace p90 := eq_true p90; replace q90 := eq_true q90; obtain ⟨hy97_, hz97_⟩ := Kd.R_celln 0 HO_6.out (x118_1 : Int) (of_decide_eq_true as_) (of_decide_eq_true as_); have HP97 := Kd.R_putg HO_6.out (x118_1 : Int) 0) | ((with_reducible refine gate_store (t := 3) (p := 130) rfl ?_); (try (rw [drewN_self w96]; generalize hq_ : World.drewN w96 _ = w96; have n0_ := Aside0.mk (Kd.R_at hq_ HO_6.out); have n1_ := Aside0.mk (blk_at hq_ BK396.out); have n2_ := Aside0.mk (blk_at hq_ BK397.out); have n3_ := Aside0.mk (below_at hq_ HB.out); clear hq_ HO_6 BK396 BK397 HB; have HO_6 := n0_; have BK396 := n1_; have BK397 := n2_; have HB := n3_; clear n0_ n1_ n2_ n3_; (try (obtain ⟨hy97_, hz97_⟩ := Kd.R_celln 0 HO_6.out (x118_1 : Int) (of_decide_eq_true as_) (of_decide_eq_true as_))); (try (have HP97 := Kd.R_putg HO_6.out (x118_1 : Int) 0)))); refine store_event (t := 3) (p := 130) (v := ?vo_w98) (w1 := (w96.setCell ⟨go87, (x118_1 : Int).toNat, none⟩ (.int .i64 0))) ?hg ?ho ?hn ?hr ?_; (case ho => rfl); (case hg => rfl); (case hn => rfl); (case hr => first | (go_simp; done) | (go_simp; rfl)); intro w98 hw; have hg : w96.grownBy w98 (some go87) := (by rw [hw]; exact HP97.2); have hp_ : Kd.R (Kd.int .i64) 3 w98 w.heap.size (fun _ => True) (.slice (some ⟨go87, 0, none⟩) x6_1.length co83) y417 := (by rw [hw, Ny417.out]; exact HP97.1); clear HP97; have n0_ := Aside0.mk (hp_); have n1_ := Aside0.mk (blk_grown (g := gb396) (o := .cells #[.slice A0_0 l0_0.length c0_0, .slice A0_1 l0_1.length c0_1, .slice A0_2 l0_2.length c0_2] 34 (0, 0)) (bk_ BK396.out) hg (Kd.R_ne HO_6.out BK396.out (by decide))); have n2_ := Aside0.mk (blk_grown (g := gb397) (o := .cells #[.slice A1_0 l1_0.length c1_0, .slice A1_1 l1_1.length c1_1] 36 (0, 0)) (bk_ BK397.out) hg (Kd.R_ne HO_6.out BK397.out (by decide))); have n3_ := Aside0.mk ((by rw [hw]; exact below_set (HB.out) GB87.out : Below w.heap.size w w98)); clear HO_6; clear BK396; clear BK397; clear HB; have HO_6 := n0_; have BK396 := n1_; have BK397 := n2_; have HB := n3_; clear n0_ n1_ n2_ n3_; clear hg hw hp_)))
           (try simp only [← hl6_1])
           go_roundg k1
           case measure => have := HK1.out; omega
           case rel => exact ⟨(y417), (wrap64 (x118_1 + 1)), es_, H', ⟨by have := HK1.out; omega⟩, ⟨by (try simp only [hl6_1]); (with_reducible repeat (first | apply Kd.R_alloc | apply Kd.R_drewN | apply Kd.R_drew)); exact HO_6.out⟩, ⟨by (try simp only [hl6_1]); (with_reducible repeat (first | refine blk_drewN ?_ _ | refine blk_drew ?_ | refine blk_alloc ?_ _)); exact BK396.out⟩, ⟨by (try simp only [hl6_1]); (with_reducible repeat (first | refine blk_drewN ?_ _ | refine blk_drew ?_ | refine blk_alloc ?_ _)); exact BK397.out⟩, ⟨hb_⟩⟩
          ·replace c89 := Bool.eq_false_iff.mpr c89
           subst c89
           rw [if_neg (show ¬ (false = true) by decide)] at H
           have H' := Aside0.mk H
           clear H
           have p87 : 0 ≤ (x118_1 : Int) := of_decide_eq_true as_
           have q87 : (x118_1 : Int) < ((x6_1.length : Int) : Int) := of_decide_eq_true as_
           obtain ⟨go87, co87, eo87, gb87, gl87, cl87, HG87⟩ := Kd.R_form HO_6.out (by omega)
           (first | cases eo87 | (injection eo87 with ea_ en_ ec_; (first | subst ea_ | (injection ea_ with ea_; subst ea_)); subst ec_; clear en_))
           have GB87 := Aside0.mk gb87
           have GG87 := Aside0.mk HG87
           clear gb87 gl87 HG87
           obtain ⟨hx87_0, hf87_0⟩ := Kd.R_celln 0 HO_6.out (x118_1 : Int) p87 q87
           replace p87 := eq_true p87
           replace q87 := eq_true q87
           have HP99 := Kd.R_putg HO_6.out (x118_1 : Int) (-1)
           go_wp2_with (first | ((with_reducible refine gate_store (t := 3) (p := 123) rfl ?_); (try (rw [drewN_self wr]; generalize hq_ : World.drewN wr _ = wr; have n0_ := Aside0.mk (Kd.R_at hq_ HO_6.out); have n1_ := Aside0.mk (blk_at hq_ BK396.out); have n2_ := Aside0.mk (blk_at hq_ BK397.out); have n3_ := Aside0.mk (below_at hq_ HB.out); clear hq_ HO_6 BK396 BK397 HB; have HO_6 := n0_; have BK396 := n1_; have BK397 := n2_; have HB := n3_; clear n0_ n1_ n2_ n3_; (try (have HP99 := Kd.R_putg HO_6.out (x118_1 : Int) (-1))))); refine store_event (t := 3) (p := 123) (v := ?vo_w100) (w1 := (wr.setCell ⟨go87, (x118_1 : Int).toNat, none⟩ (.int .i64 (-1)))) ?hg ?ho ?hn ?hr ?_; (case ho => rfl); (case hg => rfl); (case hn => rfl); (case hr => first | (go_simp; done) | (go_simp; rfl)); intro w100 hw; have hg : wr.grownBy w100 (some go87) := (by rw [hw]; exact HP99.2); have hp_ : Kd.R (Kd.int .i64) 3 w100 w.heap.size (fun _ => True) (.slice (some ⟨go87, 0, none⟩) x6_1.length co83) y415 := (by rw [hw, Ny415.out]; exact HP99.1); clear HP99; have n0_ := Aside0.mk (hp_); have n1_ := Aside0.mk (blk_grown (g := gb396) (o := .cells #[.slice A0_0 l0_0.length c0_0, .slice A0_1 l0_1.length c0_1, .slice A0_2 l0_2.length c0_2] 34 (0, 0)) (bk_ BK396.out) hg (Kd.R_ne HO_6.out BK396.out (by decide))); have n2_ := Aside0.mk (blk_grown (g := gb397) (o := .cells #[.slice A1_0 l1_0.length c1_0, .slice A1_1 l1_1.length c1_1] 36 (0, 0)) (bk_ BK397.out) hg (Kd.R_ne HO_6.out BK397.out (by decide))); have n3_ := Aside0.mk ((by rw [hw]; exact below_set (HB.out) GB87.out : Below w.heap.size w w100)); clear HO_6; clear BK396; clear BK397; clear HB; have HO_6 := n0_; have BK396 := n1_; have BK397 := n2_; have HB := n3_; clear n0_ n1_ n2_ n3_; clear hg hw hp_; have hnb101 := NB396_397.out; have hnc101 := NB397_396.out; have hcz102_0 : w100.cell? ⟨gb396, 0, none⟩ = some (.slice A0_0 l0_0.length c0_0) := (blk_cell BK396.out 0).trans rfl; have hcz102_1 : w100.cell? ⟨gb396, 1, none⟩ = some (.slice A0_1 l0_1.length c0_1) := (blk_cell BK396.out 1).trans rfl; have hcz102_2 : w100.cell? ⟨gb396, 2, none⟩ = some (.slice A0_2 l0_2.length c0_2) := (blk_cell BK396.out 2).trans rfl; have hfz102_0 := blk_frozen BK396.out 0; have hfz102_1 := blk_frozen BK396.out 1; have hfz102_2 := blk_frozen BK396.out 2; have hcz103_0 : w100.cell? ⟨gb397, 0, none⟩ = some (.slice A1_0 l1_0.length c1_0) := (blk_cell BK397.out 0).trans rfl; have hcz103_1 : w100.cell? ⟨gb397, 1, none⟩ = some (.slice A1_1 l1_1.length c1_1) := (blk_cell BK397.out 1).trans rfl; have hfz103_0 := blk_frozen BK397.out 0; have hfz103_1 := blk_frozen BK397.out 1) | (go_at_call 63; (with_reducible refine (impl_Board_aims.calls k1 _ _ l0_0 _ _ l0_1 _ _ l0_2 _ _ l1_0 _ _ l1_1 x118_1 false _ ?side1 ?side2 ?side3 ?side4 ?side5 ?side6 ?side7 ?side8 ?side9 ?side10 A88.out).mono ?_); (case side1 => exact cb_ HR0_0.out); (case side2 => exact HC0_0.out); (case side3 => exact cb_ HR0_1.out); (case side4 => exact HC0_1.out); (case side5 => exact cb_ HR0_2.out); (case side6 => exact HC0_2.out); (case side7 => exact cb_ HR1_0.out); (case side8 => exact HC1_0.out); (case side9 => exact cb_ HR1_1.out); (case side10 => exact HC1_1.out); rintro e w104 ⟨rfl, hb⟩; have n0_ := Aside0.mk (Kd.R_below (ra_ HO_6.out) hb); have n1_ := bb_ BK396 hb; have n2_ := bb_ BK397 hb; have n3_ := Aside0.mk (below_step hb_ hb); clear HO_6; clear BK396; clear BK397; clear HB; have HO_6 := n0_; have BK396 := n1_; have BK397 := n2_; have HB := n3_; clear n0_ n1_ n2_ n3_; (try clear hb); (try clear hb2); (try clear hk); (try clear hi)))
           repeat (go_quiet (first | ((with_reducible refine gate_store (t := 3) (p := 123) rfl ?_); (try (rw [drewN_self wr]; generalize hq_ : World.drewN wr _ = wr; have n0_ := Aside0.mk (Kd.R_at hq_ HO_6.out); have n1_ := Aside0.mk (blk_at hq_ BK396.out); have n2_ := Aside0.mk (blk_at hq_ BK397.out); have n3_ := Aside0.mk (below_at hq_ HB.out); clear hq_ HO_6 BK396 BK397 HB; have HO_6 := n0_; have BK396 := n1_; have BK397 := n2_; have HB := n3_; clear n0_ n1_ n2_ n3_; (try (have HP99 := Kd.R_putg HO_6.out (x118_1 : Int) (-1))))); refine store_event (t := 3) (p := 123) (v := ?vo_w100) (w1 := (wr.setCell ⟨go87, (x118_1 : Int).toNat, none⟩ (.int .i64 (-1)))) ?hg ?ho ?hn ?hr ?_; (case ho => rfl); (case hg => rfl); (case hn => rfl); (case hr => first | (go_simp; done) | (go_simp; rfl)); intro w100 hw; have hg : wr.grownBy w100 (some go87) := (by rw [hw]; exact HP99.2); have hp_ : Kd.R (Kd.int .i64) 3 w100 w.heap.size (fun _ => True) (.slice (some ⟨go87, 0, none⟩) x6_1.length co83) y415 := (by rw [hw, Ny415.out]; exact HP99.1); clear HP99; have n0_ := Aside0.mk (hp_); have n1_ := Aside0.mk (blk_grown (g := gb396) (o := .cells #[.slice A0_0 l0_0.length c0_0, .slice A0_1 l0_1.length c0_1, .slice A0_2 l0_2.length c0_2] 34 (0, 0)) (bk_ BK396.out) hg (Kd.R_ne HO_6.out BK396.out (by decide))); have n2_ := Aside0.mk (blk_grown (g := gb397) (o := .cells #[.slice A1_0 l1_0.length c1_0, .slice A1_1 l1_1.length c1_1] 36 (0, 0)) (bk_ BK397.out) hg (Kd.R_ne HO_6.out BK397.out (by decide))); have n3_ := Aside0.mk ((by rw [hw]; exact below_set (HB.out) GB87.out : Below w.heap.size w w100)); clear HO_6; clear BK396; clear BK397; clear HB; have HO_6 := n0_; have BK396 := n1_; have BK397 := n2_; have HB := n3_; clear n0_ n1_ n2_ n3_; clear hg hw hp_; have hnb101 := NB396_397.out; have hnc101 := NB397_396.out; have hcz102_0 : w100.cell? ⟨gb396, 0, none⟩ = some (.slice A0_0 l0_0.length c0_0) := (blk_cell BK396.out 0).trans rfl; have hcz102_1 : w100.cell? ⟨gb396, 1, none⟩ = some (.slice A0_1 l0_1.length c0_1) := (blk_cell BK396.out 1).trans rfl; have hcz102_2 : w100.cell? ⟨gb396, 2, none⟩ = some (.slice A0_2 l0_2.length c0_2) := (blk_cell BK396.out 2).trans rfl; have hfz102_0 := blk_frozen BK396.out 0; have hfz102_1 := blk_frozen BK396.out 1; have hfz102_2 := blk_frozen BK396.out 2; have hcz103_0 : w100.cell? ⟨gb397, 0, none⟩ = some (.slice A1_0 l1_0.length c1_0) := (blk_cell BK397.out 0).trans rfl; have hcz103_1 : w100.cell? ⟨gb397, 1, none⟩ = some (.slice A1_1 l1_1.length c1_1) := (blk_cell BK397.out 1).trans rfl; have hfz103_0 := blk_frozen BK397.out 0; have hfz103_1 := blk_frozen BK397.out 1) | (go_at_call 63; (with_reducible refine (impl_Board_aims.calls k1 _ _ l0_0 _ _ l0_1 _ _ l0_2 _ _ l1_0 _ _ l1_1 x118_1 false _ ?side1 ?side2 ?side3 ?side4 ?side5 ?side6 ?side7 ?side8 ?side9 ?side10 A88.out).mono ?_); (case side1 => exact cb_ HR0_0.out); (case side2 => exact HC0_0.out); (case side3 => exact cb_ HR0_1.out); (case side4 => exact HC0_1.out); (case side5 => exact cb_ HR0_2.out); (case side6 => exact HC0_2.out); (case side7 => exact cb_ HR1_0.out); (case side8 => exact HC1_0.out); (case side9 => exact cb_ HR1_1.out); (case side10 => exact HC1_1.out); rintro e w104 ⟨rfl, hb⟩; have n0_ := Aside0.mk (Kd.R_below (ra_ HO_6.out) hb); have n1_ := bb_ BK396 hb; have n2_ := bb_ BK397 hb; have n3_ := Aside0.mk (below_step hb_ hb); clear HO_6; clear BK396; clear BK397; clear HB; have HO_6 := n0_; have BK396 := n1_; have BK397 := n2_; have HB := n3_; clear n0_ n1_ n2_ n3_; (try clear hb); (try clear hb2); (try clear hk); (try clear hi))); try go_wp2_with (first | ((with_reducible refine gate_store (t := 3) (p := 123) rfl ?_); (try (rw [drewN_self wr]; generalize hq_ : World.drewN wr _ = wr; have n0_ := Aside0.mk (Kd.R_at hq_ HO_6.out); have n1_ := Aside0.mk (blk_at hq_ BK396.out); have n2_ := Aside0.mk (blk_at hq_ BK397.out); have n3_ := Aside0.mk (below_at hq_ HB.out); clear hq_ HO_6 BK396 BK397 HB; have HO_6 := n0_; have BK396 := n1_; have BK397 := n2_; have HB := n3_; clear n0_ n1_ n2_ n3_; (try (have HP99 := Kd.R_putg HO_6.out (x118_1 : Int) (-1))))); refine store_event (t := 3) (p := 123) (v := ?vo_w100) (w1 := (wr.setCell ⟨go87, (x118_1 : Int).toNat, none⟩ (.int .i64 (-1)))) ?hg ?ho ?hn ?hr ?_; (case ho => rfl); (case hg => rfl); (case hn => rfl); (case hr => first | (go_simp; done) | (go_simp; rfl)); intro w100 hw; have hg : wr.grownBy w100 (some go87) := (by rw [hw]; exact HP99.2); have hp_ : Kd.R (Kd.int .i64) 3 w100 w.heap.size (fun _ => True) (.slice (some ⟨go87, 0, none⟩) x6_1.length co83) y415 := (by rw [hw, Ny415.out]; exact HP99.1); clear HP99; have n0_ := Aside0.mk (hp_); have n1_ := Aside0.mk (blk_grown (g := gb396) (o := .cells #[.slice A0_0 l0_0.length c0_0, .slice A0_1 l0_1.length c0_1, .slice A0_2 l0_2.length c0_2] 34 (0, 0)) (bk_ BK396.out) hg (Kd.R_ne HO_6.out BK396.out (by decide))); have n2_ := Aside0.mk (blk_grown (g := gb397) (o := .cells #[.slice A1_0 l1_0.length c1_0, .slice A1_1 l1_1.length c1_1] 36 (0, 0)) (bk_ BK397.out) hg (Kd.R_ne HO_6.out BK397.out (by decide))); have n3_ := Aside0.mk ((by rw [hw]; exact below_set (HB.out) GB87.out : Below w.heap.size w w100)); clear HO_6; clear BK396; clear BK397; clear HB; have HO_6 := n0_; have BK396 := n1_; have BK397 := n2_; have HB := n3_; clear n0_ n1_ n2_ n3_; clear hg hw hp_; have hnb101 := NB396_397.out; have hnc101 := NB397_396.out; have hcz102_0 : w100.cell? ⟨gb396, 0, none⟩ = some (.slice A0_0 l0_0.length c0_0) := (blk_cell BK396.out 0).trans rfl; have hcz102_1 : w100.cell? ⟨gb396, 1, none⟩ = some (.slice A0_1 l0_1.length c0_1) := (blk_cell BK396.out 1).trans rfl; have hcz102_2 : w100.cell? ⟨gb396, 2, none⟩ = some (.slice A0_2 l0_2.length c0_2) := (blk_cell BK396.out 2).trans rfl; have hfz102_0 := blk_frozen BK396.out 0; have hfz102_1 := blk_frozen BK396.out 1; have hfz102_2 := blk_frozen BK396.out 2; have hcz103_0 : w100.cell? ⟨gb397, 0, none⟩ = some (.slice A1_0 l1_0.length c1_0) := (blk_cell BK397.out 0).trans rfl; have hcz103_1 : w100.cell? ⟨gb397, 1, none⟩ = some (.slice A1_1 l1_1.length c1_1) := (blk_cell BK397.out 1).trans rfl; have hfz103_0 := blk_frozen BK397.out 0; have hfz103_1 := blk_frozen BK397.out 1) | (go_at_call 63; (with_reducible refine (impl_Board_aims.calls k1 _ _ l0_0 _ _ l0_1 _ _ l0_2 _ _ l1_0 _ _ l1_1 x118_1 false _ ?side1 ?side2 ?side3 ?side4 ?side5 ?side6 ?side7 ?side8 ?side9 ?side10 A88.out).mono ?_); (case side1 => exact cb_ HR0_0.out); (case side2 => exact HC0_0.out); (case side3 => exact cb_ HR0_1.out); (case side4 => exact HC0_1.out); (case side5 => exact cb_ HR0_2.out); (case side6 => exact HC0_2.out); (case side7 => exact cb_ HR1_0.out); (case side8 => exact HC1_0.out); (case side9 => exact cb_ HR1_1.out); (case side10 => exact HC1_1.out); rintro e w104 ⟨rfl, hb⟩; have n0_ := Aside0.mk (Kd.R_below (ra_ HO_6.out) hb); have n1_ := bb_ BK396 hb; have n2_ := bb_ BK397 hb; have n3_ := Aside0.mk (below_step hb_ hb); clear HO_6; clear BK396; clear BK397; clear HB; have HO_6 := n0_; have BK396 := n1_; have BK397 := n2_; have HB := n3_; clear n0_ n1_ n2_ n3_; (try clear hb); (try clear hb2); (try clear hk); (try clear hi))))
           (try simp only [← hl6_1])
           go_roundg k1
           case measure => have := HK1.out; omega
           case rel => exact ⟨(y415), (wrap64 (x118_1 + 1)), es_, H', ⟨by have := HK1.out; omega⟩, ⟨by (try simp only [hl6_1]); (with_reducible repeat (first | apply Kd.R_alloc | apply Kd.R_drewN | apply Kd.R_drew)); exact HO_6.out⟩, ⟨by (try simp only [hl6_1]); (with_reducible repeat (first | refine blk_drewN ?_ _ | refine blk_drew ?_ | refine blk_alloc ?_ _)); exact BK396.out⟩, ⟨by (try simp only [hl6_1]); (with_reducible repeat (first | refine blk_drewN ?_ _ | refine blk_drew ?_ | refine blk_alloc ?_ _)); exact BK397.out⟩, ⟨hb_⟩⟩
         ·rw [if_neg c86] at H
          exact absurd H (by simp)
        ·rw [if_neg c85] at H
         exact absurd H (by simp)
       ·rw [if_neg c84] at H
        have c84b0 : decide (x118_1 < (y398.length : Int)) = false := decide_eq_false c84
        (try simp only [hl6_1] at c84b0)
        clear c84
        have H' := Aside0.mk H
        clear H
        go_wp2
        repeat (go_quiet (fail); try go_wp2)
        go_loopg [15] k1 (fun kq v15 w' => ∃ (x6_2 : List Int) (x15_2 : Int), v15 = .int .i64 x15_2 ∧ Aside0 (impl_Board_wins.l5 kq (l0_0.length : Int) x6_2 x15_2 l0_0 l0_1 l0_2 l1_0 l1_1 = some r) ∧ Aside0 (kq ≤ k1) ∧ Aside0 (Kd.R (Kd.int .i64) 3 w' w.heap.size (fun _ => True) (.slice Ao83 x6_1.length co83) x6_2) ∧ Aside0 (w'.heap[gb396]? = some (.cells #[(.slice A0_0 l0_0.length c0_0), (.slice A0_1 l0_1.length c0_1), (.slice A0_2 l0_2.length c0_2)] 34 (0, 0))) ∧ Aside0 (w'.heap[gb397]? = some (.cells #[(.slice A1_0 l1_0.length c1_0), (.slice A1_1 l1_1.length c1_1)] 36 (0, 0))) ∧ Aside0 (Below w.heap.size w w'))
        case atStart => exact ⟨(x6_1), (1), es_, H', ⟨Nat.le_refl _⟩, ⟨by (try simp only [hl6_1]); (with_reducible repeat (first | apply Kd.R_alloc | apply Kd.R_drewN | apply Kd.R_drew)); exact HO_6.out⟩, ⟨by (try simp only [hl6_1]); (with_reducible repeat (first | refine blk_drewN ?_ _ | refine blk_drew ?_ | refine blk_alloc ?_ _)); exact BK396.out⟩, ⟨by (try simp only [hl6_1]); (with_reducible repeat (first | refine blk_drewN ?_ _ | refine blk_drew ?_ | refine blk_alloc ?_ _)); exact BK397.out⟩, ⟨hb_⟩⟩
        case round =>
         clear H'
         obtain ⟨x6_2, x15_2, rfl, HA, HK2, HO_6, BK396, BK397, HB⟩ := hrel
         have hl6_2 := (Kd.R_reads' HO_6.out).1
         rw [hl6_2] at HO_6
         (try simp only [hl6_2])
         (try simp only [hl6_2] at BK396)
         (try simp only [hl6_2] at BK397)
         cases gk with
         | zero => exact absurd HA.out (by simp [impl_Board_wins.l5])
         | succ k2 =>
          have H := HA.out
          clear HA
          simp only [impl_Board_wins.l5] at H
          by_cases c105 : x15_2 ≤ (l0_0.length : Int)
          ·rw [if_pos c105] at H
           have c105b0 : decide (x15_2 ≤ (l0_0.length : Int)) = true := decide_eq_true c105
           (try simp only [hl6_1] at c105b0)
           (try simp only [hl6_2] at c105b0)
           clear c105
           replace H := Option.bind_eq_some_iff.mp H
           obtain ⟨t418, A1060, H⟩ := H
           replace H : (impl_Board_wins.l6 k2 (l0_0.length : Int) x6_2 x15_2 t418 (x6_2.length : Int) 0 l0_0 l0_1 l0_2 l1_0 l1_1) = some r := H
           have A106 := Aside0.mk A1060
           clear A1060
           have H' := Aside0.mk H
           clear H
           go_wp2_with (first | (go_at_call 89; (with_reducible refine (slices_Clone_int_int.calls _ _ x6_2 t418 _ ?side1 ?side2 A106.out).mono ?_); (case side1 => exact ca_ (Kd.R_reads' HO_6.out).2.2); (case side2 => exact (Kd.R_reads' HO_6.out).2.1); rintro e w107 ⟨v419, rfl, ho0, hb⟩; have n0_ := Aside0.mk (Kd.R_elder' (ra_ HO_6.out) (Kd.R_base ho0) hb); have n1_ := Aside0.mk (Kd.R_lower (Kd.R_new' ho0 (Kd.R_lt (ra_ HO_6.out))) (below_size hb_)); have n2_ := bb_ BK396 hb; have n3_ := bb_ BK397 hb; have n4_ := Aside0.mk (below_step hb_ hb); clear HO_6; clear BK396; clear BK397; clear HB; have HO_6 := n0_; have HO420 := n1_; have BK396 := n2_; have BK397 := n3_; have HB := n4_; clear n0_ n1_ n2_ n3_ n4_; (try clear hb); (try clear hb2); (try clear hk); (try clear hi); (try clear ho0)))
           repeat (go_quiet (first | (go_at_call 89; (with_reducible refine (slices_Clone_int_int.calls _ _ x6_2 t418 _ ?side1 ?side2 A106.out).mono ?_); (case side1 => exact ca_ (Kd.R_reads' HO_6.out).2.2); (case side2 => exact (Kd.R_reads' HO_6.out).2.1); rintro e w107 ⟨v419, rfl, ho0, hb⟩; have n0_ := Aside0.mk (Kd.R_elder' (ra_ HO_6.out) (Kd.R_base ho0) hb); have n1_ := Aside0.mk (Kd.R_lower (Kd.R_new' ho0 (Kd.R_lt (ra_ HO_6.out))) (below_size hb_)); have n2_ := bb_ BK396 hb; have n3_ := bb_ BK397 hb; have n4_ := Aside0.mk (below_step hb_ hb); clear HO_6; clear BK396; clear BK397; clear HB; have HO_6 := n0_; have HO420 := n1_; have BK396 := n2_; have BK397 := n3_; have HB := n4_; clear n0_ n1_ n2_ n3_ n4_; (try clear hb); (try clear hb2); (try clear hk); (try clear hi); (try clear ho0))); try go_wp2_with (first | (go_at_call 89; (with_reducible refine (slices_Clone_int_int.calls _ _ x6_2 t418 _ ?side1 ?side2 A106.out).mono ?_); (case side1 => exact ca_ (Kd.R_reads' HO_6.out).2.2); (case side2 => exact (Kd.R_reads' HO_6.out).2.1); rintro e w107 ⟨v419, rfl, ho0, hb⟩; have n0_ := Aside0.mk (Kd.R_elder' (ra_ HO_6.out) (Kd.R_base ho0) hb); have n1_ := Aside0.mk (Kd.R_lower (Kd.R_new' ho0 (Kd.R_lt (ra_ HO_6.out))) (below_size hb_)); have n2_ := bb_ BK396 hb; have n3_ := bb_ BK397 hb; have n4_ := Aside0.mk (below_step hb_ hb); clear HO_6; clear BK396; clear BK397; clear HB; have HO_6 := n0_; have HO420 := n1_; have BK396 := n2_; have BK397 := n3_; have HB := n4_; clear n0_ n1_ n2_ n3_ n4_; (try clear hb); (try clear hb2); (try clear hk); (try clear hi); (try clear ho0))))
           go_loopg [141] k2 (fun kq v141 w' => ∃ (x6_3 : List Int) (x141_3 : Int), v141 = .int .i64 x141_3 ∧ Aside0 (impl_Board_wins.l6 kq (l0_0.length : Int) x6_3 x15_2 t418 (x6_2.length : Int) x141_3 l0_0 l0_1 l0_2 l1_0 l1_1 = some r) ∧ Aside0 (kq ≤ k2) ∧ Aside0 (Kd.R (Kd.int .i64) 3 w' w.heap.size (fun k_ => some k_ ≠ (v419 : Value).ownBlock) (.slice Ao83 x6_2.length co83) x6_3) ∧ Aside0 (Kd.R (Kd.int .i64) 3 w' w.heap.size (fun k_ => some k_ ≠ ((.slice Ao83 x6_2.length co83) : Value).ownBlock) v419 t418) ∧ Aside0 (w'.heap[gb396]? = some (.cells #[(.slice A0_0 l0_0.length c0_0), (.slice A0_1 l0_1.length c0_1), (.slice A0_2 l0_2.length c0_2)] 34 (0, 0))) ∧ Aside0 (w'.heap[gb397]? = some (.cells #[(.slice A1_0 l1_0.length c1_0), (.slice A1_1 l1_1.length c1_1)] 36 (0, 0))) ∧ Aside0 (Below w.heap.size w w'))
           case atStart => exact ⟨(x6_2), (0), es_, H', ⟨Nat.le_refl _⟩, ⟨by (try simp only [hl6_1]); (try simp only [hl6_2]); (with_reducible repeat (first | apply Kd.R_alloc | apply Kd.R_drewN | apply Kd.R_drew)); exact Kd.R_mono HO_6.out (fun _ hk => hk.2)⟩, ⟨by (try simp only [hl6_1]); (try simp only [hl6_2]); (with_reducible repeat (first | apply Kd.R_alloc | apply Kd.R_drewN | apply Kd.R_drew)); exact Kd.R_mono HO420.out (fun _ hk => hk.2)⟩, ⟨by (try simp only [hl6_1]); (try simp only [hl6_2]); (with_reducible repeat (first | refine blk_drewN ?_ _ | refine blk_drew ?_ | refine blk_alloc ?_ _)); exact BK396.out⟩, ⟨by (try simp only [hl6_1]); (try simp only [hl6_2]); (with_reducible repeat (first | refine blk_drewN ?_ _ | refine blk_drew ?_ | refine blk_alloc ?_ _)); exact BK397.out⟩, ⟨hb_⟩⟩
           case round =>
            clear H'
            obtain ⟨x6_3, x141_3, rfl, HA, HK3, HO_6, HO_16, BK396, BK397, HB⟩ := hrel
            have hl6_3 := (Kd.R_reads' HO_6.out).1
            rw [hl6_3] at HO_6
            (try simp only [hl6_3])
            (try simp only [hl6_3] at BK396)
            (try simp only [hl6_3] at BK397)
            (try simp only [hl6_3] at HO_16)
            cases gk with
            | zero => exact absurd HA.out (by simp [impl_Board_wins.l6])
            | succ k3 =>
             have H := HA.out
             clear HA
             simp only [impl_Board_wins.l6] at H
             by_cases c108 : x141_3 < (x6_2.length : Int)
             ·rw [if_pos c108] at H
              have c108b0 : decide (x141_3 < (x6_2.length : Int)) = true := decide_eq_true c108
              (try simp only [hl6_1] at c108b0)
              (try simp only [hl6_2] at c108b0)
              (try simp only [hl6_3] at c108b0)
              clear c108
              have HC109 := Aside0.mk H
              clear H
              go_upto_region 42 with (fail)
              repeat (go_quiet (fail); go_upto_region 42 with (fail))
              go_cut [163] (fun v163 wc => ∃ (kq : Nat) (x163_108 : Bool), v163 = .bool x163_108 ∧ Aside0 (impl_Board_wins.j8 kq (l0_0.length : Int) x6_3 x15_2 t418 x141_3 (x6_2.length : Int) x141_3 x163_108 l0_0 l0_1 l0_2 l1_0 l1_1 = some r) ∧ Aside0 (kq ≤ k3) ∧ Aside0 (Kd.R (Kd.int .i64) 3 wc w.heap.size (fun k_ => some k_ ≠ (v419 : Value).ownBlock) (.slice Ao83 x6_3.length co83) x6_3) ∧ Aside0 (Kd.R (Kd.int .i64) 3 wc w.heap.size (fun k_ => some k_ ≠ ((.slice Ao83 x6_3.length co83) : Value).ownBlock) v419 t418) ∧ Aside0 (wc.heap[gb396]? = some (.cells #[(.slice A0_0 l0_0.length c0_0), (.slice A0_1 l0_1.length c0_1), (.slice A0_2 l0_2.length c0_2)] 34 (0, 0))) ∧ Aside0 (wc.heap[gb397]? = some (.cells #[(.slice A1_0 l1_0.length c1_0), (.slice A1_1 l1_1.length c1_1)] 36 (0, 0))) ∧ Aside0 (Below w.heap.size w wc))
              case first =>
               have H := HC109.out
               clear HC109
               by_cases c110 : 0 ≤ x141_3
               ·rw [if_pos c110] at H
                have c110b0 : decide (0 ≤ x141_3) = true := decide_eq_true c110
                clear c110
                (first | rw [c110b0] | (simp only [i64_w, i32_w]; rw [c110b0]) | skip)
                by_cases c111 : x141_3 < (t418.length : Int)
                ·rw [if_pos c111] at H
                 have c111b0 : decide (x141_3 < (t418.length : Int)) = true := decide_eq_true c111
                 (try simp only [hl6_1] at c111b0)
                 (try simp only [hl6_2] at c111b0)
                 (try simp only [hl6_3] at c111b0)
                 clear c111
                 by_cases c112 : (rd t418 x141_3) ≥ 0
                 ·rw [if_pos c112] at H
                  have c112b0 : decide (0 ≤ (rd t418 x141_3)) = true := decide_eq_true c112
                  clear c112
                  have H' := Aside0.mk H
                  clear H
                  obtain ⟨Ao113, co113, eo113⟩ := Kd.R_slice HO_16.out
                  subst eo113
                  have p421 : 0 ≤ (x141_3 : Int) := of_decide_eq_true as_
                  have q421 : x141_3 < (t418.length : Int) := of_decide_eq_true as_
                  obtain ⟨ad421, e421, hx421_0⟩ := Kd.at_int (Kd.R_reads' HO_16.out).2.2 x141_3 p421 q421
                  cases e421
                  replace p421 := eq_true p421
                  replace q421 := eq_true q421
                  go_wp2
                  repeat (go_quiet (fail); try go_wp2)
                  go_meet
                  case rel => exact ⟨_, (true), es_, H', ⟨by have := HK1.out; have := HK2.out; have := HK3.out; first | omega | exact Nat.le_refl _⟩, ⟨by (try simp only [hl6_1]); (try simp only [hl6_2]); (try simp only [hl6_3]); (with_reducible repeat (first | apply Kd.R_alloc | apply Kd.R_drewN | apply Kd.R_drew)); exact HO_6.out⟩, ⟨by (try simp only [hl6_1]); (try simp only [hl6_2]); (try simp only [hl6_3]); (with_reducible repeat (first | apply Kd.R_alloc | apply Kd.R_drewN | apply Kd.R_drew)); exact HO_16.out⟩, ⟨by (try simp only [hl6_1]); (try simp only [hl6_2]); (try simp only [hl6_3]); (with_reducible repeat (first | refine blk_drewN ?_ _ | refine blk_drew ?_ | refine blk_alloc ?_ _)); exact BK396.out⟩, ⟨by (try simp only [hl6_1]); (try simp only [hl6_2]); (try simp only [hl6_3]); (with_reducible repeat (first | refine blk_drewN ?_ _ | refine blk_drew ?_ | refine blk_alloc ?_ _)); exact BK397.out⟩, ⟨hb_⟩⟩
                 ·rw [if_neg c112] at H
                  have c112b0 : decide (0 ≤ (rd t418 x141_3)) = false := decide_eq_false c112
                  clear c112
                  replace H := Option.bind_eq_some_iff.mp H
                  obtain ⟨t422, A1140, H⟩ := H
                  replace H : (if t422 = true then (impl_Board_wins.j8 k3 (l0_0.length : Int) x6_3 x15_2 t418 x141_3 (x6_2.length : Int) x141_3 true l0_0 l0_1 l0_2 l1_0 l1_1) else (if x141_3 < (l0_2.length : Int) then (impl_Board_wins.j8 k3 (l0_0.length : Int) x6_3 x15_2 t418 x141_3 (x6_2.length : Int) x141_3 (((rd_L3 l0_2 x141_3).length : Int) == 0) l0_0 l0_1 l0_2 l1_0 l1_1) else (none))) = some r := H
                  have A114 := Aside0.mk A1140
                  clear A1140
                  by_cases c115 : t422 = true
                  ·subst c115
                   rw [if_pos rfl] at H
                   have H' := Aside0.mk H
                   clear H
                   obtain ⟨Ao116, co116, eo116⟩ := Kd.R_slice HO_16.out
                   subst eo116
                   have p421 : 0 ≤ (x141_3 : Int) := of_decide_eq_true as_
                   have q421 : x141_3 < (t418.length : Int) := of_decide_eq_true as_
                   obtain ⟨ad421, e421, hx421_0⟩ := Kd.at_int (Kd.R_reads' HO_16.out).2.2 x141_3 p421 q421
                   cases e421
                   replace p421 := eq_true p421
                   replace q421 := eq_true q421
                   have hnb117 := NB396_397.out
                   have hnc117 := NB397_396.out
                   have hcz118_0 : wr.cell? ⟨gb396, 0, none⟩ = some (.slice A0_0 l0_0.length c0_0) := (blk_cell BK396.out 0).trans rfl
                   have hcz118_1 : wr.cell? ⟨gb396, 1, none⟩ = some (.slice A0_1 l0_1.length c0_1) := (blk_cell BK396.out 1).trans rfl
                   have hcz118_2 : wr.cell? ⟨gb396, 2, none⟩ = some (.slice A0_2 l0_2.length c0_2) := (blk_cell BK396.out 2).trans rfl
                   have hfz118_0 := blk_frozen BK396.out 0
                   have hfz118_1 := blk_frozen BK396.out 1
                   have hfz118_2 := blk_frozen BK396.out 2
                   have hcz119_0 : wr.cell? ⟨gb397, 0, none⟩ = some (.slice A1_0 l1_0.length c1_0) := (blk_cell BK397.out 0).trans rfl
                   have hcz119_1 : wr.cell? ⟨gb397, 1, none⟩ = some (.slice A1_1 l1_1.length c1_1) := (blk_cell BK397.out 1).trans rfl
                   have hfz119_0 := blk_frozen BK397.out 0
                   have hfz119_1 := blk_frozen BK397.out 1
                   go_wp2_with (first | (go_at_call 79; (with_reducible refine (impl_Board_shuns.calls k3 _ _ l0_0 _ _ l0_1 _ _ l0_2 _ _ l1_0 _ _ l1_1 x141_3 true _ ?side1 ?side2 ?side3 ?side4 ?side5 ?side6 ?side7 ?side8 ?side9 ?side10 A114.out).mono ?_); (case side1 => exact cb_ HR0_0.out); (case side2 => exact HC0_0.out); (case side3 => exact cb_ HR0_1.out); (case side4 => exact HC0_1.out); (case side5 => exact cb_ HR0_2.out); (case side6 => exact HC0_2.out); (case side7 => exact cb_ HR1_0.out); (case side8 => exact HC1_0.out); (case side9 => exact cb_ HR1_1.out); (case side10 => exact HC1_1.out); rintro e w120 ⟨rfl, hb⟩; have n0_ := Aside0.mk (Kd.R_below (ra_ HO_6.out) hb); have n1_ := Aside0.mk (Kd.R_below (ra_ HO_16.out) hb); have n2_ := bb_ BK396 hb; have n3_ := bb_ BK397 hb; have n4_ := Aside0.mk (below_step hb_ hb); clear HO_6; clear HO_16; clear BK396; clear BK397; clear HB; have HO_6 := n0_; have HO_16 := n1_; have BK396 := n2_; have BK397 := n3_; have HB := n4_; clear n0_ n1_ n2_ n3_ n4_; (try clear hb); (try clear hb2); (try clear hk); (try clear hi)))
                   repeat (go_quiet (first | (go_at_call 79; (with_reducible refine (impl_Board_shuns.calls k3 _ _ l0_0 _ _ l0_1 _ _ l0_2 _ _ l1_0 _ _ l1_1 x141_3 true _ ?side1 ?side2 ?side3 ?side4 ?side5 ?side6 ?side7 ?side8 ?side9 ?side10 A114.out).mono ?_); (case side1 => exact cb_ HR0_0.out); (case side2 => exact HC0_0.out); (case side3 => exact cb_ HR0_1.out); (case side4 => exact HC0_1.out); (case side5 => exact cb_ HR0_2.out); (case side6 => exact HC0_2.out); (case side7 => exact cb_ HR1_0.out); (case side8 => exact HC1_0.out); (case side9 => exact cb_ HR1_1.out); (case side10 => exact HC1_1.out); rintro e w120 ⟨rfl, hb⟩; have n0_ := Aside0.mk (Kd.R_below (ra_ HO_6.out) hb); have n1_ := Aside0.mk (Kd.R_below (ra_ HO_16.out) hb); have n2_ := bb_ BK396 hb; have n3_ := bb_ BK397 hb; have n4_ := Aside0.mk (below_step hb_ hb); clear HO_6; clear HO_16; clear BK396; clear BK397; clear HB; have HO_6 := n0_; have HO_16 := n1_; have BK396 := n2_; have BK397 := n3_; have HB := n4_; clear n0_ n1_ n2_ n3_ n4_; (try clear hb); (try clear hb2); (try clear hk); (try clear hi))); try go_wp2_with (first | (go_at_call 79; (with_reducible refine (impl_Board_shuns.calls k3 _ _ l0_0 _ _ l0_1 _ _ l0_2 _ _ l1_0 _ _ l1_1 x141_3 true _ ?side1 ?side2 ?side3 ?side4 ?side5 ?side6 ?side7 ?side8 ?side9 ?side10 A114.out).mono ?_); (case side1 => exact cb_ HR0_0.out); (case side2 => exact HC0_0.out); (case side3 => exact cb_ HR0_1.out); (case side4 => exact HC0_1.out); (case side5 => exact cb_ HR0_2.out); (case side6 => exact HC0_2.out); (case side7 => exact cb_ HR1_0.out); (case side8 => exact HC1_0.out); (case side9 => exact cb_ HR1_1.out); (case side10 => exact HC1_1.out); rintro e w120 ⟨rfl, hb⟩; have n0_ := Aside0.mk (Kd.R_below (ra_ HO_6.out) hb); have n1_ := Aside0.mk (Kd.R_below (ra_ HO_16.out) hb); have n2_ := bb_ BK396 hb; have n3_ := bb_ BK397 hb; have n4_ := Aside0.mk (below_step hb_ hb); clear HO_6; clear HO_16; clear BK396; clear BK397; clear HB; have HO_6 := n0_; have HO_16 := n1_; have BK396 := n2_; have BK397 := n3_; have HB := n4_; clear n0_ n1_ n2_ n3_ n4_; (try clear hb); (try clear hb2); (try clear hk); (try clear hi))))
                   go_meet
                   case rel => exact ⟨_, (true), es_, H', ⟨by have := HK1.out; have := HK2.out; have := HK3.out; first | omega | exact Nat.le_refl _⟩, ⟨by (try simp only [hl6_1]); (try simp only [hl6_2]); (try simp only [hl6_3]); (with_reducible repeat (first | apply Kd.R_alloc | apply Kd.R_drewN | apply Kd.R_drew)); exact HO_6.out⟩, ⟨by (try simp only [hl6_1]); (try simp only [hl6_2]); (try simp only [hl6_3]); (with_reducible repeat (first | apply Kd.R_alloc | apply Kd.R_drewN | apply Kd.R_drew)); exact HO_16.out⟩, ⟨by (try simp only [hl6_1]); (try simp only [hl6_2]); (try simp only [hl6_3]); (with_reducible repeat (first | refine blk_drewN ?_ _ | refine blk_drew ?_ | refine blk_alloc ?_ _)); exact BK396.out⟩, ⟨by (try simp only [hl6_1]); (try simp only [hl6_2]); (try simp only [hl6_3]); (with_reducible repeat (first | refine blk_drewN ?_ _ | refine blk_drew ?_ | refine blk_alloc ?_ _)); exact BK397.out⟩, ⟨hb_⟩⟩
                  ·replace c115 := Bool.eq_false_iff.mpr c115
                   subst c115
                   rw [if_neg (show ¬ (false = true) by decide)] at H
                   by_cases c121 : x141_3 < (l0_2.length : Int)
                   ·rw [if_pos c121] at H
                    have c121b0 : decide (x141_3 < (l0_2.length : Int)) = true := decide_eq_true c121
                    (try simp only [hl6_1] at c121b0)
                    (try simp only [hl6_2] at c121b0)
                    (try simp only [hl6_3] at c121b0)
                    clear c121
                    have H' := Aside0.mk H
                    clear H
                    obtain ⟨Ao122, co122, eo122⟩ := Kd.R_slice HO_16.out
                    subst eo122
                    have p421 : 0 ≤ (x141_3 : Int) := of_decide_eq_true as_
                    have q421 : x141_3 < (t418.length : Int) := of_decide_eq_true as_
                    obtain ⟨ad421, e421, hx421_0⟩ := Kd.at_int (Kd.R_reads' HO_16.out).2.2 x141_3 p421 q421
                    cases e421
                    replace p421 := eq_true p421
                    replace q421 := eq_true q421
                    have hnb123 := NB396_397.out
                    have hnc123 := NB397_396.out
                    have hcz124_0 : wr.cell? ⟨gb396, 0, none⟩ = some (.slice A0_0 l0_0.length c0_0) := (blk_cell BK396.out 0).trans rfl
                    have hcz124_1 : wr.cell? ⟨gb396, 1, none⟩ = some (.slice A0_1 l0_1.length c0_1) := (blk_cell BK396.out 1).trans rfl
                    have hcz124_2 : wr.cell? ⟨gb396, 2, none⟩ = some (.slice A0_2 l0_2.length c0_2) := (blk_cell BK396.out 2).trans rfl
                    have hfz124_0 := blk_frozen BK396.out 0
                    have hfz124_1 := blk_frozen BK396.out 1
                    have hfz124_2 := blk_frozen BK396.out 2
                    have hcz125_0 : wr.cell? ⟨gb397, 0, none⟩ = some (.slice A1_0 l1_0.length c1_0) := (blk_cell BK397.out 0).trans rfl
                    have hcz125_1 : wr.cell? ⟨gb397, 1, none⟩ = some (.slice A1_1 l1_1.length c1_1) := (blk_cell BK397.out 1).trans rfl
                    have hfz125_0 := blk_frozen BK397.out 0
                    have hfz125_1 := blk_frozen BK397.out 1
                    go_wp2_with (first | (go_at_call 79; (with_reducible refine (impl_Board_shuns.calls k3 _ _ l0_0 _ _ l0_1 _ _ l0_2 _ _ l1_0 _ _ l1_1 x141_3 false _ ?side1 ?side2 ?side3 ?side4 ?side5 ?side6 ?side7 ?side8 ?side9 ?side10 A114.out).mono ?_); (case side1 => exact cb_ HR0_0.out); (case side2 => exact HC0_0.out); (case side3 => exact cb_ HR0_1.out); (case side4 => exact HC0_1.out); (case side5 => exact cb_ HR0_2.out); (case side6 => exact HC0_2.out); (case side7 => exact cb_ HR1_0.out); (case side8 => exact HC1_0.out); (case side9 => exact cb_ HR1_1.out); (case side10 => exact HC1_1.out); rintro e w126 ⟨rfl, hb⟩; have n0_ := Aside0.mk (Kd.R_below (ra_ HO_6.out) hb); have n1_ := Aside0.mk (Kd.R_below (ra_ HO_16.out) hb); have n2_ := bb_ BK396 hb; have n3_ := bb_ BK397 hb; have n4_ := Aside0.mk (below_step hb_ hb); clear HO_6; clear HO_16; clear BK396; clear BK397; clear HB; have HO_6 := n0_; have HO_16 := n1_; have BK396 := n2_; have BK397 := n3_; have HB := n4_; clear n0_ n1_ n2_ n3_ n4_; (try clear hb); (try clear hb2); (try clear hk); (try clear hi); have hcz127_0 : w126.cell? ⟨gb396, 0, none⟩ = some (.slice A0_0 l0_0.length c0_0) := (blk_cell BK396.out 0).trans rfl; have hcz127_1 : w126.cell? ⟨gb396, 1, none⟩ = some (.slice A0_1 l0_1.length c0_1) := (blk_cell BK396.out 1).trans rfl; have hcz127_2 : w126.cell? ⟨gb396, 2, none⟩ = some (.slice A0_2 l0_2.length c0_2) := (blk_cell BK396.out 2).trans rfl; have hfz127_0 := blk_frozen BK396.out 0; have hfz127_1 := blk_frozen BK396.out 1; have hfz127_2 := blk_frozen BK396.out 2; have p423 : 0 ≤ (x141_3 : Int) := of_decide_eq_true as_; have q423 : x141_3 < (l0_2.length : Int) := of_decide_eq_true as_; obtain ⟨ad423, A423_0, c423_0, e423, hx423_0, hl423_0, hi423_0⟩ := at_L3 HR0_2.out x141_3 p423 q423; cases e423; replace hx423_0 := hc_ HB hx423_0; have HR423_0 := Aside0.mk hi423_0; have HC423_0 := Aside0.mk hl423_0; clear hi423_0 hl423_0; replace p423 := eq_true p423; replace q423 := eq_true q423))
                    repeat (go_quiet (first | (go_at_call 79; (with_reducible refine (impl_Board_shuns.calls k3 _ _ l0_0 _ _ l0_1 _ _ l0_2 _ _ l1_0 _ _ l1_1 x141_3 false _ ?side1 ?side2 ?side3 ?side4 ?side5 ?side6 ?side7 ?side8 ?side9 ?side10 A114.out).mono ?_); (case side1 => exact cb_ HR0_0.out); (case side2 => exact HC0_0.out); (case side3 => exact cb_ HR0_1.out); (case side4 => exact HC0_1.out); (case side5 => exact cb_ HR0_2.out); (case side6 => exact HC0_2.out); (case side7 => exact cb_ HR1_0.out); (case side8 => exact HC1_0.out); (case side9 => exact cb_ HR1_1.out); (case side10 => exact HC1_1.out); rintro e w126 ⟨rfl, hb⟩; have n0_ := Aside0.mk (Kd.R_below (ra_ HO_6.out) hb); have n1_ := Aside0.mk (Kd.R_below (ra_ HO_16.out) hb); have n2_ := bb_ BK396 hb; have n3_ := bb_ BK397 hb; have n4_ := Aside0.mk (below_step hb_ hb); clear HO_6; clear HO_16; clear BK396; clear BK397; clear HB; have HO_6 := n0_; have HO_16 := n1_; have BK396 := n2_; have BK397 := n3_; have HB := n4_; clear n0_ n1_ n2_ n3_ n4_; (try clear hb); (try clear hb2); (try clear hk); (try clear hi); have hcz127_0 : w126.cell? ⟨gb396, 0, none⟩ = some (.slice A0_0 l0_0.length c0_0) := (blk_cell BK396.out 0).trans rfl; have hcz127_1 : w126.cell? ⟨gb396, 1, none⟩ = some (.slice A0_1 l0_1.length c0_1) := (blk_cell BK396.out 1).trans rfl; have hcz127_2 : w126.cell? ⟨gb396, 2, none⟩ = some (.slice A0_2 l0_2.length c0_2) := (blk_cell BK396.out 2).trans rfl; have hfz127_0 := blk_frozen BK396.out 0; have hfz127_1 := blk_frozen BK396.out 1; have hfz127_2 := blk_frozen BK396.out 2; have p423 : 0 ≤ (x141_3 : Int) := of_decide_eq_true as_; have q423 : x141_3 < (l0_2.length : Int) := of_decide_eq_true as_; obtain ⟨ad423, A423_0, c423_0, e423, hx423_0, hl423_0, hi423_0⟩ := at_L3 HR0_2.out x141_3 p423 q423; cases e423; replace hx423_0 := hc_ HB hx423_0; have HR423_0 := Aside0.mk hi423_0; have HC423_0 := Aside0.mk hl423_0; clear hi423_0 hl423_0; replace p423 := eq_true p423; replace q423 := eq_true q423)); try go_wp2_with (first | (go_at_call 79; (with_reducible refine (impl_Board_shuns.calls k3 _ _ l0_0 _ _ l0_1 _ _ l0_2 _ _ l1_0 _ _ l1_1 x141_3 false _ ?side1 ?side2 ?side3 ?side4 ?side5 ?side6 ?side7 ?side8 ?side9 ?side10 A114.out).mono ?_); (case side1 => exact cb_ HR0_0.out); (case side2 => exact HC0_0.out); (case side3 => exact cb_ HR0_1.out); (case side4 => exact HC0_1.out); (case side5 => exact cb_ HR0_2.out); (case side6 => exact HC0_2.out); (case side7 => exact cb_ HR1_0.out); (case side8 => exact HC1_0.out); (case side9 => exact cb_ HR1_1.out); (case side10 => exact HC1_1.out); rintro e w126 ⟨rfl, hb⟩; have n0_ := Aside0.mk (Kd.R_below (ra_ HO_6.out) hb); have n1_ := Aside0.mk (Kd.R_below (ra_ HO_16.out) hb); have n2_ := bb_ BK396 hb; have n3_ := bb_ BK397 hb; have n4_ := Aside0.mk (below_step hb_ hb); clear HO_6; clear HO_16; clear BK396; clear BK397; clear HB; have HO_6 := n0_; have HO_16 := n1_; have BK396 := n2_; have BK397 := n3_; have HB := n4_; clear n0_ n1_ n2_ n3_ n4_; (try clear hb); (try clear hb2); (try clear hk); (try clear hi); have hcz127_0 : w126.cell? ⟨gb396, 0, none⟩ = some (.slice A0_0 l0_0.length c0_0) := (blk_cell BK396.out 0).trans rfl; have hcz127_1 : w126.cell? ⟨gb396, 1, none⟩ = some (.slice A0_1 l0_1.length c0_1) := (blk_cell BK396.out 1).trans rfl; have hcz127_2 : w126.cell? ⟨gb396, 2, none⟩ = some (.slice A0_2 l0_2.length c0_2) := (blk_cell BK396.out 2).trans rfl; have hfz127_0 := blk_frozen BK396.out 0; have hfz127_1 := blk_frozen BK396.out 1; have hfz127_2 := blk_frozen BK396.out 2; have p423 : 0 ≤ (x141_3 : Int) := of_decide_eq_true as_; have q423 : x141_3 < (l0_2.length : Int) := of_decide_eq_true as_; obtain ⟨ad423, A423_0, c423_0, e423, hx423_0, hl423_0, hi423_0⟩ := at_L3 HR0_2.out x141_3 p423 q423; cases e423; replace hx423_0 := hc_ HB hx423_0; have HR423_0 := Aside0.mk hi423_0; have HC423_0 := Aside0.mk hl423_0; clear hi423_0 hl423_0; replace p423 := eq_true p423; replace q423 := eq_true q423)))
                    go_meet
                    case rel => exact ⟨_, ((((rd_L3 l0_2 x141_3).length : Int) == 0)), es_, H', ⟨by have := HK1.out; have := HK2.out; have := HK3.out; first | omega | exact Nat.le_refl _⟩, ⟨by (try simp only [hl6_1]); (try simp only [hl6_2]); (try simp only [hl6_3]); (with_reducible repeat (first | apply Kd.R_alloc | apply Kd.R_drewN | apply Kd.R_drew)); exact HO_6.out⟩, ⟨by (try simp only [hl6_1]); (try simp only [hl6_2]); (try simp only [hl6_3]); (with_reducible repeat (first | apply Kd.R_alloc | apply Kd.R_drewN | apply Kd.R_drew)); exact HO_16.out⟩, ⟨by (try simp only [hl6_1]); (try simp only [hl6_2]); (try simp only [hl6_3]); (with_reducible repeat (first | refine blk_drewN ?_ _ | refine blk_drew ?_ | refine blk_alloc ?_ _)); exact BK396.out⟩, ⟨by (try simp only [hl6_1]); (try simp only [hl6_2]); (try simp only [hl6_3]); (with_reducible repeat (first | refine blk_drewN ?_ _ | refine blk_drew ?_ | refine blk_alloc ?_ _)); exact BK397.out⟩, ⟨hb_⟩⟩
                   ·rw [if_neg c121] at H
                    exact absurd H (by simp)
                ·rw [if_neg c111] at H
                 exact absurd H (by simp)
               ·rw [if_neg c110] at H
                exact absurd H (by simp)
              case rest =>
               clear HC109
               obtain ⟨kq, x163_108, rfl, HA, HJ108, HO_6, HO_16, BK396, BK397, HB⟩ := hcut
               cases kq with
               | zero => exact absurd HA.out (by simp [impl_Board_wins.j8])
               | succ kj108 =>
                have H := HA.out
                clear HA
                simp only [impl_Board_wins.j8] at H
                by_cases c128 : x163_108 = true
                ·subst c128
                 rw [if_pos rfl] at H
                 have H' := Aside0.mk H
                 clear H
                 go_wp2
                 repeat (go_quiet (fail); try go_wp2)
                 (try simp only [← hl6_3])
                 go_roundg kj108
                 case measure => have := HK1.out; have := HK2.out; have := HK3.out; have := HJ108.out; omega
                 case rel => exact ⟨(x6_3), (wrap64 (x141_3 + 1)), es_, H', ⟨by have := HK1.out; have := HK2.out; have := HK3.out; have := HJ108.out; omega⟩, ⟨by (try simp only [hl6_1]); (try simp only [hl6_2]); (try simp only [hl6_3]); (with_reducible repeat (first | apply Kd.R_alloc | apply Kd.R_drewN | apply Kd.R_drew)); exact HO_6.out⟩, ⟨by (try simp only [hl6_1]); (try simp only [hl6_2]); (try simp only [hl6_3]); (with_reducible repeat (first | apply Kd.R_alloc | apply Kd.R_drewN | apply Kd.R_drew)); exact HO_16.out⟩, ⟨by (try simp only [hl6_1]); (try simp only [hl6_2]); (try simp only [hl6_3]); (with_reducible repeat (first | refine blk_drewN ?_ _ | refine blk_drew ?_ | refine blk_alloc ?_ _)); exact BK396.out⟩, ⟨by (try simp only [hl6_1]); (try simp only [hl6_2]); (try simp only [hl6_3]); (with_reducible repeat (first | refine blk_drewN ?_ _ | refine blk_drew ?_ | refine blk_alloc ?_ _)); exact BK397.out⟩, ⟨hb_⟩⟩
                ·replace c128 := Bool.eq_false_iff.mpr c128
                 subst c128
                 rw [if_neg (show ¬ (false = true) by decide)] at H
                 by_cases c129 : 0 ≤ x141_3
                 ·rw [if_pos c129] at H
                  have c129b0 : decide (0 ≤ x141_3) = true := decide_eq_true c129
                  clear c129
                  by_cases c130 : x141_3 < (l0_2.length : Int)
                  ·rw [if_pos c130] at H
                   have c130b0 : decide (x141_3 < (l0_2.length : Int)) = true := decide_eq_true c130
                   (try simp only [hl6_1] at c130b0)
                   (try simp only [hl6_2] at c130b0)
                   (try simp only [hl6_3] at c130b0)
                   clear c130
                   have H' := Aside0.mk H
                   clear H
                   have hnb131 := NB396_397.out
                   have hnc131 := NB397_396.out
                   have hcz132_0 : wc.cell? ⟨gb396, 0, none⟩ = some (.slice A0_0 l0_0.length c0_0) := (blk_cell BK396.out 0).trans rfl
                   have hcz132_1 : wc.cell? ⟨gb396, 1, none⟩ = some (.slice A0_1 l0_1.length c0_1) := (blk_cell BK396.out 1).trans rfl
                   have hcz132_2 : wc.cell? ⟨gb396, 2, none⟩ = some (.slice A0_2 l0_2.length c0_2) := (blk_cell BK396.out 2).trans rfl
                   have hfz132_0 := blk_frozen BK396.out 0
                   have hfz132_1 := blk_frozen BK396.out 1
                   have hfz132_2 := blk_frozen BK396.out 2
                   have p424 : 0 ≤ (x141_3 : Int) := of_decide_eq_true as_
                   have q424 : x141_3 < (l0_2.length : Int) := of_decide_eq_true as_
                   obtain ⟨ad424, A424_0, c424_0, e424, hx424_0, hl424_0, hi424_0⟩ := at_L3 HR0_2.out x141_3 p424 q424
                   cases e424
                   replace hx424_0 := hc_ HB hx424_0
                   have HR424_0 := Aside0.mk hi424_0
                   have HC424_0 := Aside0.mk hl424_0
                   clear hi424_0 hl424_0
                   replace p424 := eq_true p424
                   replace q424 := eq_true q424
                   go_wp2
                   repeat (go_quiet (fail); try go_wp2)
                   go_loopg [18, 19, 170] kj108 (fun kq v18 v19 v170 w' => ∃ (x18_5 : Bool) (x19_5 : Bool) (x170_5 : Int), v18 = .bool x18_5 ∧ v19 = .bool x19_5 ∧ v170 = .int .i64 x170_5 ∧ Aside0 (impl_Board_wins.l7 kq (l0_0.length : Int) x6_3 x15_2 t418 x141_3 x18_5 x19_5 (x6_2.length : Int) x141_3 (rd_L3 l0_2 x141_3) ((rd_L3 l0_2 x141_3).length : Int) x170_5 l0_0 l0_1 l0_2 l1_0 l1_1 = some r) ∧ Aside0 (kq ≤ kj108) ∧ Aside0 (Kd.R (Kd.int .i64) 3 w' w.heap.size (fun k_ => some k_ ≠ (v419 : Value).ownBlock) (.slice Ao83 x6_3.length co83) x6_3) ∧ Aside0 (Kd.R (Kd.int .i64) 3 w' w.heap.size (fun k_ => some k_ ≠ ((.slice Ao83 x6_3.length co83) : Value).ownBlock) v419 t418) ∧ Aside0 (w'.heap[gb396]? = some (.cells #[(.slice A0_0 l0_0.length c0_0), (.slice A0_1 l0_1.length c0_1), (.slice (some ad424) l0_2.length c0_2)] 34 (0, 0))) ∧ Aside0 (w'.heap[gb397]? = some (.cells #[(.slice A1_0 l1_0.length c1_0), (.slice A1_1 l1_1.length c1_1)] 36 (0, 0))) ∧ Aside0 (Below w.heap.size w w'))
                   case atStart => exact ⟨(false), (true), (0), es_, es_, es_, H', ⟨Nat.le_refl _⟩, ⟨by (try simp only [hl6_1]); (try simp only [hl6_2]); (try simp only [hl6_3]); (with_reducible repeat (first | apply Kd.R_alloc | apply Kd.R_drewN | apply Kd.R_drew)); exact HO_6.out⟩, ⟨by (try simp only [hl6_1]); (try simp only [hl6_2]); (try simp only [hl6_3]); (with_reducible repeat (first | apply Kd.R_alloc | apply Kd.R_drewN | apply Kd.R_drew)); exact HO_16.out⟩, ⟨by (try simp only [hl6_1]); (try simp only [hl6_2]); (try simp only [hl6_3]); (with_reducible repeat (first | refine blk_drewN ?_ _ | refine blk_drew ?_ | refine blk_alloc ?_ _)); exact BK396.out⟩, ⟨by (try simp only [hl6_1]); (try simp only [hl6_2]); (try simp only [hl6_3]); (with_reducible repeat (first | refine blk_drewN ?_ _ | refine blk_drew ?_ | refine blk_alloc ?_ _)); exact BK397.out⟩, ⟨hb_⟩⟩
                   case round =>
                    clear H'
                    obtain ⟨x18_5, x19_5, x170_5, rfl, rfl, rfl, HA, HK5, HO_6, HO_16, BK396, BK397, HB⟩ := hrel
                    cases gk with
                    | zero => exact absurd HA.out (by simp [impl_Board_wins.l7])
                    | succ k5 =>
                     have H := HA.out
                     clear HA
                     simp only [impl_Board_wins.l7] at H
                     by_cases c133 : x170_5 < ((rd_L3 l0_2 x141_3).length : Int)
                     ·rw [if_pos c133] at H
                      have c133b0 : decide (x170_5 < ((rd_L3 l0_2 x141_3).length : Int)) = true := decide_eq_true c133
                      (try simp only [hl6_1] at c133b0)
                      (try simp only [hl6_2] at c133b0)
                      (try simp only [hl6_3] at c133b0)
                      clear c133
                      by_cases c134 : 0 ≤ x170_5
                      ·rw [if_pos c134] at H
                       have c134b0 : decide (0 ≤ x170_5) = true := decide_eq_true c134
                       clear c134
                       by_cases c135 : x170_5 < ((rd_L3 l0_2 x141_3).length : Int)
                       ·rw [if_pos c135] at H
                        have c135b0 : decide (x170_5 < ((rd_L3 l0_2 x141_3).length : Int)) = true := decide_eq_true c135
                        (try simp only [hl6_1] at c135b0)
                        (try simp only [hl6_2] at c135b0)
                        (try simp only [hl6_3] at c135b0)
                        clear c135
                        by_cases c136 : x18_5 = true
                        ·subst c136
                         rw [if_pos rfl] at H
                         by_cases c137 : x19_5 = true
                         ·subst c137
                          rw [if_pos rfl] at H
                          by_cases c138 : 0 ≤ (rd (rd_L3 l0_2 x141_3) x170_5)
                          ·rw [if_pos c138] at H
                           have c138b0 : decide (0 ≤ (rd (rd_L3 l0_2 x141_3) x170_5)) = true := decide_eq_true c138
                           clear c138
                           by_cases c139 : (rd (rd_L3 l0_2 x141_3) x170_5) < (t418.length : Int)
                           ·rw [if_pos c139] at H
                            have c139b0 : decide ((rd (rd_L3 l0_2 x141_3) x170_5) < (t418.length : Int)) = true := decide_eq_true c139
                            (try simp only [hl6_1] at c139b0)
                            (try simp only [hl6_2] at c139b0)
                            (try simp only [hl6_3] at c139b0)
                            clear c139
                            have H' := Aside0.mk H
                            clear H
                            have p425 : 0 ≤ (x170_5 : Int) := of_decide_eq_true as_
                            have q425 : x170_5 < ((rd_L3 l0_2 x141_3).length : Int) := of_decide_eq_true as_
                            obtain ⟨ad425, e425, hx425_0⟩ := Kd.at_int HR424_0.out x170_5 p425 q425
                            cases e425
                            replace hx425_0 := hc_ HB hx425_0
                            replace p425 := eq_true p425
                            replace q425 := eq_true q425
                            obtain ⟨Ao140, co140, eo140⟩ := Kd.R_slice HO_16.out
                            subst eo140
                            have p426 : 0 ≤ ((rd (rd_L3 l0_2 x141_3) x170_5) : Int) := of_decide_eq_true as_
                            have q426 : (rd (rd_L3 l0_2 x141_3) x170_5) < (t418.length : Int) := of_decide_eq_true as_
                            obtain ⟨ad426, e426, hx426_0⟩ := Kd.at_int (Kd.R_reads' HO_16.out).2.2 (rd (rd_L3 l0_2 x141_3) x170_5) p426 q426
                            cases e426
                            replace p426 := eq_true p426
                            replace q426 := eq_true q426
                            go_wp2
                            repeat (go_quiet (fail); try go_wp2)
                            go_roundg k5
                            case measure => have := HK1.out; have := HK2.out; have := HK3.out; have := HJ108.out; have := HK5.out; omega
                            case rel => exact ⟨(true), (decide ((rd t418 (rd (rd_L3 l0_2 x141_3) x170_5)) ≥ 0)), (wrap64 (x170_5 + 1)), es_, es_, es_, H', ⟨by have := HK1.out; have := HK2.out; have := HK3.out; have := HJ108.out; have := HK5.out; omega⟩, ⟨by (try simp only [hl6_1]); (try simp only [hl6_2]); (try simp only [hl6_3]); (with_reducible repeat (first | apply Kd.R_alloc | apply Kd.R_drewN | apply Kd.R_drew)); exact HO_6.out⟩, ⟨by (try simp only [hl6_1]); (try simp only [hl6_2]); (try simp only [hl6_3]); (with_reducible repeat (first | apply Kd.R_alloc | apply Kd.R_drewN | apply Kd.R_drew)); exact HO_16.out⟩, ⟨by (try simp only [hl6_1]); (try simp only [hl6_2]); (try simp only [hl6_3]); (with_reducible repeat (first | refine blk_drewN ?_ _ | refine blk_drew ?_ | refine blk_alloc ?_ _)); exact BK396.out⟩, ⟨by (try simp only [hl6_1]); (try simp only [hl6_2]); (try simp only [hl6_3]); (with_reducible repeat (first | refine blk_drewN ?_ _ | refine blk_drew ?_ | refine blk_alloc ?_ _)); exact BK397.out⟩, ⟨hb_⟩⟩
                           ·rw [if_neg c139] at H
                            exact absurd H (by simp)
                          ·rw [if_neg c138] at H
                           exact absurd H (by simp)
                         ·replace c137 := Bool.eq_false_iff.mpr c137
                          subst c137
                          rw [if_neg (show ¬ (false = true) by decide)] at H
                          have H' := Aside0.mk H
                          clear H
                          have p425 : 0 ≤ (x170_5 : Int) := of_decide_eq_true as_
                          have q425 : x170_5 < ((rd_L3 l0_2 x141_3).length : Int) := of_decide_eq_true as_
                          obtain ⟨ad425, e425, hx425_0⟩ := Kd.at_int HR424_0.out x170_5 p425 q425
                          cases e425
                          replace hx425_0 := hc_ HB hx425_0
                          replace p425 := eq_true p425
                          replace q425 := eq_true q425
                          go_wp2
                          repeat (go_quiet (fail); try go_wp2)
                          go_roundg k5
                          case measure => have := HK1.out; have := HK2.out; have := HK3.out; have := HJ108.out; have := HK5.out; omega
                          case rel => exact ⟨(true), (false), (wrap64 (x170_5 + 1)), es_, es_, es_, H', ⟨by have := HK1.out; have := HK2.out; have := HK3.out; have := HJ108.out; have := HK5.out; omega⟩, ⟨by (try simp only [hl6_1]); (try simp only [hl6_2]); (try simp only [hl6_3]); (with_reducible repeat (first | apply Kd.R_alloc | apply Kd.R_drewN | apply Kd.R_drew)); exact HO_6.out⟩, ⟨by (try simp only [hl6_1]); (try simp only [hl6_2]); (try simp only [hl6_3]); (with_reducible repeat (first | apply Kd.R_alloc | apply Kd.R_drewN | apply Kd.R_drew)); exact HO_16.out⟩, ⟨by (try simp only [hl6_1]); (try simp only [hl6_2]); (try simp only [hl6_3]); (with_reducible repeat (first | refine blk_drewN ?_ _ | refine blk_drew ?_ | refine blk_alloc ?_ _)); exact BK396.out⟩, ⟨by (try simp only [hl6_1]); (try simp only [hl6_2]); (try simp only [hl6_3]); (with_reducible repeat (first | refine blk_drewN ?_ _ | refine blk_drew ?_ | refine blk_alloc ?_ _)); exact BK397.out⟩, ⟨hb_⟩⟩
                        ·replace c136 := Bool.eq_false_iff.mpr c136
                         subst c136
                         rw [if_neg (show ¬ (false = true) by decide)] at H
                         by_cases c141 : 0 ≤ (rd (rd_L3 l0_2 x141_3) x170_5)
                         ·rw [if_pos c141] at H
                          have c141b0 : decide (0 ≤ (rd (rd_L3 l0_2 x141_3) x170_5)) = true := decide_eq_true c141
                          clear c141
                          by_cases c142 : (rd (rd_L3 l0_2 x141_3) x170_5) < (t418.length : Int)
                          ·rw [if_pos c142] at H
                           have c142b0 : decide ((rd (rd_L3 l0_2 x141_3) x170_5) < (t418.length : Int)) = true := decide_eq_true c142
                           (try simp only [hl6_1] at c142b0)
                           (try simp only [hl6_2] at c142b0)
                           (try simp only [hl6_3] at c142b0)
                           clear c142
                           by_cases c143 : x19_5 = true
                           ·subst c143
                            rw [if_pos rfl] at H
                            have H' := Aside0.mk H
                            clear H
                            have p425 : 0 ≤ (x170_5 : Int) := of_decide_eq_true as_
                            have q425 : x170_5 < ((rd_L3 l0_2 x141_3).length : Int) := of_decide_eq_true as_
                            obtain ⟨ad425, e425, hx425_0⟩ := Kd.at_int HR424_0.out x170_5 p425 q425
                            cases e425
                            replace hx425_0 := hc_ HB hx425_0
                            replace p425 := eq_true p425
                            replace q425 := eq_true q425
                            obtain ⟨Ao144, co144, eo144⟩ := Kd.R_slice HO_16.out
                            subst eo144
                            have p427 : 0 ≤ ((rd (rd_L3 l0_2 x141_3) x170_5) : Int) := of_decide_eq_true as_
                            have q427 : (rd (rd_L3 l0_2 x141_3) x170_5) < (t418.length : Int) := of_decide_eq_true as_
                            obtain ⟨ad427, e427, hx427_0⟩ := Kd.at_int (Kd.R_reads' HO_16.out).2.2 (rd (rd_L3 l0_2 x141_3) x170_5) p427 q427
                            cases e427
                            replace p427 := eq_true p427
                            replace q427 := eq_true q427
                            have p428 : 0 ≤ ((rd (rd_L3 l0_2 x141_3) x170_5) : Int) := of_decide_eq_true as_
                            have q428 : (rd (rd_L3 l0_2 x141_3) x170_5) < (t418.length : Int) := of_decide_eq_true as_
                            obtain ⟨ad428, e428, hx428_0⟩ := Kd.at_int (Kd.R_reads' HO_16.out).2.2 (rd (rd_L3 l0_2 x141_3) x170_5) p428 q428
                            obtain rfl : ad427 = ad428 := (by injection e428)
                            replace p428 := eq_true p428
                            replace q428 := eq_true q428
                            go_wp2
                            repeat (go_quiet (fail); try go_wp2)
                            go_roundg k5
                            case measure => have := HK1.out; have := HK2.out; have := HK3.out; have := HJ108.out; have := HK5.out; omega
                            case rel => exact ⟨(decide ((rd t418 (rd (rd_L3 l0_2 x141_3) x170_5)) ≥ 0)), (decide ((rd t418 (rd (rd_L3 l0_2 x141_3) x170_5)) ≥ 0)), (wrap64 (x170_5 + 1)), es_, es_, es_, H', ⟨by have := HK1.out; have := HK2.out; have := HK3.out; have := HJ108.out; have := HK5.out; omega⟩, ⟨by (try simp only [hl6_1]); (try simp only [hl6_2]); (try simp only [hl6_3]); (with_reducible repeat (first | apply Kd.R_alloc | apply Kd.R_drewN | apply Kd.R_drew)); exact HO_6.out⟩, ⟨by (try simp only [hl6_1]); (try simp only [hl6_2]); (try simp only [hl6_3]); (with_reducible repeat (first | apply Kd.R_alloc | apply Kd.R_drewN | apply Kd.R_drew)); exact HO_16.out⟩, ⟨by (try simp only [hl6_1]); (try simp only [hl6_2]); (try simp only [hl6_3]); (with_reducible repeat (first | refine blk_drewN ?_ _ | refine blk_drew ?_ | refine blk_alloc ?_ _)); exact BK396.out⟩, ⟨by (try simp only [hl6_1]); (try simp only [hl6_2]); (try simp only [hl6_3]); (with_reducible repeat (first | refine blk_drewN ?_ _ | refine blk_drew ?_ | refine blk_alloc ?_ _)); exact BK397.out⟩, ⟨hb_⟩⟩
                           ·replace c143 := Bool.eq_false_iff.mpr c143
                            subst c143
                            rw [if_neg (show ¬ (false = true) by decide)] at H
                            have H' := Aside0.mk H
                            clear H
                            have p425 : 0 ≤ (x170_5 : Int) := of_decide_eq_true as_
                            have q425 : x170_5 < ((rd_L3 l0_2 x141_3).length : Int) := of_decide_eq_true as_
                            obtain ⟨ad425, e425, hx425_0⟩ := Kd.at_int HR424_0.out x170_5 p425 q425
                            cases e425
                            replace hx425_0 := hc_ HB hx425_0
                            replace p425 := eq_true p425
                            replace q425 := eq_true q425
                            obtain ⟨Ao145, co145, eo145⟩ := Kd.R_slice HO_16.out
                            subst eo145
                            have p427 : 0 ≤ ((rd (rd_L3 l0_2 x141_3) x170_5) : Int) := of_decide_eq_true as_
                            have q427 : (rd (rd_L3 l0_2 x141_3) x170_5) < (t418.length : Int) := of_decide_eq_true as_
                            obtain ⟨ad427, e427, hx427_0⟩ := Kd.at_int (Kd.R_reads' HO_16.out).2.2 (rd (rd_L3 l0_2 x141_3) x170_5) p427 q427
                            cases e427
                            replace p427 := eq_true p427
                            replace q427 := eq_true q427
                            go_wp2
                            repeat (go_quiet (fail); try go_wp2)
                            go_roundg k5
                            case measure => have := HK1.out; have := HK2.out; have := HK3.out; have := HJ108.out; have := HK5.out; omega
                            case rel => exact ⟨(decide ((rd t418 (rd (rd_L3 l0_2 x141_3) x170_5)) ≥ 0)), (false), (wrap64 (x170_5 + 1)), es_, es_, es_, H', ⟨by have := HK1.out; have := HK2.out; have := HK3.out; have := HJ108.out; have := HK5.out; omega⟩, ⟨by (try simp only [hl6_1]); (try simp only [hl6_2]); (try simp only [hl6_3]); (with_reducible repeat (first | apply Kd.R_alloc | apply Kd.R_drewN | apply Kd.R_drew)); exact HO_6.out⟩, ⟨by (try simp only [hl6_1]); (try simp only [hl6_2]); (try simp only [hl6_3]); (with_reducible repeat (first | apply Kd.R_alloc | apply Kd.R_drewN | apply Kd.R_drew)); exact HO_16.out⟩, ⟨by (try simp only [hl6_1]); (try simp only [hl6_2]); (try simp only [hl6_3]); (with_reducible repeat (first | refine blk_drewN ?_ _ | refine blk_drew ?_ | refine blk_alloc ?_ _)); exact BK396.out⟩, ⟨by (try simp only [hl6_1]); (try simp only [hl6_2]); (try simp only [hl6_3]); (with_reducible repeat (first | refine blk_drewN ?_ _ | refine blk_drew ?_ | refine blk_alloc ?_ _)); exact BK397.out⟩, ⟨hb_⟩⟩
                          ·rw [if_neg c142] at H
                           exact absurd H (by simp)
                         ·rw [if_neg c141] at H
                          exact absurd H (by simp)
                       ·rw [if_neg c135] at H
                        exact absurd H (by simp)
                      ·rw [if_neg c134] at H
                       exact absurd H (by simp)
                     ·rw [if_neg c133] at H
                      have c133b0 : decide (x170_5 < ((rd_L3 l0_2 x141_3).length : Int)) = false := decide_eq_false c133
                      (try simp only [hl6_1] at c133b0)
                      (try simp only [hl6_2] at c133b0)
                      (try simp only [hl6_3] at c133b0)
                      clear c133
                      by_cases c146 : 0 ≤ x141_3
                      ·rw [if_pos c146] at H
                       have c146b0 : decide (0 ≤ x141_3) = true := decide_eq_true c146
                       clear c146
                       by_cases c147 : x141_3 < (l0_1.length : Int)
                       ·rw [if_pos c147] at H
                        have c147b0 : decide (x141_3 < (l0_1.length : Int)) = true := decide_eq_true c147
                        (try simp only [hl6_1] at c147b0)
                        (try simp only [hl6_2] at c147b0)
                        (try simp only [hl6_3] at c147b0)
                        clear c147
                        obtain ⟨bq148, hbq148⟩ : ∃ b_ : Bool, b_ = (rdOf false l0_1 x141_3) := ⟨_, rfl⟩
                        replace H : (if bq148 = true then (if x18_5 = true then (if x141_3 < (x6_3.length : Int) then (impl_Board_wins.l6 k5 (l0_0.length : Int) (x6_3.set (x141_3 : Int).toNat x15_2) x15_2 t418 (x6_2.length : Int) (wrap64 (x141_3 + 1)) l0_0 l0_1 l0_2 l1_0 l1_1) else (none)) else (impl_Board_wins.l6 k5 (l0_0.length : Int) x6_3 x15_2 t418 (x6_2.length : Int) (wrap64 (x141_3 + 1)) l0_0 l0_1 l0_2 l1_0 l1_1)) else (if x19_5 = true then (if x141_3 < (x6_3.length : Int) then (impl_Board_wins.l6 k5 (l0_0.length : Int) (x6_3.set (x141_3 : Int).toNat x15_2) x15_2 t418 (x6_2.length : Int) (wrap64 (x141_3 + 1)) l0_0 l0_1 l0_2 l1_0 l1_1) else (none)) else (impl_Board_wins.l6 k5 (l0_0.length : Int) x6_3 x15_2 t418 (x6_2.length : Int) (wrap64 (x141_3 + 1)) l0_0 l0_1 l0_2 l1_0 l1_1))) = some r := by rw [← hbq148] at H; exact H
                        have Nbq148 := Aside0.mk hbq148
                        clear hbq148
                        by_cases c149 : bq148 = true
                        ·subst c149
                         rw [if_pos rfl] at H
                         by_cases c150 : x18_5 = true
                         ·subst c150
                          rw [if_pos rfl] at H
                          by_cases c151 : x141_3 < (x6_3.length : Int)
                          ·rw [if_pos c151] at H
                           have c151b0 : decide (x141_3 < (x6_3.length : Int)) = true := decide_eq_true c151
                           (try simp only [hl6_1] at c151b0)
                           (try simp only [hl6_2] at c151b0)
                           (try simp only [hl6_3] at c151b0)
                           clear c151
                           obtain ⟨y430, hy430⟩ : ∃ y_ : List Int, y_ = (x6_3.set (x141_3 : Int).toNat x15_2) := ⟨_, rfl⟩
                           replace H : (impl_Board_wins.l6 k5 (l0_0.length : Int) y430 x15_2 t418 (x6_2.length : Int) (wrap64 (x141_3 + 1)) l0_0 l0_1 l0_2 l1_0 l1_1) = some r := by first | (rw [hy430]; with_reducible exact H) | (have H2_ := (Option.bind_some _ _).symm.trans H; rw [hy430]; with_reducible exact H2_) | (have H2_ := (Option.bind_some _ _).symm.trans H; with_reducible exact H2_) | with_reducible exact H | (rw [hy430]; exact H) | exact H
                           have Ny430 := Aside0.mk hy430
                           clear hy430
                           have H' := Aside0.mk H
                           clear H
                           have hnb153 := NB396_397.out
                           have hnc153 := NB397_396.out
                           have hcz154_0 : wr.cell? ⟨gb396, 0, none⟩ = some (.slice A0_0 l0_0.length c0_0) := (blk_cell BK396.out 0).trans rfl
                           have hcz154_1 : wr.cell? ⟨gb396, 1, none⟩ = some (.slice A0_1 l0_1.length c0_1) := (blk_cell BK396.out 1).trans rfl
                           have hcz154_2 : wr.cell? ⟨gb396, 2, none⟩ = some (.slice (some ad424) l0_2.length c0_2) := (blk_cell BK396.out 2).trans rfl
                           have hfz154_0 := blk_frozen BK396.out 0
                           have hfz154_1 := blk_frozen BK396.out 1
                           have hfz154_2 := blk_frozen BK396.out 2
                           have p429 : 0 ≤ (x141_3 : Int) := of_decide_eq_true as_
                           have q429 : x141_3 < (l0_1.length : Int) := of_decide_eq_true as_
                           obtain ⟨ad429, e429, hx429_0⟩ := Kd.at_bool HR0_1.out x141_3 p429 q429
                           (try rw [← Nbq148.out] at hx429_0)
                           cases e429
                           replace hx429_0 := hc_ HB hx429_0
                           replace p429 := eq_true p429
                           replace q429 := eq_true q429
                           have p152 : 0 ≤ (x141_3 : Int) := of_decide_eq_true as_
                           have q152 : (x141_3 : Int) < ((x6_3.length : Int) : Int) := of_decide_eq_true as_
                           obtain ⟨go152, co152, eo152, gb152, gl152, cl152, HG152⟩ := Kd.R_form HO_6.out (by omega)
                           (first | cases eo152 | (injection eo152 with ea_ en_ ec_; (first | subst ea_ | (injection ea_ with ea_; subst ea_)); subst ec_; clear en_))
                           have GB152 := Aside0.mk gb152
                           have GG152 := Aside0.mk HG152
                           clear gb152 gl152 HG152
                           obtain ⟨hx152_0, hf152_0⟩ := Kd.R_celln 0 HO_6.out (x141_3 : Int) p152 q152
                           replace p152 := eq_true p152
                           replace q152 := eq_true q152
                           have HP155 := Kd.R_putg HO_6.out (x141_3 : Int) x15_2
                           go_wp2_with (first | ((with_reducible refine gate_store (t := 3) (p := 213) rfl ?_); (try (rw [drewN_self wr]; generalize hq_ : World.drewN wr _ = wr; have n0_ := Aside0.mk (Kd.R_at hq_ HO_6.out); have n1_ := Aside0.mk (Kd.R_at hq_ HO_16.out); have n2_ := Aside0.mk (blk_at hq_ BK396.out); have n3_ := Aside0.mk (blk_at hq_ BK397.out); have n4_ := Aside0.mk (below_at hq_ HB.out); clear hq_ HO_6 HO_16 BK396 BK397 HB; have HO_6 := n0_; have HO_16 := n1_; have BK396 := n2_; have BK397 := n3_; have HB := n4_; clear n0_ n1_ n2_ n3_ n4_; (try (have HP155 := Kd.R_putg HO_6.out (x141_3 : Int) x15_2)))); refine store_event (t := 3) (p := 213) (v := ?vo_w156) (w1 := (wr.setCell ⟨go152, (x141_3 : Int).toNat, none⟩ (.int .i64 x15_2))) ?hg ?ho ?hn ?hr ?_; (case ho => rfl); (case hg => rfl); (case hn => rfl); (case hr => first | (go_simp; done) | (go_simp; rfl)); intro w156 hw; have hg : wr.grownBy w156 (some go152) := (by rw [hw]; exact HP155.2); have hp_ : Kd.R (Kd.int .i64) 3 w156 w.heap.size (fun k_ => some k_ ≠ (v419 : Value).ownBlock) (.slice (some ⟨go152, 0, none⟩) x6_3.length co83) y430 := (by rw [hw, Ny430.out]; exact HP155.1); clear HP155; have n0_ := Aside0.mk (hp_); have n1_ := Aside0.mk (Kd.R_after (v := (.slice (some ⟨go152, 0, none⟩) x6_3.length co83)) (v1 := (.slice (some ⟨go152, 0, none⟩) x6_3.length co83)) (ok := (fun _ => True)) (by (with_reducible repeat (first | apply Kd.R_alloc | apply Kd.R_drewN | apply Kd.R_drew)); exact Kd.R_mono HO_16.out (fun _ hk => ⟨trivial, hk⟩)) hg (.inl rfl)); have n2_ := Aside0.mk (blk_grown (g := gb396) (o := .cells #[.slice A0_0 l0_0.length c0_0, .slice (some ad429) l0_1.length c0_1, .slice (some ad424) l0_2.length c0_2] 34 (0, 0)) (bk_ BK396.out) hg (Kd.R_ne HO_6.out BK396.out (by decide))); have n3_ := Aside0.mk (blk_grown (g := gb397) (o := .cells #[.slice A1_0 l1_0.length c1_0, .slice A1_1 l1_1.length c1_1] 36 (0, 0)) (bk_ BK397.out) hg (Kd.R_ne HO_6.out BK397.out (by decide))); have n4_ := Aside0.mk ((by rw [hw]; exact below_set (HB.out) GB152.out : Below w.heap.size w w156)); clear HO_6; clear HO_16; clear BK396; clear BK397; clear HB; have HO_6 := n0_; have HO_16 := n1_; have BK396 := n2_; have BK397 := n3_; have HB := n4_; clear n0_ n1_ n2_ n3_ n4_; clear hg hw hp_))
                           repeat (go_quiet (first | ((with_reducible refine gate_store (t := 3) (p := 213) rfl ?_); (try (rw [drewN_self wr]; generalize hq_ : World.drewN wr _ = wr; have n0_ := Aside0.mk (Kd.R_at hq_ HO_6.out); have n1_ := Aside0.mk (Kd.R_at hq_ HO_16.out); have n2_ := Aside0.mk (blk_at hq_ BK396.out); have n3_ := Aside0.mk (blk_at hq_ BK397.out); have n4_ := Aside0.mk (below_at hq_ HB.out); clear hq_ HO_6 HO_16 BK396 BK397 HB; have HO_6 := n0_; have HO_16 := n1_; have BK396 := n2_; have BK397 := n3_; have HB := n4_; clear n0_ n1_ n2_ n3_ n4_; (try (have HP155 := Kd.R_putg HO_6.out (x141_3 : Int) x15_2)))); refine store_event (t := 3) (p := 213) (v := ?vo_w156) (w1 := (wr.setCell ⟨go152, (x141_3 : Int).toNat, none⟩ (.int .i64 x15_2))) ?hg ?ho ?hn ?hr ?_; (case ho => rfl); (case hg => rfl); (case hn => rfl); (case hr => first | (go_simp; done) | (go_simp; rfl)); intro w156 hw; have hg : wr.grownBy w156 (some go152) := (by rw [hw]; exact HP155.2); have hp_ : Kd.R (Kd.int .i64) 3 w156 w.heap.size (fun k_ => some k_ ≠ (v419 : Value).ownBlock) (.slice (some ⟨go152, 0, none⟩) x6_3.length co83) y430 := (by rw [hw, Ny430.out]; exact HP155.1); clear HP155; have n0_ := Aside0.mk (hp_); have n1_ := Aside0.mk (Kd.R_after (v := (.slice (some ⟨go152, 0, none⟩) x6_3.length co83)) (v1 := (.slice (some ⟨go152, 0, none⟩) x6_3.length co83)) (ok := (fun _ => True)) (by (with_reducible repeat (first | apply Kd.R_alloc | apply Kd.R_drewN | apply Kd.R_drew)); exact Kd.R_mono HO_16.out (fun _ hk => ⟨trivial, hk⟩)) hg (.inl rfl)); have n2_ := Aside0.mk (blk_grown (g := gb396) (o := .cells #[.slice A0_0 l0_0.length c0_0, .slice (some ad429) l0_1.length c0_1, .slice (some ad424) l0_2.length c0_2] 34 (0, 0)) (bk_ BK396.out) hg (Kd.R_ne HO_6.out BK396.out (by decide))); have n3_ := Aside0.mk (blk_grown (g := gb397) (o := .cells #[.slice A1_0 l1_0.length c1_0, .slice A1_1 l1_1.length c1_1] 36 (0, 0)) (bk_ BK397.out) hg (Kd.R_ne HO_6.out BK397.out (by decide))); have n4_ := Aside0.mk ((by rw [hw]; exact below_set (HB.out) GB152.out : Below w.heap.size w w156)); clear HO_6; clear HO_16; clear BK396; clear BK397; clear HB; have HO_6 := n0_; have HO_16 := n1_; have BK396 := n2_; have BK397 := n3_; have HB := n4_; clear n0_ n1_ n2_ n3_ n4_; clear hg hw hp_)); try go_wp2_with (first | ((with_reducible refine gate_store (t := 3) (p := 213) rfl ?_); (try (rw [drewN_self wr]; generalize hq_ : World.drewN wr _ = wr; have n0_ := Aside0.mk (Kd.R_at hq_ HO_6.out); have n1_ := Aside0.mk (Kd.R_at hq_ HO_16.out); have n2_ := Aside0.mk (blk_at hq_ BK396.out); have n3_ := Aside0.mk (blk_at hq_ BK397.out); have n4_ := Aside0.mk (below_at hq_ HB.out); clear hq_ HO_6 HO_16 BK396 BK397 HB; have HO_6 := n0_; have HO_16 := n1_; have BK396 := n2_; have BK397 := n3_; have HB := n4_; clear n0_ n1_ n2_ n3_ n4_; (try (have HP155 := Kd.R_putg HO_6.out (x141_3 : Int) x15_2)))); refine store_event (t := 3) (p := 213) (v := ?vo_w156) (w1 := (wr.setCell ⟨go152, (x141_3 : Int).toNat, none⟩ (.int .i64 x15_2))) ?hg ?ho ?hn ?hr ?_; (case ho => rfl); (case hg => rfl); (case hn => rfl); (case hr => first | (go_simp; done) | (go_simp; rfl)); intro w156 hw; have hg : wr.grownBy w156 (some go152) := (by rw [hw]; exact HP155.2); have hp_ : Kd.R (Kd.int .i64) 3 w156 w.heap.size (fun k_ => some k_ ≠ (v419 : Value).ownBlock) (.slice (some ⟨go152, 0, none⟩) x6_3.length co83) y430 := (by rw [hw, Ny430.out]; exact HP155.1); clear HP155; have n0_ := Aside0.mk (hp_); have n1_ := Aside0.mk (Kd.R_after (v := (.slice (some ⟨go152, 0, none⟩) x6_3.length co83)) (v1 := (.slice (some ⟨go152, 0, none⟩) x6_3.length co83)) (ok := (fun _ => True)) (by (with_reducible repeat (first | apply Kd.R_alloc | apply Kd.R_drewN | apply Kd.R_drew)); exact Kd.R_mono HO_16.out (fun _ hk => ⟨trivial, hk⟩)) hg (.inl rfl)); have n2_ := Aside0.mk (blk_grown (g := gb396) (o := .cells #[.slice A0_0 l0_0.length c0_0, .slice (some ad429) l0_1.length c0_1, .slice (some ad424) l0_2.length c0_2] 34 (0, 0)) (bk_ BK396.out) hg (Kd.R_ne HO_6.out BK396.out (by decide))); have n3_ := Aside0.mk (blk_grown (g := gb397) (o := .cells #[.slice A1_0 l1_0.length c1_0, .slice A1_1 l1_1.length c1_1] 36 (0, 0)) (bk_ BK397.out) hg (Kd.R_ne HO_6.out BK397.out (by decide))); have n4_ := Aside0.mk ((by rw [hw]; exact below_set (HB.out) GB152.out : Below w.heap.size w w156)); clear HO_6; clear HO_16; clear BK396; clear BK397; clear HB; have HO_6 := n0_; have HO_16 := n1_; have BK396 := n2_; have BK397 := n3_; have HB := n4_; clear n0_ n1_ n2_ n3_ n4_; clear hg hw hp_)))
                           (try simp only [← hl6_3])
                           go_roundg k5
                           case measure => have := HK1.out; have := HK2.out; have := HK3.out; have := HJ108.out; have := HK5.out; omega
                           case rel => exact ⟨(y430), (wrap64 (x141_3 + 1)), es_, H', ⟨by have := HK1.out; have := HK2.out; have := HK3.out; have := HJ108.out; have := HK5.out; omega⟩, ⟨by (try simp only [hl6_1]); (try simp only [hl6_2]); (try simp only [hl6_3]); (with_reducible repeat (first | apply Kd.R_alloc | apply Kd.R_drewN | apply Kd.R_drew)); exact HO_6.out⟩, ⟨by (try simp only [hl6_1]); (try simp only [hl6_2]); (try simp only [hl6_3]); (with_reducible repeat (first | apply Kd.R_alloc | apply Kd.R_drewN | apply Kd.R_drew)); exact Kd.R_mono HO_16.out (fun _ hk => hk.2)⟩, ⟨by (try simp only [hl6_1]); (try simp only [hl6_2]); (try simp only [hl6_3]); (with_reducible repeat (first | refine blk_drewN ?_ _ | refine blk_drew ?_ | refine blk_alloc ?_ _)); exact BK396.out⟩, ⟨by (try simp only [hl6_1]); (try simp only [hl6_2]); (try simp only [hl6_3]); (with_reducible repeat (first | refine blk_drewN ?_ _ | refine blk_drew ?_ | refine blk_alloc ?_ _)); exact BK397.out⟩, ⟨hb_⟩⟩
                          ·rw [if_neg c151] at H
                           exact absurd H (by simp)
                         ·replace c150 := Bool.eq_false_iff.mpr c150
                          subst c150
                          rw [if_neg (show ¬ (false = true) by decide)] at H
                          have H' := Aside0.mk H
                          clear H
                          have hnb157 := NB396_397.out
                          have hnc157 := NB397_396.out
                          have hcz158_0 : wr.cell? ⟨gb396, 0, none⟩ = some (.slice A0_0 l0_0.length c0_0) := (blk_cell BK396.out 0).trans rfl
                          have hcz158_1 : wr.cell? ⟨gb396, 1, none⟩ = some (.slice A0_1 l0_1.length c0_1) := (blk_cell BK396.out 1).trans rfl
                          have hcz158_2 : wr.cell? ⟨gb396, 2, none⟩ = some (.slice (some ad424) l0_2.length c0_2) := (blk_cell BK396.out 2).trans rfl
                          have hfz158_0 := blk_frozen BK396.out 0
                          have hfz158_1 := blk_frozen BK396.out 1
                          have hfz158_2 := blk_frozen BK396.out 2
                          have p429 : 0 ≤ (x141_3 : Int) := of_decide_eq_true as_
                          have q429 : x141_3 < (l0_1.length : Int) := of_decide_eq_true as_
                          obtain ⟨ad429, e429, hx429_0⟩ := Kd.at_bool HR0_1.out x141_3 p429 q429
                          (try rw [← Nbq148.out] at hx429_0)
                          cases e429
                          replace hx429_0 := hc_ HB hx429_0
                          replace p429 := eq_true p429
                          replace q429 := eq_true q429
                          have p431 : 0 ≤ (x141_3 : Int) := of_decide_eq_true as_
                          have q431 : x141_3 < (l0_1.length : Int) := of_decide_eq_true as_
                          obtain ⟨ad431, e431, hx431_0⟩ := Kd.at_bool HR0_1.out x141_3 p431 q431
                          (try rw [← Nbq148.out] at hx431_0)
                          obtain rfl : ad429 = ad431 := (by injection e431)
                          replace hx431_0 := hc_ HB hx431_0
                          replace p431 := eq_true p431
                          replace q431 := eq_true q431
                          go_wp2
                          repeat (go_quiet (fail); try go_wp2)
                          (try simp only [← hl6_3])
                          go_roundg k5
                          case measure => have := HK1.out; have := HK2.out; have := HK3.out; have := HJ108.out; have := HK5.out; omega
                          case rel => exact ⟨(x6_3), (wrap64 (x141_3 + 1)), es_, H', ⟨by have := HK1.out; have := HK2.out; have := HK3.out; have := HJ108.out; have := HK5.out; omega⟩, ⟨by (try simp only [hl6_1]); (try simp only [hl6_2]); (try simp only [hl6_3]); (with_reducible repeat (first | apply Kd.R_alloc | apply Kd.R_drewN | apply Kd.R_drew)); exact HO_6.out⟩, ⟨by (try simp only [hl6_1]); (try simp only [hl6_2]); (try simp only [hl6_3]); (with_reducible repeat (first | apply Kd.R_alloc | apply Kd.R_drewN | apply Kd.R_drew)); exact HO_16.out⟩, ⟨by (try simp only [hl6_1]); (try simp only [hl6_2]); (try simp only [hl6_3]); (with_reducible repeat (first | refine blk_drewN ?_ _ | refine blk_drew ?_ | refine blk_alloc ?_ _)); exact BK396.out⟩, ⟨by (try simp only [hl6_1]); (try simp only [hl6_2]); (try simp only [hl6_3]); (with_reducible repeat (first | refine blk_drewN ?_ _ | refine blk_drew ?_ | refine blk_alloc ?_ _)); exact BK397.out⟩, ⟨hb_⟩⟩
                        ·replace c149 := Bool.eq_false_iff.mpr c149
                         subst c149
                         rw [if_neg (show ¬ (false = true) by decide)] at H
                         by_cases c159 : x19_5 = true
                         ·subst c159
                          rw [if_pos rfl] at H
                          by_cases c160 : x141_3 < (x6_3.length : Int)
                          ·rw [if_pos c160] at H
                           have c160b0 : decide (x141_3 < (x6_3.length : Int)) = true := decide_eq_true c160
                           (try simp only [hl6_1] at c160b0)
                           (try simp only [hl6_2] at c160b0)
                           (try simp only [hl6_3] at c160b0)
                           clear c160
                           obtain ⟨y433, hy433⟩ : ∃ y_ : List Int, y_ = (x6_3.set (x141_3 : Int).toNat x15_2) := ⟨_, rfl⟩
                           replace H : (impl_Board_wins.l6 k5 (l0_0.length : Int) y433 x15_2 t418 (x6_2.length : Int) (wrap64 (x141_3 + 1)) l0_0 l0_1 l0_2 l1_0 l1_1) = some r := by first | (rw [hy433]; with_reducible exact H) | (have H2_ := (Option.bind_some _ _).symm.trans H; rw [hy433]; with_reducible exact H2_) | (have H2_ := (Option.bind_some _ _).symm.trans H; with_reducible exact H2_) | with_reducible exact H | (rw [hy433]; exact H) | exact H
                           have Ny433 := Aside0.mk hy433
                           clear hy433
                           have H' := Aside0.mk H
                           clear H
                           have hnb162 := NB396_397.out
                           have hnc162 := NB397_396.out
                           have hcz163_0 : wr.cell? ⟨gb396, 0, none⟩ = some (.slice A0_0 l0_0.length c0_0) := (blk_cell BK396.out 0).trans rfl
                           have hcz163_1 : wr.cell? ⟨gb396, 1, none⟩ = some (.slice A0_1 l0_1.length c0_1) := (blk_cell BK396.out 1).trans rfl
                           have hcz163_2 : wr.cell? ⟨gb396, 2, none⟩ = some (.slice (some ad424) l0_2.length c0_2) := (blk_cell BK396.out 2).trans rfl
                           have hfz163_0 := blk_frozen BK396.out 0
                           have hfz163_1 := blk_frozen BK396.out 1
                           have hfz163_2 := blk_frozen BK396.out 2
                           have p429 : 0 ≤ (x141_3 : Int) := of_decide_eq_true as_
                           have q429 : x141_3 < (l0_1.length : Int) := of_decide_eq_true as_
                           obtain ⟨ad429, e429, hx429_0⟩ := Kd.at_bool HR0_1.out x141_3 p429 q429
                           (try rw [← Nbq148.out] at hx429_0)
                           cases e429
                           replace hx429_0 := hc_ HB hx429_0
                           replace p429 := eq_true p429
                           replace q429 := eq_true q429
                           have p432 : 0 ≤ (x141_3 : Int) := of_decide_eq_true as_
                           have q432 : x141_3 < (l0_1.length : Int) := of_decide_eq_true as_
                           obtain ⟨ad432, e432, hx432_0⟩ := Kd.at_bool HR0_1.out x141_3 p432 q432
                           (try rw [← Nbq148.out] at hx432_0)
                           obtain rfl : ad429 = ad432 := (by injection e432)
                           replace hx432_0 := hc_ HB hx432_0
                           replace p432 := eq_true p432
                           replace q432 := eq_true q432
                           have p161 : 0 ≤ (x141_3 : Int) := of_decide_eq_true as_
                           have q161 : (x141_3 : Int) < ((x6_3.length : Int) : Int) := of_decide_eq_true as_
                           obtain ⟨go161, co161, eo161, gb161, gl161, cl161, HG161⟩ := Kd.R_form HO_6.out (by omega)
                           (first | cases eo161 | (injection eo161 with ea_ en_ ec_; (first | subst ea_ | (injection ea_ with ea_; subst ea_)); subst ec_; clear en_))
                           have GB161 := Aside0.mk gb161
                           have GG161 := Aside0.mk HG161
                           clear gb161 gl161 HG161
                           obtain ⟨hx161_0, hf161_0⟩ := Kd.R_celln 0 HO_6.out (x141_3 : Int) p161 q161
                           replace p161 := eq_true p161
                           replace q161 := eq_true q161
                           have HP164 := Kd.R_putg HO_6.out (x141_3 : Int) x15_2
                           go_wp2_with (first | ((with_reducible refine gate_store (t := 3) (p := 213) rfl ?_); (try (rw [drewN_self wr]; generalize hq_ : World.drewN wr _ = wr; have n0_ := Aside0.mk (Kd.R_at hq_ HO_6.out); have n1_ := Aside0.mk (Kd.R_at hq_ HO_16.out); have n2_ := Aside0.mk (blk_at hq_ BK396.out); have n3_ := Aside0.mk (blk_at hq_ BK397.out); have n4_ := Aside0.mk (below_at hq_ HB.out); clear hq_ HO_6 HO_16 BK396 BK397 HB; have HO_6 := n0_; have HO_16 := n1_; have BK396 := n2_; have BK397 := n3_; have HB := n4_; clear n0_ n1_ n2_ n3_ n4_; (try (have HP164 := Kd.R_putg HO_6.out (x141_3 : Int) x15_2)))); refine store_event (t := 3) (p := 213) (v := ?vo_w165) (w1 := (wr.setCell ⟨go161, (x141_3 : Int).toNat, none⟩ (.int .i64 x15_2))) ?hg ?ho ?hn ?hr ?_; (case ho => rfl); (case hg => rfl); (case hn => rfl); (case hr => first | (go_simp; done) | (go_simp; rfl)); intro w165 hw; have hg : wr.grownBy w165 (some go161) := (by rw [hw]; exact HP164.2); have hp_ : Kd.R (Kd.int .i64) 3 w165 w.heap.size (fun k_ => some k_ ≠ (v419 : Value).ownBlock) (.slice (some ⟨go161, 0, none⟩) x6_3.length co83) y433 := (by rw [hw, Ny433.out]; exact HP164.1); clear HP164; have n0_ := Aside0.mk (hp_); have n1_ := Aside0.mk (Kd.R_after (v := (.slice (some ⟨go161, 0, none⟩) x6_3.length co83)) (v1 := (.slice (some ⟨go161, 0, none⟩) x6_3.length co83)) (ok := (fun _ => True)) (by (with_reducible repeat (first | apply Kd.R_alloc | apply Kd.R_drewN | apply Kd.R_drew)); exact Kd.R_mono HO_16.out (fun _ hk => ⟨trivial, hk⟩)) hg (.inl rfl)); have n2_ := Aside0.mk (blk_grown (g := gb396) (o := .cells #[.slice A0_0 l0_0.length c0_0, .slice (some ad429) l0_1.length c0_1, .slice (some ad424) l0_2.length c0_2] 34 (0, 0)) (bk_ BK396.out) hg (Kd.R_ne HO_6.out BK396.out (by decide))); have n3_ := Aside0.mk (blk_grown (g := gb397) (o := .cells #[.slice A1_0 l1_0.length c1_0, .slice A1_1 l1_1.length c1_1] 36 (0, 0)) (bk_ BK397.out) hg (Kd.R_ne HO_6.out BK397.out (by decide))); have n4_ := Aside0.mk ((by rw [hw]; exact below_set (HB.out) GB161.out : Below w.heap.size w w165)); clear HO_6; clear HO_16; clear BK396; clear BK397; clear HB; have HO_6 := n0_; have HO_16 := n1_; have BK396 := n2_; have BK397 := n3_; have HB := n4_; clear n0_ n1_ n2_ n3_ n4_; clear hg hw hp_))
                           repeat (go_quiet (first | ((with_reducible refine gate_store (t := 3) (p := 213) rfl ?_); (try (rw [drewN_self wr]; generalize hq_ : World.drewN wr _ = wr; have n0_ := Aside0.mk (Kd.R_at hq_ HO_6.out); have n1_ := Aside0.mk (Kd.R_at hq_ HO_16.out); have n2_ := Aside0.mk (blk_at hq_ BK396.out); have n3_ := Aside0.mk (blk_at hq_ BK397.out); have n4_ := Aside0.mk (below_at hq_ HB.out); clear hq_ HO_6 HO_16 BK396 BK397 HB; have HO_6 := n0_; have HO_16 := n1_; have BK396 := n2_; have BK397 := n3_; have HB := n4_; clear n0_ n1_ n2_ n3_ n4_; (try (have HP164 := Kd.R_putg HO_6.out (x141_3 : Int) x15_2)))); refine store_event (t := 3) (p := 213) (v := ?vo_w165) (w1 := (wr.setCell ⟨go161, (x141_3 : Int).toNat, none⟩ (.int .i64 x15_2))) ?hg ?ho ?hn ?hr ?_; (case ho => rfl); (case hg => rfl); (case hn => rfl); (case hr => first | (go_simp; done) | (go_simp; rfl)); intro w165 hw; have hg : wr.grownBy w165 (some go161) := (by rw [hw]; exact HP164.2); have hp_ : Kd.R (Kd.int .i64) 3 w165 w.heap.size (fun k_ => some k_ ≠ (v419 : Value).ownBlock) (.slice (some ⟨go161, 0, none⟩) x6_3.length co83) y433 := (by rw [hw, Ny433.out]; exact HP164.1); clear HP164; have n0_ := Aside0.mk (hp_); have n1_ := Aside0.mk (Kd.R_after (v := (.slice (some ⟨go161, 0, none⟩) x6_3.length co83)) (v1 := (.slice (some ⟨go161, 0, none⟩) x6_3.length co83)) (ok := (fun _ => True)) (by (with_reducible repeat (first | apply Kd.R_alloc | apply Kd.R_drewN | apply Kd.R_drew)); exact Kd.R_mono HO_16.out (fun _ hk => ⟨trivial, hk⟩)) hg (.inl rfl)); have n2_ := Aside0.mk (blk_grown (g := gb396) (o := .cells #[.slice A0_0 l0_0.length c0_0, .slice (some ad429) l0_1.length c0_1, .slice (some ad424) l0_2.length c0_2] 34 (0, 0)) (bk_ BK396.out) hg (Kd.R_ne HO_6.out BK396.out (by decide))); have n3_ := Aside0.mk (blk_grown (g := gb397) (o := .cells #[.slice A1_0 l1_0.length c1_0, .slice A1_1 l1_1.length c1_1] 36 (0, 0)) (bk_ BK397.out) hg (Kd.R_ne HO_6.out BK397.out (by decide))); have n4_ := Aside0.mk ((by rw [hw]; exact below_set (HB.out) GB161.out : Below w.heap.size w w165)); clear HO_6; clear HO_16; clear BK396; clear BK397; clear HB; have HO_6 := n0_; have HO_16 := n1_; have BK396 := n2_; have BK397 := n3_; have HB := n4_; clear n0_ n1_ n2_ n3_ n4_; clear hg hw hp_)); try go_wp2_with (first | ((with_reducible refine gate_store (t := 3) (p := 213) rfl ?_); (try (rw [drewN_self wr]; generalize hq_ : World.drewN wr _ = wr; have n0_ := Aside0.mk (Kd.R_at hq_ HO_6.out); have n1_ := Aside0.mk (Kd.R_at hq_ HO_16.out); have n2_ := Aside0.mk (blk_at hq_ BK396.out); have n3_ := Aside0.mk (blk_at hq_ BK397.out); have n4_ := Aside0.mk (below_at hq_ HB.out); clear hq_ HO_6 HO_16 BK396 BK397 HB; have HO_6 := n0_; have HO_16 := n1_; have BK396 := n2_; have BK397 := n3_; have HB := n4_; clear n0_ n1_ n2_ n3_ n4_; (try (have HP164 := Kd.R_putg HO_6.out (x141_3 : Int) x15_2)))); refine store_event (t := 3) (p := 213) (v := ?vo_w165) (w1 := (wr.setCell ⟨go161, (x141_3 : Int).toNat, none⟩ (.int .i64 x15_2))) ?hg ?ho ?hn ?hr ?_; (case ho => rfl); (case hg => rfl); (case hn => rfl); (case hr => first | (go_simp; done) | (go_simp; rfl)); intro w165 hw; have hg : wr.grownBy w165 (some go161) := (by rw [hw]; exact HP164.2); have hp_ : Kd.R (Kd.int .i64) 3 w165 w.heap.size (fun k_ => some k_ ≠ (v419 : Value).ownBlock) (.slice (some ⟨go161, 0, none⟩) x6_3.length co83) y433 := (by rw [hw, Ny433.out]; exact HP164.1); clear HP164; have n0_ := Aside0.mk (hp_); have n1_ := Aside0.mk (Kd.R_after (v := (.slice (some ⟨go161, 0, none⟩) x6_3.length co83)) (v1 := (.slice (some ⟨go161, 0, none⟩) x6_3.length co83)) (ok := (fun _ => True)) (by (with_reducible repeat (first | apply Kd.R_alloc | apply Kd.R_drewN | apply Kd.R_drew)); exact Kd.R_mono HO_16.out (fun _ hk => ⟨trivial, hk⟩)) hg (.inl rfl)); have n2_ := Aside0.mk (blk_grown (g := gb396) (o := .cells #[.slice A0_0 l0_0.length c0_0, .slice (some ad429) l0_1.length c0_1, .slice (some ad424) l0_2.length c0_2] 34 (0, 0)) (bk_ BK396.out) hg (Kd.R_ne HO_6.out BK396.out (by decide))); have n3_ := Aside0.mk (blk_grown (g := gb397) (o := .cells #[.slice A1_0 l1_0.length c1_0, .slice A1_1 l1_1.length c1_1] 36 (0, 0)) (bk_ BK397.out) hg (Kd.R_ne HO_6.out BK397.out (by decide))); have n4_ := Aside0.mk ((by rw [hw]; exact below_set (HB.out) GB161.out : Below w.heap.size w w165)); clear HO_6; clear HO_16; clear BK396; clear BK397; clear HB; have HO_6 := n0_; have HO_16 := n1_; have BK396 := n2_; have BK397 := n3_; have HB := n4_; clear n0_ n1_ n2_ n3_ n4_; clear hg hw hp_)))
                           (try simp only [← hl6_3])
                           go_roundg k5
                           case measure => have := HK1.out; have := HK2.out; have := HK3.out; have := HJ108.out; have := HK5.out; omega
                           case rel => exact ⟨(y433), (wrap64 (x141_3 + 1)), es_, H', ⟨by have := HK1.out; have := HK2.out; have := HK3.out; have := HJ108.out; have := HK5.out; omega⟩, ⟨by (try simp only [hl6_1]); (try simp only [hl6_2]); (try simp only [hl6_3]); (with_reducible repeat (first | apply Kd.R_alloc | apply Kd.R_drewN | apply Kd.R_drew)); exact HO_6.out⟩, ⟨by (try simp only [hl6_1]); (try simp only [hl6_2]); (try simp only [hl6_3]); (with_reducible repeat (first | apply Kd.R_alloc | apply Kd.R_drewN | apply Kd.R_drew)); exact Kd.R_mono HO_16.out (fun _ hk => hk.2)⟩, ⟨by (try simp only [hl6_1]); (try simp only [hl6_2]); (try simp only [hl6_3]); (with_reducible repeat (first | refine blk_drewN ?_ _ | refine blk_drew ?_ | refine blk_alloc ?_ _)); exact BK396.out⟩, ⟨by (try simp only [hl6_1]); (try simp only [hl6_2]); (try simp only [hl6_3]); (with_reducible repeat (first | refine blk_drewN ?_ _ | refine blk_drew ?_ | refine blk_alloc ?_ _)); exact BK397.out⟩, ⟨hb_⟩⟩
                          ·rw [if_neg c160] at H
                           exact absurd H (by simp)
                         ·replace c159 := Bool.eq_false_iff.mpr c159
                          subst c159
                          rw [if_neg (show ¬ (false = true) by decide)] at H
                          have H' := Aside0.mk H
                          clear H
                          have hnb166 := NB396_397.out
                          have hnc166 := NB397_396.out
                          have hcz167_0 : wr.cell? ⟨gb396, 0, none⟩ = some (.slice A0_0 l0_0.length c0_0) := (blk_cell BK396.out 0).trans rfl
                          have hcz167_1 : wr.cell? ⟨gb396, 1, none⟩ = some (.slice A0_1 l0_1.length c0_1) := (blk_cell BK396.out 1).trans rfl
                          have hcz167_2 : wr.cell? ⟨gb396, 2, none⟩ = some (.slice (some ad424) l0_2.length c0_2) := (blk_cell BK396.out 2).trans rfl
                          have hfz167_0 := blk_frozen BK396.out 0
                          have hfz167_1 := blk_frozen BK396.out 1
                          have hfz167_2 := blk_frozen BK396.out 2
                          have p429 : 0 ≤ (x141_3 : Int) := of_decide_eq_true as_
                          have q429 : x141_3 < (l0_1.length : Int) := of_decide_eq_true as_
                          obtain ⟨ad429, e429, hx429_0⟩ := Kd.at_bool HR0_1.out x141_3 p429 q429
                          (try rw [← Nbq148.out] at hx429_0)
                          cases e429
                          replace hx429_0 := hc_ HB hx429_0
                          replace p429 := eq_true p429
                          replace q429 := eq_true q429
                          have p432 : 0 ≤ (x141_3 : Int) := of_decide_eq_true as_
                          have q432 : x141_3 < (l0_1.length : Int) := of_decide_eq_true as_
                          obtain ⟨ad432, e432, hx432_0⟩ := Kd.at_bool HR0_1.out x141_3 p432 q432
                          (try rw [← Nbq148.out] at hx432_0)
                          obtain rfl : ad429 = ad432 := (by injection e432)
                          replace hx432_0 := hc_ HB hx432_0
                          replace p432 := eq_true p432
                          replace q432 := eq_true q432
                          go_wp2
                          repeat (go_quiet (fail); try go_wp2)
                          (try simp only [← hl6_3])
                          go_roundg k5
                          case measure => have := HK1.out; have := HK2.out; have := HK3.out; have := HJ108.out; have := HK5.out; omega
                          case rel => exact ⟨(x6_3), (wrap64 (x141_3 + 1)), es_, H', ⟨by have := HK1.out; have := HK2.out; have := HK3.out; have := HJ108.out; have := HK5.out; omega⟩, ⟨by (try simp only [hl6_1]); (try simp only [hl6_2]); (try simp only [hl6_3]); (with_reducible repeat (first | apply Kd.R_alloc | apply Kd.R_drewN | apply Kd.R_drew)); exact HO_6.out⟩, ⟨by (try simp only [hl6_1]); (try simp only [hl6_2]); (try simp only [hl6_3]); (with_reducible repeat (first | apply Kd.R_alloc | apply Kd.R_drewN | apply Kd.R_drew)); exact HO_16.out⟩, ⟨by (try simp only [hl6_1]); (try simp only [hl6_2]); (try simp only [hl6_3]); (with_reducible repeat (first | refine blk_drewN ?_ _ | refine blk_drew ?_ | refine blk_alloc ?_ _)); exact BK396.out⟩, ⟨by (try simp only [hl6_1]); (try simp only [hl6_2]); (try simp only [hl6_3]); (with_reducible repeat (first | refine blk_drewN ?_ _ | refine blk_drew ?_ | refine blk_alloc ?_ _)); exact BK397.out⟩, ⟨hb_⟩⟩
                       ·rw [if_neg c147] at H
                        exact absurd H (by simp)
                      ·rw [if_neg c146] at H
                       exact absurd H (by simp)
                  ·rw [if_neg c130] at H
                   exact absurd H (by simp)
                 ·rw [if_neg c129] at H
                  exact absurd H (by simp)
             ·rw [if_neg c108] at H
              have c108b0 : decide (x141_3 < (x6_2.length : Int)) = false := decide_eq_false c108
              (try simp only [hl6_1] at c108b0)
              (try simp only [hl6_2] at c108b0)
              (try simp only [hl6_3] at c108b0)
              clear c108
              have H' := Aside0.mk H
              clear H
              go_wp2
              repeat (go_quiet (fail); try go_wp2)
              (try simp only [← hl6_2, ← hl6_3])
              go_roundg k3
              case measure => have := HK1.out; have := HK2.out; have := HK3.out; omega
              case rel => exact ⟨(x6_3), (wrap64 (x15_2 + 1)), es_, H', ⟨by have := HK1.out; have := HK2.out; have := HK3.out; omega⟩, ⟨by (try simp only [hl6_1]); (try simp only [hl6_2]); (try simp only [hl6_3]); (with_reducible repeat (first | apply Kd.R_alloc | apply Kd.R_drewN | apply Kd.R_drew)); exact Kd.R_mono HO_6.out (fun _ hk => trivial)⟩, ⟨by (try simp only [hl6_1]); (try simp only [hl6_2]); (try simp only [hl6_3]); (with_reducible repeat (first | refine blk_drewN ?_ _ | refine blk_drew ?_ | refine blk_alloc ?_ _)); exact BK396.out⟩, ⟨by (try simp only [hl6_1]); (try simp only [hl6_2]); (try simp only [hl6_3]); (with_reducible repeat (first | refine blk_drewN ?_ _ | refine blk_drew ?_ | refine blk_alloc ?_ _)); exact BK397.out⟩, ⟨hb_⟩⟩
          ·rw [if_neg c105] at H
           have c105b0 : decide (x15_2 ≤ (l0_0.length : Int)) = false := decide_eq_false c105
           (try simp only [hl6_1] at c105b0)
           (try simp only [hl6_2] at c105b0)
           clear c105
           obtain rfl := Option.some.inj H
           go_wp2
           repeat (go_quiet (fail); try go_wp2)
           go_ret
           exact ⟨_, er_, by (with_reducible repeat (first | apply Kd.R_alloc | apply Kd.R_drewN | apply Kd.R_drew)); exact HO_6.out, hb_⟩
   ·rw [if_neg c4] at H
    exact absurd H (by simp)
  ·rw [if_neg c3] at H
   exact absurd H (by simp)

end Go.Proofs.YtdihodboopeakaaDoor.Pr
