-- Joined and pruned by wip/tools/prune.py out of this session's own texts (Pr17, Clnd, Prd4, Slb, Cln)
import Derived.Test.YtdihodboopeakaaDoorZst3
import Derived.Ground.Names2Prog
import Derived.Shelf.Slices.Clone
import Derived.Test.YtdihodboopeakaaDoorProg
-- Written by this session's own print (wip/tools/mkmp.py) out of the translation. Lean checks it.
namespace Go.Proofs.YtdihodboopeakaaDoor.Pr
open Go.RowKit Go.Proofs.YtdihodboopeakaaDoorW.PrintWords Go.Proofs.YtdihodboopeakaaDoorW.PrintLast Go.Proofs.YtdihodboopeakaaDoorW.PrintMore
attribute [local go_sem] max2_int min2_int max_two min_two max_three min_three max_four min_four   -- for this text's walks alone
set_option linter.unusedVariables false
set_option linter.unusedSimpArgs false

def impl_Board_aims.T1 : Bool × List (List Nat × List Nat) := (true, [([], []), ([0], [0]), ([], []), ([2], [2]), ([], []), ([3, 4], [3, 4]), ([5], [5]), ([1, 6], [1, 6]), ([7, 7], [7]), ([8], [8]), ([8], [8]), ([8], [8]), ([9, 10, 11, 8, 8], [8, 9, 10, 11]), ([12, 8], [8, 12]), ([8, 13], [8, 13]), ([14, 12, 0, 1, 2, 3, 4, 5, 6, 7, 8, 9, 10, 11, 12, 13, 14], [14])])
def impl_Board_aims.B1 : List Nat := [0, 1, 0, 4, 0, 28, 60, 127, 255, 511, 511, 511, 4095, 8191, 16383, 32767]
theorem impl_Board_aims.tab1 : rtab .any (opsOf Tryd.f63 1) = impl_Board_aims.T1 := by kernel_rfl
theorem impl_Board_aims.bits1 : waitsOk impl_Board_aims.T1.2 impl_Board_aims.B1 = true := by kernel_rfl
set_option maxHeartbeats 8000000 in
set_option maxRecDepth 100000 in
theorem impl_Board_aims.calls (k : Nat) (A0_0 : Option Addr) (c0_0 : Nat) (l0_0 : List ByteArray) (A0_1 : Option Addr) (c0_1 : Nat) (l0_1 : List Bool) (A0_2 : Option Addr) (c0_2 : Nat) (l0_2 : List (List Int)) (A1_0 : Option Addr) (c1_0 : Nat) (l1_0 : List ByteArray) (A1_1 : Option Addr) (c1_1 : Nat) (l1_1 : List ByteArray) (a2 : Int) (r : Bool) (w : World) (hr0_0 : Kd.C Kd.string w A0_0 l0_0.length l0_0) (hc0_0 : l0_0.length ≤ c0_0) (hr0_1 : Kd.C Kd.bool w A0_1 l0_1.length l0_1) (hc0_1 : l0_1.length ≤ c0_1) (hr0_2 : Kd.C (Kd.slice 3 (Kd.int .i64)) w A0_2 l0_2.length l0_2) (hc0_2 : l0_2.length ≤ c0_2) (hr1_0 : Kd.C Kd.string w A1_0 l1_0.length l1_0) (hc1_0 : l1_0.length ≤ c1_0) (hr1_1 : Kd.C Kd.string w A1_1 l1_1.length l1_1) (hc1_1 : l1_1.length ≤ c1_1) (h : impl_Board_aims.f k l0_0 l0_1 l0_2 l1_0 l1_1 a2 = some r) :
   Calls Tryd.prog 63 #[.agg #[.slice A0_0 l0_0.length c0_0, .slice A0_1 l0_1.length c0_1, .slice A0_2 l0_2.length c0_2], .agg #[.slice A1_0 l1_0.length c1_0, .slice A1_1 l1_1.length c1_1], .int .i64 a2] w fun e w' => e = .returned (.bool r) ∧ Below w.heap.size w w' := by
  have hu34 := Tryd.underlying34; have hu36 := Tryd.underlying36; have HR0_0 := Aside0.mk hr0_0; have HC0_0 := Aside0.mk hc0_0; clear hr0_0 hc0_0; have HR0_1 := Aside0.mk hr0_1; have HC0_1 := Aside0.mk hc0_1; clear hr0_1 hc0_1; have HR0_2 := Aside0.mk hr0_2; have HC0_2 := Aside0.mk hc0_2; clear hr0_2 hc0_2; have HR1_0 := Aside0.mk hr1_0; have HC1_0 := Aside0.mk hc1_0; clear hr1_0 hc1_0; have HR1_1 := Aside0.mk hr1_1; have HC1_1 := Aside0.mk hc1_1; clear hr1_1 hc1_1; have HB := Aside0.mk (Below.refl w.heap.size w); have H : (if 0 ≤ a2 then (if a2 < (l0_0.length : Int) then ((slices_Contains_string_string.f k l1_0 (rdOf ByteArray.empty l0_0 a2)).bind fun t256 => (if t256 = true then ((impl_Board_shuns.f k l0_0 l0_1 l0_2 l1_0 l1_1 a2).bind fun t257 => (some (!t257))) else (some false))) else (none)) else (none)) = some r := h; clear h; by_cases c4 : 0 ≤ a2
  ·rw [if_pos c4] at H
   have c4b0 : decide (0 ≤ a2) = true := decide_eq_true c4; clear c4; by_cases c5 : a2 < (l0_0.length : Int)
   ·rw [if_pos c5] at H
    have c5b0 : decide (a2 < (l0_0.length : Int)) = true := decide_eq_true c5; clear c5; replace H := Option.bind_eq_some_iff.mp H; obtain ⟨t256, A60, H⟩ := H; replace H : (if t256 = true then ((impl_Board_shuns.f k l0_0 l0_1 l0_2 l1_0 l1_1 a2).bind fun t257 => (some (!t257))) else (some false)) = some r := H; have A6 := Aside0.mk A60; clear A60; by_cases c7 : t256 = true
    ·subst c7
     rw [if_pos rfl] at H; replace H := Option.bind_eq_some_iff.mp H; obtain ⟨t257, A80, H⟩ := H; replace H : (some (!t257)) = some r := H; have A8 := Aside0.mk A80; clear A80
     obtain rfl := Option.some.inj H
     go_enter Tryd.func63, Tryd.ntmps63; (try go_wp2_with (first | ((with_reducible refine gate_dst (N := 3) rfl ?_); refine box_event ?hg (N := 3) ?hd (cs := #[.slice A0_0 l0_0.length c0_0, .slice A0_1 l0_1.length c0_1, .slice A0_2 l0_2.length c0_2]) (t := 34) ?hr ?_; (case hd => rfl); (case hg => rfl); (case hr => first | (go_simp; done) | (go_simp; rfl)); intro gb253 hg w9 hbox hb; have BK253 := Aside0.mk (hbox); have GW253 : Aside0 (w.heap.size ≤ gb253) := gz_; have GE253 : Aside0 (w.heap.size ≤ gb253) := gz_; replace HB := Aside0.mk (below_step hb_ hb); clear hb hbox hg) | ((with_reducible refine gate_dst (N := 4) rfl ?_); refine box_event ?hg (N := 4) ?hd (cs := #[.slice A1_0 l1_0.length c1_0, .slice A1_1 l1_1.length c1_1]) (t := 36) ?hr ?_; (case hd => rfl); (case hg => rfl); (case hr => first | (go_simp; done) | (go_simp; rfl)); intro gb254 hg w10 hbox hb; have BK254 := Aside0.mk (hbox); have GW254 : Aside0 (w.heap.size ≤ gb254) := gz_; have GE254 : Aside0 (w.heap.size ≤ gb254) := gz_; have NB253_254 := Aside0.mk ((by rw [hg]; exact Nat.ne_of_lt (blk_lt (g := gb253) (o := .cells #[.slice A0_0 l0_0.length c0_0, .slice A0_1 l0_1.length c0_1, .slice A0_2 l0_2.length c0_2] 34 (0, 0)) (bk_ BK253.out)) : gb253 ≠ gb254)); have NB254_253 := Aside0.mk ((by rw [hg]; exact Nat.ne_of_gt (blk_lt (g := gb253) (o := .cells #[.slice A0_0 l0_0.length c0_0, .slice A0_1 l0_1.length c0_1, .slice A0_2 l0_2.length c0_2] 34 (0, 0)) (bk_ BK253.out)) : gb254 ≠ gb253)); replace BK253 := bb_ BK253 hb; replace HB := Aside0.mk (below_step hb_ hb); clear hb hbox hg))); replace BK253 := Aside0.mk (blk_drew BK253.out); replace BK254 := Aside0.mk (blk_drew BK254.out); replace HB := Aside0.mk (below_drew1 HB.out); have p255 : 0 ≤ (a2 : Int) := of_decide_eq_true as_; have q255 : a2 < (l0_0.length : Int) := of_decide_eq_true as_; obtain ⟨ad255, e255, hx255_0⟩ := Kd.at_string HR0_0.out a2 p255 q255; have hw255_0 := hx255_0; cases e255; replace hx255_0 := hc_ HB hx255_0; replace p255 := eq_true p255; replace q255 := eq_true q255; refine start_ (n := 16) (S := fun w' => w'.cell? ⟨gb254, 0, none⟩ = some (.slice A1_0 l1_0.length c1_0) ∧ w'.cell? ⟨gb254, 1, none⟩ = some (.slice A1_1 l1_1.length c1_1) ∧ w'.cell? ⟨gb253, 0, none⟩ = some (.slice (some ad255) l0_0.length c0_0) ∧ w'.cell? ⟨gb253, 1, none⟩ = some (.slice A0_1 l0_1.length c0_1) ∧ w'.cell? ⟨gb253, 2, none⟩ = some (.slice A0_2 l0_2.length c0_2) ∧ w'.cell? (ad255.add (a2).toNat) = some (.string (rdOf ByteArray.empty l0_0 a2))) (ds := []) #[false, false, false, false, false, false, false, false, false, false, false, false, false, false, false, false] (by kernel_rfl) rfl rfl ⟨(blk_cell BK254.out 0).trans rfl, (blk_cell BK254.out 1).trans rfl, (blk_cell BK253.out 0).trans rfl, (blk_cell BK253.out 1).trans rfl, (blk_cell BK253.out 2).trans rfl, ((HB.out.cell (World.block_lt_of_cell? w _ hw255_0)).trans hw255_0)⟩ (fun hHeld => ?_); refine with_tabW impl_Board_aims.tab1 impl_Board_aims.bits1 (fun HT_ HW_ => ?_); generalize w10.drew = w11 at BK253 BK254 HB hx255_0 hHeld ⊢; refine pure_ (i := 0) (N := some 7) (v := ?_) (a' := ?_) #[true, false, false, false, false, false, false, false, false, false, false, false, false, false, false, false] rfl rfl (any_of HT_.out (by kernel_rfl)) (fun _ _ _ h => h) (Or.inl ⟨by rfl, ?_⟩) ?_ ?_; rotate_left
     ·intro w'
      go_simp
      with_reducible rfl
     rotate_left
     ·simp only [Act.put, List.setIfInBounds_toArray, List.set_cons_zero, List.set_cons_succ, i64_w, i32_w]
      rfl
     refine pure_ (i := 2) (N := some 9) (v := ?_) (a' := ?_) #[true, false, true, false, false, false, false, false, false, false, false, false, false, false, false, false] rfl rfl (any_of HT_.out (by kernel_rfl)) (fun _ _ _ h => h) (Or.inl ⟨by rfl, ?_⟩) ?_ ?_; rotate_left
     ·intro w'
      go_simp
      with_reducible rfl
     rotate_left
     ·simp only [Act.put, List.setIfInBounds_toArray, List.set_cons_zero, List.set_cons_succ, i64_w, i32_w]
      rfl
     refine pure_ (i := 4) (N := some 11) (v := ?_) (a' := ?_) #[true, false, true, false, true, false, false, false, false, false, false, false, false, false, false, false] rfl rfl (any_of HT_.out (by kernel_rfl)) (fun _ _ _ h => h) (Or.inl ⟨by rfl, ?_⟩) ?_ ?_; rotate_left
     ·intro w'
      go_simp
      with_reducible rfl
     rotate_left
     ·simp only [Act.put, List.setIfInBounds_toArray, List.set_cons_zero, List.set_cons_succ, i64_w, i32_w]
      rfl
     refine take_ (i := 1) (N := some 8) (v := ?_) (a' := ?_) #[true, true, true, false, true, false, false, false, false, false, false, false, false, false, false, false] rfl rfl (take_ofW HT_.out HW_.out (by kernel_rfl)) (fun _ _ _ h => h) (Or.inl ⟨by rfl, ?_⟩) hHeld ?_ ?_; rotate_left
     ·rintro w' ⟨s0, s1, s2, s3, s4, s5⟩
      go_simp
      with_reducible rfl
     rotate_left
     ·simp only [Act.put, List.setIfInBounds_toArray, List.set_cons_zero, List.set_cons_succ, i64_w, i32_w]
      rfl
     refine take_ (i := 3) (N := some 10) (v := ?_) (a' := ?_) #[true, true, true, true, true, false, false, false, false, false, false, false, false, false, false, false] rfl rfl (take_ofW HT_.out HW_.out (by kernel_rfl)) (fun _ _ _ h => h) (Or.inl ⟨by rfl, ?_⟩) hHeld ?_ ?_; rotate_left
     ·rintro w' ⟨s0, s1, s2, s3, s4, s5⟩
      go_simp
      with_reducible rfl
     rotate_left
     ·simp only [Act.put, List.setIfInBounds_toArray, List.set_cons_zero, List.set_cons_succ, i64_w, i32_w]
      rfl
     refine pure_ (i := 5) (N := some 12) (v := ?_) (a' := ?_) #[true, true, true, true, true, true, false, false, false, false, false, false, false, false, false, false] rfl rfl (any_of HT_.out (by kernel_rfl)) (fun _ _ _ h => h) (Or.inl ⟨by rfl, ?_⟩) ?_ ?_; rotate_left
     ·intro w'
      go_simp
      with_reducible rfl
     rotate_left
     ·simp only [Act.put, List.setIfInBounds_toArray, List.set_cons_zero, List.set_cons_succ, i64_w, i32_w]
      rfl
     refine take_ (i := 6) (N := some 13) (v := ?_) (a' := ?_) #[true, true, true, true, true, true, true, false, false, false, false, false, false, false, false, false] rfl rfl (take_ofW HT_.out HW_.out (by kernel_rfl)) (fun _ _ _ h => h) (Or.inl ⟨by rfl, ?_⟩) hHeld ?_ ?_; rotate_left
     ·rintro w' ⟨s0, s1, s2, s3, s4, s5⟩
      go_simp
      with_reducible rfl
     rotate_left
     ·simp only [Act.put, List.setIfInBounds_toArray, List.set_cons_zero, List.set_cons_succ, i64_w, i32_w]
      rfl
     refine one_ (i := 7) (N := some 14) #[true, true, true, true, true, true, true, true, false, false, false, false, false, false, false, false] rfl rfl (one_of HT_.out (by kernel_rfl)) (by decide) (fun K hK => ?_); refine goes_ Tryd.func73 (by kernel_rfl) rfl #[.slice A1_0 l1_0.length c1_0, .string (rdOf ByteArray.empty l0_0 a2)] (by rfl) rfl rfl ls_ ?_
     with_reducible refine (slices_Contains_string_string.calls k _ _ l1_0 (rdOf ByteArray.empty l0_0 a2) true _ ?side1 ?side2 A6.out).mono ?_
     (case side1 => exact cb_ HR1_0.out); (case side2 => exact HC1_0.out); rintro e w' ⟨rfl, ⟨nd, rfl⟩⟩; refine ⟨_, rfl, ?_⟩; refine hK.out _ _ ⟨(blk_cell BK254.out 0).trans rfl, (blk_cell BK254.out 1).trans rfl, (blk_cell BK253.out 0).trans rfl, (blk_cell BK253.out 1).trans rfl, (blk_cell BK253.out 2).trans rfl, ((HB.out.cell (World.block_lt_of_cell? w _ hw255_0)).trans hw255_0)⟩ (fun hHeld => ?_); clear hK K; refine norm_ (a' := ?_) ?_ ?_; rotate_left
     ·show Act.put _ (some 14) _ = _
      simp only [Act.put, List.setIfInBounds_toArray, List.set_cons_zero, List.set_cons_succ, i64_w, i32_w]
      rfl
     refine pure_ (i := 8) (N := some 15) (v := ?_) (a' := ?_) #[true, true, true, true, true, true, true, true, true, false, false, false, false, false, false, false] rfl rfl (any_of HT_.out (by kernel_rfl)) (fun _ _ _ h => h) (Or.inl ⟨by rfl, ?_⟩) ?_ ?_; rotate_left
     ·intro w'
      go_simp
      with_reducible rfl
     rotate_left
     ·simp only [Act.put, List.setIfInBounds_toArray, List.set_cons_zero, List.set_cons_succ, i64_w, i32_w]
      rfl
     refine pure_ (i := 11) (N := some 18) (v := ?_) (a' := ?_) #[true, true, true, true, true, true, true, true, true, false, false, true, false, false, false, false] rfl rfl (any_of HT_.out (by kernel_rfl)) (fun _ _ _ h => h) (Or.inl ⟨by rfl, ?_⟩) ?_ ?_; rotate_left
     ·intro w'
      go_simp
      with_reducible rfl
     rotate_left
     ·simp only [Act.put, List.setIfInBounds_toArray, List.set_cons_zero, List.set_cons_succ, i64_w, i32_w]
      rfl
     refine take_ (i := 9) (N := some 16) (v := ?_) (a' := ?_) #[true, true, true, true, true, true, true, true, true, true, false, true, false, false, false, false] rfl rfl (take_ofW HT_.out HW_.out (by kernel_rfl)) (fun _ _ _ h => h) (Or.inl ⟨by rfl, ?_⟩) hHeld ?_ ?_; rotate_left
     ·rintro w' ⟨s0, s1, s2, s3, s4, s5⟩
      go_simp
      with_reducible rfl
     rotate_left
     ·simp only [Act.put, List.setIfInBounds_toArray, List.set_cons_zero, List.set_cons_succ, i64_w, i32_w]
      rfl
     refine take_ (i := 10) (N := some 17) (v := ?_) (a' := ?_) #[true, true, true, true, true, true, true, true, true, true, true, true, false, false, false, false] rfl rfl (take_ofW HT_.out HW_.out (by kernel_rfl)) (fun _ _ _ h => h) (Or.inl ⟨by rfl, ?_⟩) hHeld ?_ ?_; rotate_left
     ·rintro w' ⟨s0, s1, s2, s3, s4, s5⟩
      go_simp
      with_reducible rfl
     rotate_left
     ·simp only [Act.put, List.setIfInBounds_toArray, List.set_cons_zero, List.set_cons_succ, i64_w, i32_w]
      rfl
     refine one_ (i := 12) (N := some 19) #[true, true, true, true, true, true, true, true, true, true, true, true, true, false, false, false] rfl rfl (one_of HT_.out (by kernel_rfl)) (by decide) (fun K hK => ?_); refine goes_ Tryd.func79 (by kernel_rfl) rfl #[.agg #[.slice (some ad255) l0_0.length c0_0, .slice A0_1 l0_1.length c0_1, .slice A0_2 l0_2.length c0_2], .agg #[.slice A1_0 l1_0.length c1_0, .slice A1_1 l1_1.length c1_1], .int .i64 a2] (by rfl) rfl rfl ls_ ?_
     with_reducible refine (impl_Board_shuns.calls k _ _ l0_0 _ _ l0_1 _ _ l0_2 _ _ l1_0 _ _ l1_1 a2 t257 _ ?side1 ?side2 ?side3 ?side4 ?side5 ?side6 ?side7 ?side8 ?side9 ?side10 A8.out).mono ?_
     (case side1 => repeat (first | exact (Kd.C_below HR0_0.out hb_) | (with_reducible refine Kd.C_alloc ?_ _) | (with_reducible refine Kd.C_drewN ?_ _) | (with_reducible refine Kd.C_drew ?_))); (case side2 => exact HC0_0.out); (case side3 => repeat (first | exact (Kd.C_below HR0_1.out hb_) | (with_reducible refine Kd.C_alloc ?_ _) | (with_reducible refine Kd.C_drewN ?_ _) | (with_reducible refine Kd.C_drew ?_))); (case side4 => exact HC0_1.out); (case side5 => repeat (first | exact (Kd.C_below HR0_2.out hb_) | (with_reducible refine Kd.C_alloc ?_ _) | (with_reducible refine Kd.C_drewN ?_ _) | (with_reducible refine Kd.C_drew ?_))); (case side6 => exact HC0_2.out); (case side7 => repeat (first | exact (Kd.C_below HR1_0.out hb_) | (with_reducible refine Kd.C_alloc ?_ _) | (with_reducible refine Kd.C_drewN ?_ _) | (with_reducible refine Kd.C_drew ?_))); (case side8 => exact HC1_0.out); (case side9 => repeat (first | exact (Kd.C_below HR1_1.out hb_) | (with_reducible refine Kd.C_alloc ?_ _) | (with_reducible refine Kd.C_drewN ?_ _) | (with_reducible refine Kd.C_drew ?_))); (case side10 => exact HC1_1.out); rintro e w12 ⟨rfl, hb⟩; refine ⟨_, rfl, ?_⟩; replace BK253 := bb_ BK253 hb; replace BK254 := bb_ BK254 hb; replace HB := Aside0.mk (below_step hb_ hb); refine hK.out _ _ ⟨(blk_cell BK254.out 0).trans rfl, (blk_cell BK254.out 1).trans rfl, (blk_cell BK253.out 0).trans rfl, (blk_cell BK253.out 1).trans rfl, (blk_cell BK253.out 2).trans rfl, ((HB.out.cell (World.block_lt_of_cell? w _ hw255_0)).trans hw255_0)⟩ (fun hHeld => ?_); clear hK K; refine norm_ (a' := ?_) ?_ ?_; rotate_left
     ·show Act.put _ (some 19) _ = _
      simp only [Act.put, List.setIfInBounds_toArray, List.set_cons_zero, List.set_cons_succ, i64_w, i32_w]
      rfl
     refine pure_ (i := 13) (N := some 20) (v := ?_) (a' := ?_) #[true, true, true, true, true, true, true, true, true, true, true, true, true, true, false, false] rfl rfl (any_of HT_.out (by kernel_rfl)) (fun _ _ _ h => h) (Or.inl ⟨by rfl, ?_⟩) ?_ ?_; rotate_left
     ·intro w'
      go_simp
      with_reducible rfl
     rotate_left
     ·simp only [Act.put, List.setIfInBounds_toArray, List.set_cons_zero, List.set_cons_succ, i64_w, i32_w]
      rfl
     refine pure_ (i := 14) (N := some 21) (v := ?_) (a' := ?_) #[true, true, true, true, true, true, true, true, true, true, true, true, true, true, true, false] rfl rfl (any_of HT_.out (by kernel_rfl)) (fun _ _ _ h => h) (Or.inl ⟨by rfl, ?_⟩) ?_ ?_; rotate_left
     ·intro w'
      go_simp
      with_reducible rfl
     rotate_left
     ·simp only [Act.put, List.setIfInBounds_toArray, List.set_cons_zero, List.set_cons_succ, i64_w, i32_w]
      rfl
     refine pure_ (i := 15) (N := some 6) (v := ?_) (a' := ?_) #[true, true, true, true, true, true, true, true, true, true, true, true, true, true, true, true] rfl rfl (any_of HT_.out (by kernel_rfl)) (fun _ _ _ h => h) (Or.inl ⟨by rfl, ?_⟩) ?_ ?_; rotate_left
     ·intro w'
      go_simp
      with_reducible rfl
     rotate_left
     ·simp only [Act.put, List.setIfInBounds_toArray, List.set_cons_zero, List.set_cons_succ, i64_w, i32_w]
      rfl
     refine done_ (done_of HT_.out (by kernel_rfl)) ?_; (try go_wp2); go_ret; exact ⟨er_, hb_⟩
    ·replace c7 := Bool.eq_false_iff.mpr c7
     subst c7; rw [if_neg (show ¬ (false = true) by decide)] at H
     obtain rfl := Option.some.inj H
     go_enter Tryd.func63, Tryd.ntmps63; (try go_wp2_with (first | ((with_reducible refine gate_dst (N := 3) rfl ?_); refine box_event ?hg (N := 3) ?hd (cs := #[.slice A0_0 l0_0.length c0_0, .slice A0_1 l0_1.length c0_1, .slice A0_2 l0_2.length c0_2]) (t := 34) ?hr ?_; (case hd => rfl); (case hg => rfl); (case hr => first | (go_simp; done) | (go_simp; rfl)); intro gb253 hg w13 hbox hb; have BK253 := Aside0.mk (hbox); have GW253 : Aside0 (w.heap.size ≤ gb253) := gz_; have GE253 : Aside0 (w.heap.size ≤ gb253) := gz_; replace HB := Aside0.mk (below_step hb_ hb); clear hb hbox hg) | ((with_reducible refine gate_dst (N := 4) rfl ?_); refine box_event ?hg (N := 4) ?hd (cs := #[.slice A1_0 l1_0.length c1_0, .slice A1_1 l1_1.length c1_1]) (t := 36) ?hr ?_; (case hd => rfl); (case hg => rfl); (case hr => first | (go_simp; done) | (go_simp; rfl)); intro gb254 hg w14 hbox hb; have BK254 := Aside0.mk (hbox); have GW254 : Aside0 (w.heap.size ≤ gb254) := gz_; have GE254 : Aside0 (w.heap.size ≤ gb254) := gz_; have NB253_254 := Aside0.mk ((by rw [hg]; exact Nat.ne_of_lt (blk_lt (g := gb253) (o := .cells #[.slice A0_0 l0_0.length c0_0, .slice A0_1 l0_1.length c0_1, .slice A0_2 l0_2.length c0_2] 34 (0, 0)) (bk_ BK253.out)) : gb253 ≠ gb254)); have NB254_253 := Aside0.mk ((by rw [hg]; exact Nat.ne_of_gt (blk_lt (g := gb253) (o := .cells #[.slice A0_0 l0_0.length c0_0, .slice A0_1 l0_1.length c0_1, .slice A0_2 l0_2.length c0_2] 34 (0, 0)) (bk_ BK253.out)) : gb254 ≠ gb253)); replace BK253 := bb_ BK253 hb; replace HB := Aside0.mk (below_step hb_ hb); clear hb hbox hg))); replace BK253 := Aside0.mk (blk_drew BK253.out); replace BK254 := Aside0.mk (blk_drew BK254.out); replace HB := Aside0.mk (below_drew1 HB.out); have p255 : 0 ≤ (a2 : Int) := of_decide_eq_true as_; have q255 : a2 < (l0_0.length : Int) := of_decide_eq_true as_; obtain ⟨ad255, e255, hx255_0⟩ := Kd.at_string HR0_0.out a2 p255 q255; have hw255_0 := hx255_0; cases e255; replace hx255_0 := hc_ HB hx255_0; replace p255 := eq_true p255; replace q255 := eq_true q255; refine start_ (n := 16) (S := fun w' => w'.cell? ⟨gb254, 0, none⟩ = some (.slice A1_0 l1_0.length c1_0) ∧ w'.cell? ⟨gb254, 1, none⟩ = some (.slice A1_1 l1_1.length c1_1) ∧ w'.cell? ⟨gb253, 0, none⟩ = some (.slice (some ad255) l0_0.length c0_0) ∧ w'.cell? ⟨gb253, 1, none⟩ = some (.slice A0_1 l0_1.length c0_1) ∧ w'.cell? ⟨gb253, 2, none⟩ = some (.slice A0_2 l0_2.length c0_2) ∧ w'.cell? (ad255.add (a2).toNat) = some (.string (rdOf ByteArray.empty l0_0 a2))) (ds := []) #[false, false, false, false, false, false, false, false, false, false, false, false, false, false, false, false] (by kernel_rfl) rfl rfl ⟨(blk_cell BK254.out 0).trans rfl, (blk_cell BK254.out 1).trans rfl, (blk_cell BK253.out 0).trans rfl, (blk_cell BK253.out 1).trans rfl, (blk_cell BK253.out 2).trans rfl, ((HB.out.cell (World.block_lt_of_cell? w _ hw255_0)).trans hw255_0)⟩ (fun hHeld => ?_); refine with_tabW impl_Board_aims.tab1 impl_Board_aims.bits1 (fun HT_ HW_ => ?_); generalize w14.drew = w15 at BK253 BK254 HB hx255_0 hHeld ⊢; refine pure_ (i := 0) (N := some 7) (v := ?_) (a' := ?_) #[true, false, false, false, false, false, false, false, false, false, false, false, false, false, false, false] rfl rfl (any_of HT_.out (by kernel_rfl)) (fun _ _ _ h => h) (Or.inl ⟨by rfl, ?_⟩) ?_ ?_; rotate_left
     ·intro w'
      go_simp
      with_reducible rfl
     rotate_left
     ·simp only [Act.put, List.setIfInBounds_toArray, List.set_cons_zero, List.set_cons_succ, i64_w, i32_w]
      rfl
     refine pure_ (i := 2) (N := some 9) (v := ?_) (a' := ?_) #[true, false, true, false, false, false, false, false, false, false, false, false, false, false, false, false] rfl rfl (any_of HT_.out (by kernel_rfl)) (fun _ _ _ h => h) (Or.inl ⟨by rfl, ?_⟩) ?_ ?_; rotate_left
     ·intro w'
      go_simp
      with_reducible rfl
     rotate_left
     ·simp only [Act.put, List.setIfInBounds_toArray, List.set_cons_zero, List.set_cons_succ, i64_w, i32_w]
      rfl
     refine pure_ (i := 4) (N := some 11) (v := ?_) (a' := ?_) #[true, false, true, false, true, false, false, false, false, false, false, false, false, false, false, false] rfl rfl (any_of HT_.out (by kernel_rfl)) (fun _ _ _ h => h) (Or.inl ⟨by rfl, ?_⟩) ?_ ?_; rotate_left
     ·intro w'
      go_simp
      with_reducible rfl
     rotate_left
     ·simp only [Act.put, List.setIfInBounds_toArray, List.set_cons_zero, List.set_cons_succ, i64_w, i32_w]
      rfl
     refine take_ (i := 1) (N := some 8) (v := ?_) (a' := ?_) #[true, true, true, false, true, false, false, false, false, false, false, false, false, false, false, false] rfl rfl (take_ofW HT_.out HW_.out (by kernel_rfl)) (fun _ _ _ h => h) (Or.inl ⟨by rfl, ?_⟩) hHeld ?_ ?_; rotate_left
     ·rintro w' ⟨s0, s1, s2, s3, s4, s5⟩
      go_simp
      with_reducible rfl
     rotate_left
     ·simp only [Act.put, List.setIfInBounds_toArray, List.set_cons_zero, List.set_cons_succ, i64_w, i32_w]
      rfl
     refine take_ (i := 3) (N := some 10) (v := ?_) (a' := ?_) #[true, true, true, true, true, false, false, false, false, false, false, false, false, false, false, false] rfl rfl (take_ofW HT_.out HW_.out (by kernel_rfl)) (fun _ _ _ h => h) (Or.inl ⟨by rfl, ?_⟩) hHeld ?_ ?_; rotate_left
     ·rintro w' ⟨s0, s1, s2, s3, s4, s5⟩
      go_simp
      with_reducible rfl
     rotate_left
     ·simp only [Act.put, List.setIfInBounds_toArray, List.set_cons_zero, List.set_cons_succ, i64_w, i32_w]
      rfl
     refine pure_ (i := 5) (N := some 12) (v := ?_) (a' := ?_) #[true, true, true, true, true, true, false, false, false, false, false, false, false, false, false, false] rfl rfl (any_of HT_.out (by kernel_rfl)) (fun _ _ _ h => h) (Or.inl ⟨by rfl, ?_⟩) ?_ ?_; rotate_left
     ·intro w'
      go_simp
      with_reducible rfl
     rotate_left
     ·simp only [Act.put, List.setIfInBounds_toArray, List.set_cons_zero, List.set_cons_succ, i64_w, i32_w]
      rfl
     refine take_ (i := 6) (N := some 13) (v := ?_) (a' := ?_) #[true, true, true, true, true, true, true, false, false, false, false, false, false, false, false, false] rfl rfl (take_ofW HT_.out HW_.out (by kernel_rfl)) (fun _ _ _ h => h) (Or.inl ⟨by rfl, ?_⟩) hHeld ?_ ?_; rotate_left
     ·rintro w' ⟨s0, s1, s2, s3, s4, s5⟩
      go_simp
      with_reducible rfl
     rotate_left
     ·simp only [Act.put, List.setIfInBounds_toArray, List.set_cons_zero, List.set_cons_succ, i64_w, i32_w]
      rfl
     refine one_ (i := 7) (N := some 14) #[true, true, true, true, true, true, true, true, false, false, false, false, false, false, false, false] rfl rfl (one_of HT_.out (by kernel_rfl)) (by decide) (fun K hK => ?_); refine goes_ Tryd.func73 (by kernel_rfl) rfl #[.slice A1_0 l1_0.length c1_0, .string (rdOf ByteArray.empty l0_0 a2)] (by rfl) rfl rfl ls_ ?_
     with_reducible refine (slices_Contains_string_string.calls k _ _ l1_0 (rdOf ByteArray.empty l0_0 a2) false _ ?side1 ?side2 A6.out).mono ?_
     (case side1 => exact cb_ HR1_0.out); (case side2 => exact HC1_0.out); rintro e w' ⟨rfl, ⟨nd, rfl⟩⟩; refine ⟨_, rfl, ?_⟩; refine hK.out _ _ ⟨(blk_cell BK254.out 0).trans rfl, (blk_cell BK254.out 1).trans rfl, (blk_cell BK253.out 0).trans rfl, (blk_cell BK253.out 1).trans rfl, (blk_cell BK253.out 2).trans rfl, ((HB.out.cell (World.block_lt_of_cell? w _ hw255_0)).trans hw255_0)⟩ (fun hHeld => ?_); clear hK K; refine norm_ (a' := ?_) ?_ ?_; rotate_left
     ·show Act.put _ (some 14) _ = _
      simp only [Act.put, List.setIfInBounds_toArray, List.set_cons_zero, List.set_cons_succ, i64_w, i32_w]
      rfl
     refine pure_ (i := 8) (N := some 15) (v := ?_) (a' := ?_) #[true, true, true, true, true, true, true, true, true, false, false, false, false, false, false, false] rfl rfl (any_of HT_.out (by kernel_rfl)) (fun _ _ _ h => h) (Or.inl ⟨by rfl, ?_⟩) ?_ ?_; rotate_left
     ·intro w'
      go_simp
      with_reducible rfl
     rotate_left
     ·simp only [Act.put, List.setIfInBounds_toArray, List.set_cons_zero, List.set_cons_succ, i64_w, i32_w]
      rfl
     refine pure_ (i := 9) (N := some 16) (v := undef) (a' := ?_) #[true, true, true, true, true, true, true, true, true, true, false, false, false, false, false, false] rfl rfl (any_of HT_.out (by kernel_rfl)) (fun _ _ _ h => h) (Or.inr ⟨by rfl, rfl⟩) ?_ ?_; rotate_left
     ·simp only [Act.put, List.setIfInBounds_toArray, List.set_cons_zero, List.set_cons_succ, i64_w, i32_w]
      rfl
     refine pure_ (i := 10) (N := some 17) (v := undef) (a' := ?_) #[true, true, true, true, true, true, true, true, true, true, true, false, false, false, false, false] rfl rfl (any_of HT_.out (by kernel_rfl)) (fun _ _ _ h => h) (Or.inr ⟨by rfl, rfl⟩) ?_ ?_; rotate_left
     ·simp only [Act.put, List.setIfInBounds_toArray, List.set_cons_zero, List.set_cons_succ, i64_w, i32_w]
      rfl
     refine pure_ (i := 11) (N := some 18) (v := undef) (a' := ?_) #[true, true, true, true, true, true, true, true, true, true, true, true, false, false, false, false] rfl rfl (any_of HT_.out (by kernel_rfl)) (fun _ _ _ h => h) (Or.inr ⟨by rfl, rfl⟩) ?_ ?_; rotate_left
     ·simp only [Act.put, List.setIfInBounds_toArray, List.set_cons_zero, List.set_cons_succ, i64_w, i32_w]
      rfl
     refine pure_ (i := 12) (N := some 19) (v := undef) (a' := ?_) #[true, true, true, true, true, true, true, true, true, true, true, true, true, false, false, false] rfl rfl (any_of HT_.out (by kernel_rfl)) (fun _ _ _ h => h) (Or.inr ⟨by rfl, rfl⟩) ?_ ?_; rotate_left
     ·simp only [Act.put, List.setIfInBounds_toArray, List.set_cons_zero, List.set_cons_succ, i64_w, i32_w]
      rfl
     refine pure_ (i := 13) (N := some 20) (v := undef) (a' := ?_) #[true, true, true, true, true, true, true, true, true, true, true, true, true, true, false, false] rfl rfl (any_of HT_.out (by kernel_rfl)) (fun _ _ _ h => h) (Or.inr ⟨by rfl, rfl⟩) ?_ ?_; rotate_left
     ·simp only [Act.put, List.setIfInBounds_toArray, List.set_cons_zero, List.set_cons_succ, i64_w, i32_w]
      rfl
     refine pure_ (i := 14) (N := some 21) (v := ?_) (a' := ?_) #[true, true, true, true, true, true, true, true, true, true, true, true, true, true, true, false] rfl rfl (any_of HT_.out (by kernel_rfl)) (fun _ _ _ h => h) (Or.inl ⟨by rfl, ?_⟩) ?_ ?_; rotate_left
     ·intro w'
      go_simp
      with_reducible rfl
     rotate_left
     ·simp only [Act.put, List.setIfInBounds_toArray, List.set_cons_zero, List.set_cons_succ, i64_w, i32_w]
      rfl
     refine pure_ (i := 15) (N := some 6) (v := ?_) (a' := ?_) #[true, true, true, true, true, true, true, true, true, true, true, true, true, true, true, true] rfl rfl (any_of HT_.out (by kernel_rfl)) (fun _ _ _ h => h) (Or.inl ⟨by rfl, ?_⟩) ?_ ?_; rotate_left
     ·intro w'
      go_simp
      with_reducible rfl
     rotate_left
     ·simp only [Act.put, List.setIfInBounds_toArray, List.set_cons_zero, List.set_cons_succ, i64_w, i32_w]
      rfl
     refine done_ (done_of HT_.out (by kernel_rfl)) ?_; (try go_wp2); go_ret; exact ⟨er_, hb_⟩
   ·rw [if_neg c5] at H
    exact absurd H (by simp)
  ·rw [if_neg c4] at H
   exact absurd H (by simp)

end Go.Proofs.YtdihodboopeakaaDoor.Pr
/- slices.Clone at []int: what it computes. -/
namespace Go.Proofs.YtdihodboopeakaaDoor.Pr
def slices_Clone_int_int.f (l : List Int) : Option (List Int) := if l.length * 8 ≤ 140737488355328 then some l else none
end Go.Proofs.YtdihodboopeakaaDoor.Pr
-- Written by this session's own print (wip/tools/mkmp.py) out of the translation. Lean checks it.
namespace Go.Proofs.YtdihodboopeakaaDoor.Pr
open Go.RowKit Go.Proofs.YtdihodboopeakaaDoorW.PrintWords Go.Proofs.YtdihodboopeakaaDoorW.PrintLast Go.Proofs.YtdihodboopeakaaDoorW.PrintMore
attribute [local go_sem] max2_int min2_int max_two min_two max_three min_three max_four min_four   -- for this text's walks alone
set_option linter.unusedVariables false
set_option linter.unusedSimpArgs false

/-! ### impl_Board_wins: function 56 -/
mutual
def impl_Board_wins.l0 : Nat → List Int → Int → Int → List ByteArray → List Bool → List (List Int) → List ByteArray → List ByteArray → Option (List Int)
  | 0, _, _, _, _, _, _, _, _ => none
  | k + 1, x6, x32, x33, x397000, x397001, x397002, x398000, x398001 => if x33 < x32 then ((impl_Board_shuns.f k x397000 x397001 x397002 x398000 x398001 x33).bind fun t401 => (if t401 = true then (if 0 ≤ x33 then (if x33 < (x6.length : Int) then (impl_Board_wins.l0 k (x6.set (x33 : Int).toNat (-1)) x32 (wrap64 (x33 + 1)) x397000 x397001 x397002 x398000 x398001) else (none)) else (none)) else (impl_Board_wins.l0 k x6 x32 (wrap64 (x33 + 1)) x397000 x397001 x397002 x398000 x398001))) else (impl_Board_wins.l1 k x6 true x397000 x397001 x397002)
def impl_Board_wins.l1 : Nat → List Int → Bool → List ByteArray → List Bool → List (List Int) → Option (List Int)
  | 0, _, _, _, _, _ => none
  | k + 1, x6, x8, x397000, x397001, x397002 => if x8 = true then (impl_Board_wins.l2 k x6 false (x6.length : Int) 0 x397000 x397001 x397002) else (some x6)
def impl_Board_wins.l2 : Nat → List Int → Bool → Int → Int → List ByteArray → List Bool → List (List Int) → Option (List Int)
  | 0, _, _, _, _, _, _, _ => none
  | k + 1, x6, x8, x46, x47, x397000, x397001, x397002 => if x47 < x46 then (if 0 ≤ x47 then (if x47 < (x6.length : Int) then (if (rd x6 x47) < 0 then (impl_Board_wins.j3 k x6 x8 x47 x46 x47 true x397000 x397001 x397002) else (if x47 < (x397002.length : Int) then (impl_Board_wins.j3 k x6 x8 x47 x46 x47 (((rd_L3 x397002 x47).length : Int) == 0) x397000 x397001 x397002) else (none))) else (none)) else (none)) else (impl_Board_wins.l1 k x6 x8 x397000 x397001 x397002)
def impl_Board_wins.j3 : Nat → List Int → Bool → Int → Int → Int → Bool → List ByteArray → List Bool → List (List Int) → Option (List Int)
  | 0, _, _, _, _, _, _, _, _, _ => none
  | k + 1, x6, x8, x9, x46, x47, x63, x397000, x397001, x397002 => if x63 = true then (impl_Board_wins.l2 k x6 x8 x46 (wrap64 (x47 + 1)) x397000 x397001 x397002) else (if 0 ≤ x9 then (if x9 < (x397002.length : Int) then (impl_Board_wins.l3 k x6 x8 x9 false false x46 x47 (rd_L3 x397002 x9) ((rd_L3 x397002 x9).length : Int) 0 x397000 x397001 x397002) else (none)) else (none))
def impl_Board_wins.l3 : Nat → List Int → Bool → Int → Bool → Bool → Int → Int → List Int → Int → Int → List ByteArray → List Bool → List (List Int) → Option (List Int)
  | 0, _, _, _, _, _, _, _, _, _, _, _, _, _ => none
  | k + 1, x6, x8, x9, x10, x11, x46, x47, x68, x69, x70, x397000, x397001, x397002 => if x70 < x69 then (if 0 ≤ x70 then (if x70 < (x68.length : Int) then (if x10 = true then (if x11 = true then (impl_Board_wins.l3 k x6 x8 x9 true true x46 x47 x68 x69 (wrap64 (x70 + 1)) x397000 x397001 x397002) else (if 0 ≤ (rd x68 x70) then (if (rd x68 x70) < (x6.length : Int) then (impl_Board_wins.l3 k x6 x8 x9 true (decide ((rd x6 (rd x68 x70)) < 0)) x46 x47 x68 x69 (wrap64 (x70 + 1)) x397000 x397001 x397002) else (none)) else (none))) else (if 0 ≤ (rd x68 x70) then (if (rd x68 x70) < (x6.length : Int) then (if x11 = true then (impl_Board_wins.l3 k x6 x8 x9 (decide ((rd x6 (rd x68 x70)) ≥ 0)) true x46 x47 x68 x69 (wrap64 (x70 + 1)) x397000 x397001 x397002) else (impl_Board_wins.l3 k x6 x8 x9 (decide ((rd x6 (rd x68 x70)) ≥ 0)) (decide ((rd x6 (rd x68 x70)) < 0)) x46 x47 x68 x69 (wrap64 (x70 + 1)) x397000 x397001 x397002)) else (none)) else (none))) else (none)) else (none)) else (if 0 ≤ x9 then (if x9 < (x397001.length : Int) then (if rdOf false x397001 x9 = true then (if x10 = true then (impl_Board_wins.l2 k x6 x8 x46 (wrap64 (x47 + 1)) x397000 x397001 x397002) else (if x9 < (x6.length : Int) then (impl_Board_wins.l2 k (x6.set (x9 : Int).toNat (-1)) true x46 (wrap64 (x47 + 1)) x397000 x397001 x397002) else (none))) else (if x11 = true then (if x9 < (x6.length : Int) then (impl_Board_wins.l2 k (x6.set (x9 : Int).toNat (-1)) true x46 (wrap64 (x47 + 1)) x397000 x397001 x397002) else (none)) else (impl_Board_wins.l2 k x6 x8 x46 (wrap64 (x47 + 1)) x397000 x397001 x397002))) else (none)) else (none))
def impl_Board_wins.l4 : Nat → Int → List Int → Int → Int → List ByteArray → List Bool → List (List Int) → List ByteArray → List ByteArray → Option (List Int)
  | 0, _, _, _, _, _, _, _, _, _ => none
  | k + 1, x5, x6, x117, x118, x397000, x397001, x397002, x398000, x398001 => if x118 < x117 then (if 0 ≤ x118 then (if x118 < (x6.length : Int) then ((some (x6.set (x118 : Int).toNat (-1) : List Int)).bind fun y415 => ((impl_Board_aims.f k x397000 x397001 x397002 x398000 x398001 x118).bind fun t416 => (if t416 = true then (impl_Board_wins.l4 k x5 (y415.set (x118 : Int).toNat 0) x117 (wrap64 (x118 + 1)) x397000 x397001 x397002 x398000 x398001) else (impl_Board_wins.l4 k x5 y415 x117 (wrap64 (x118 + 1)) x397000 x397001 x397002 x398000 x398001)))) else (none)) else (none)) else (impl_Board_wins.l5 k x5 x6 1 x397000 x397001 x397002 x398000 x398001)
def impl_Board_wins.l5 : Nat → Int → List Int → Int → List ByteArray → List Bool → List (List Int) → List ByteArray → List ByteArray → Option (List Int)
  | 0, _, _, _, _, _, _, _, _ => none
  | k + 1, x5, x6, x15, x397000, x397001, x397002, x398000, x398001 => if x15 ≤ x5 then ((slices_Clone_int_int.f x6).bind fun t418 => (impl_Board_wins.l6 k x5 x6 x15 t418 (x6.length : Int) 0 x397000 x397001 x397002 x398000 x398001)) else (some x6)
def impl_Board_wins.l6 : Nat → Int → List Int → Int → List Int → Int → Int → List ByteArray → List Bool → List (List Int) → List ByteArray → List ByteArray → Option (List Int)
  | 0, _, _, _, _, _, _, _, _, _, _, _ => none
  | k + 1, x5, x6, x15, x16, x140, x141, x397000, x397001, x397002, x398000, x398001 => if x141 < x140 then (if 0 ≤ x141 then (if x141 < (x16.length : Int) then (if (rd x16 x141) ≥ 0 then (impl_Board_wins.j8 k x5 x6 x15 x16 x141 x140 x141 true x397000 x397001 x397002 x398000 x398001) else ((impl_Board_shuns.f k x397000 x397001 x397002 x398000 x398001 x141).bind fun t422 => (if t422 = true then (impl_Board_wins.j8 k x5 x6 x15 x16 x141 x140 x141 true x397000 x397001 x397002 x398000 x398001) else (if x141 < (x397002.length : Int) then (impl_Board_wins.j8 k x5 x6 x15 x16 x141 x140 x141 (((rd_L3 x397002 x141).length : Int) == 0) x397000 x397001 x397002 x398000 x398001) else (none))))) else (none)) else (none)) else (impl_Board_wins.l5 k x5 x6 (wrap64 (x15 + 1)) x397000 x397001 x397002 x398000 x398001)
def impl_Board_wins.j8 : Nat → Int → List Int → Int → List Int → Int → Int → Int → Bool → List ByteArray → List Bool → List (List Int) → List ByteArray → List ByteArray → Option (List Int)
  | 0, _, _, _, _, _, _, _, _, _, _, _, _, _ => none
  | k + 1, x5, x6, x15, x16, x17, x140, x141, x163, x397000, x397001, x397002, x398000, x398001 => if x163 = true then (impl_Board_wins.l6 k x5 x6 x15 x16 x140 (wrap64 (x141 + 1)) x397000 x397001 x397002 x398000 x398001) else (if 0 ≤ x17 then (if x17 < (x397002.length : Int) then (impl_Board_wins.l7 k x5 x6 x15 x16 x17 false true x140 x141 (rd_L3 x397002 x17) ((rd_L3 x397002 x17).length : Int) 0 x397000 x397001 x397002 x398000 x398001) else (none)) else (none))
def impl_Board_wins.l7 : Nat → Int → List Int → Int → List Int → Int → Bool → Bool → Int → Int → List Int → Int → Int → List ByteArray → List Bool → List (List Int) → List ByteArray → List ByteArray → Option (List Int)
  | 0, _, _, _, _, _, _, _, _, _, _, _, _, _, _, _, _, _ => none
  | k + 1, x5, x6, x15, x16, x17, x18, x19, x140, x141, x168, x169, x170, x397000, x397001, x397002, x398000, x398001 => if x170 < x169 then (if 0 ≤ x170 then (if x170 < (x168.length : Int) then (if x18 = true then (if x19 = true then (if 0 ≤ (rd x168 x170) then (if (rd x168 x170) < (x16.length : Int) then (impl_Board_wins.l7 k x5 x6 x15 x16 x17 true (decide ((rd x16 (rd x168 x170)) ≥ 0)) x140 x141 x168 x169 (wrap64 (x170 + 1)) x397000 x397001 x397002 x398000 x398001) else (none)) else (none)) else (impl_Board_wins.l7 k x5 x6 x15 x16 x17 true false x140 x141 x168 x169 (wrap64 (x170 + 1)) x397000 x397001 x397002 x398000 x398001)) else (if 0 ≤ (rd x168 x170) then (if (rd x168 x170) < (x16.length : Int) then (if x19 = true then (impl_Board_wins.l7 k x5 x6 x15 x16 x17 (decide ((rd x16 (rd x168 x170)) ≥ 0)) (decide ((rd x16 (rd x168 x170)) ≥ 0)) x140 x141 x168 x169 (wrap64 (x170 + 1)) x397000 x397001 x397002 x398000 x398001) else (impl_Board_wins.l7 k x5 x6 x15 x16 x17 (decide ((rd x16 (rd x168 x170)) ≥ 0)) false x140 x141 x168 x169 (wrap64 (x170 + 1)) x397000 x397001 x397002 x398000 x398001)) else (none)) else (none))) else (none)) else (none)) else (if 0 ≤ x17 then (if x17 < (x397001.length : Int) then (if rdOf false x397001 x17 = true then (if x18 = true then (if x17 < (x6.length : Int) then (impl_Board_wins.l6 k x5 (x6.set (x17 : Int).toNat x15) x15 x16 x140 (wrap64 (x141 + 1)) x397000 x397001 x397002 x398000 x398001) else (none)) else (impl_Board_wins.l6 k x5 x6 x15 x16 x140 (wrap64 (x141 + 1)) x397000 x397001 x397002 x398000 x398001)) else (if x19 = true then (if x17 < (x6.length : Int) then (impl_Board_wins.l6 k x5 (x6.set (x17 : Int).toNat x15) x15 x16 x140 (wrap64 (x141 + 1)) x397000 x397001 x397002 x398000 x398001) else (none)) else (impl_Board_wins.l6 k x5 x6 x15 x16 x140 (wrap64 (x141 + 1)) x397000 x397001 x397002 x398000 x398001))) else (none)) else (none))
end
def impl_Board_wins.f (k : Nat) (l0_0 : List ByteArray) (l0_1 : List Bool) (l0_2 : List (List Int)) (l1_0 : List ByteArray) (l1_1 : List ByteArray) : Option (List Int) := if 0 ≤ (l0_0.length : Int) then (if ((l0_0.length : Int) : Int).toNat ≤ 35184372088832 then ((some (List.replicate ((l0_0.length : Int) : Int).toNat 0 : List Int)).bind fun y398 => (if (l1_0.length : Int) = 0 then (impl_Board_wins.l0 k y398 (y398.length : Int) 0 l0_0 l0_1 l0_2 l1_0 l1_1) else (impl_Board_wins.l4 k (l0_0.length : Int) y398 (y398.length : Int) 0 l0_0 l0_1 l0_2 l1_0 l1_1))) else (none)) else (none)
/-! ### impl_WinningPlaces: function 17 -/
/-! ### laws_markText: function 90 -/
def laws_markText.l0 : Nat → Int → ByteArray → Option (ByteArray)
  | 0, _, _ => none
  | k + 1, x0, x3 => if x0 > 0 then ((some (([(wrap64 (48 + (Int.tmod x0 10))) % 256] : List Int) : List Int)).bind fun y445 => (if (strOfNums y445).size + x3.size ≤ 9223372036854775807 then (laws_markText.l0 k (wrap64 (Int.tdiv x0 10)) ((strOfNums y445) ++ x3)) else (none))) else (if 1 + x3.size ≤ 9223372036854775807 then (some ((⟨#[109]⟩ : ByteArray) ++ x3)) else (none))
def laws_markText.f (k : Nat) (a0 : Int) : Option (ByteArray) := if a0 ≤ 0 then (some (⟨#[109, 48]⟩ : ByteArray)) else (laws_markText.l0 k a0 (⟨#[]⟩ : ByteArray))
/-! ### laws_markStringS: function 60 -/
def laws_markStringS.l0 : Nat → List ByteArray → Int → Int → Option (Int × List ByteArray)
  | 0, _, _, _ => none
  | k + 1, x0, x1, x5 => if x5 < (x0.length : Int) then ((laws_markText.f k x1).bind fun t448 => (if 0 ≤ x5 then (laws_markStringS.l0 k (x0.set (x5 : Int).toNat t448) (wrap64 (x1 + 1)) (wrap64 (x5 + 1))) else (none))) else (some (x1, x0))
def laws_markStringS.f (k : Nat) (l0 : List ByteArray) (a1 : Int) : Option (Int × List ByteArray) := laws_markStringS.l0 k l0 a1 0
/-! ### laws_markBoolS: function 61 -/
def laws_markBoolS.l0 : Nat → List Bool → Int → Int → Option (Int × List Bool)
  | 0, _, _, _ => none
  | k + 1, x0, x1, x5 => if x5 < (x0.length : Int) then (if 0 ≤ x5 then (laws_markBoolS.l0 k (x0.set (x5 : Int).toNat ((Int.tmod x1 3) == 0)) (wrap64 (x1 + 1)) (wrap64 (x5 + 1))) else (none)) else (some (x1, x0))
def laws_markBoolS.f (k : Nat) (l0 : List Bool) (a1 : Int) : Option (Int × List Bool) := laws_markBoolS.l0 k l0 a1 0
/-! ### laws_markIntS: function 23 -/
def laws_markIntS.l0 : Nat → List Int → Int → Int → Option (Int × List Int)
  | 0, _, _, _ => none
  | k + 1, x0, x1, x5 => if x5 < (x0.length : Int) then (if 0 ≤ x5 then (laws_markIntS.l0 k (x0.set (x5 : Int).toNat x1) (wrap64 (x1 + 1)) (wrap64 (x5 + 1))) else (none)) else (some (x1, x0))
def laws_markIntS.f (k : Nat) (l0 : List Int) (a1 : Int) : Option (Int × List Int) := laws_markIntS.l0 k l0 a1 0
/-! ### laws_markWish: function 22 -/
def laws_markWish.f (k : Nat) (l0_0 : List ByteArray) (l0_1 : List ByteArray) (a1 : Int) : Option (Int × List ByteArray × List ByteArray) := (laws_markStringS.f k l0_0 a1).bind fun bt459 => ((laws_markStringS.f k l0_1 bt459.1).bind fun bt461 => (some (bt461.1, bt459.2, bt461.2)))
/-! ### laws_heldIntS: function 24 -/
def laws_heldIntS.l0 : Nat → List Int → Int → Int → Option (Int)
  | 0, _, _, _ => none
  | k + 1, x0, x1, x5 => if x5 < (x0.length : Int) then (if 0 ≤ x5 then (if (rd x0 x5) = x1 then (laws_heldIntS.l0 k x0 (wrap64 (x1 + 1)) (wrap64 (x5 + 1))) else (some (-1))) else (none)) else (some x1)
def laws_heldIntS.f (k : Nat) (l0 : List Int) (a1 : Int) : Option (Int) := laws_heldIntS.l0 k l0 a1 0
/-! ### spec_Strategy: function 25 -/
mutual
def spec_Strategy.j0 : Nat → Bool → List ByteArray → List Bool → List (List Int) → List ByteArray → List ByteArray → Option (List Int × Bool)
  | 0, _, _, _, _, _, _ => none
  | k + 1, x18, x527000, x527001, x527002, x528000, x528001 => if x18 = true then (some (([] : List Int), false)) else ((spec_l22Ranks.f k x527000 x527001 x527002 x528000 x528001).bind fun t530 => (if 0 ≤ (t530.length : Int) then (if ((t530.length : Int) : Int).toNat ≤ 35184372088832 then ((some (List.replicate ((t530.length : Int) : Int).toNat 0 : List Int)).bind fun y533 => (spec_Strategy.l0 k t530 y533 (y533.length : Int) 0 x527000 x527001 x527002 x528000 x528001)) else (none)) else (none)))
def spec_Strategy.l0 : Nat → List Int → List Int → Int → Int → List ByteArray → List Bool → List (List Int) → List ByteArray → List ByteArray → Option (List Int × Bool)
  | 0, _, _, _, _, _, _, _, _, _ => none
  | k + 1, x6, x7, x26, x27, x527000, x527001, x527002, x528000, x528001 => if x27 < x26 then (if 0 ≤ x27 then (if x27 < (x7.length : Int) then ((some (x7.set (x27 : Int).toNat (-1) : List Int)).bind fun y536 => (if x27 < (x527001.length : Int) then (if rdOf false x527001 x27 = true then (if x27 < (x6.length : Int) then (if (rd x6 x27) < 0 then (spec_Strategy.j2 k x6 y536 x27 x26 x27 true x527000 x527001 x527002 x528000 x528001) else (if (x528000.length : Int) > 0 then (spec_Strategy.j2 k x6 y536 x27 x26 x27 ((rd x6 x27) == 0) x527000 x527001 x527002 x528000 x528001) else (spec_Strategy.j2 k x6 y536 x27 x26 x27 false x527000 x527001 x527002 x528000 x528001))) else (none)) else (spec_Strategy.j2 k x6 y536 x27 x26 x27 true x527000 x527001 x527002 x528000 x528001)) else (none))) else (none)) else (none)) else (some (x7, true))
def spec_Strategy.j2 : Nat → List Int → List Int → Int → Int → Int → Bool → List ByteArray → List Bool → List (List Int) → List ByteArray → List ByteArray → Option (List Int × Bool)
  | 0, _, _, _, _, _, _, _, _, _, _, _ => none
  | k + 1, x6, x7, x8, x26, x27, x58, x527000, x527001, x527002, x528000, x528001 => if x58 = true then (spec_Strategy.l0 k x6 x7 x26 (wrap64 (x27 + 1)) x527000 x527001 x527002 x528000 x528001) else (if 0 ≤ x8 then (if x8 < (x527002.length : Int) then (spec_Strategy.l1 k x6 x7 x8 x26 x27 (rd_L3 x527002 x8) ((rd_L3 x527002 x8).length : Int) 0 x527000 x527001 x527002 x528000 x528001) else (none)) else (none))
def spec_Strategy.l1 : Nat → List Int → List Int → Int → Int → Int → List Int → Int → Int → List ByteArray → List Bool → List (List Int) → List ByteArray → List ByteArray → Option (List Int × Bool)
  | 0, _, _, _, _, _, _, _, _, _, _, _, _, _ => none
  | k + 1, x6, x7, x8, x26, x27, x63, x64, x65, x527000, x527001, x527002, x528000, x528001 => if x65 < x64 then (if 0 ≤ x65 then (if x65 < (x63.length : Int) then (if 0 ≤ (rd x63 x65) then (if (rd x63 x65) < (x6.length : Int) then (if (rd x6 (rd x63 x65)) ≥ 0 then (if 0 ≤ x8 then (if x8 < (x7.length : Int) then (if (rd x7 x8) < 0 then (spec_Strategy.l1 k x6 (x7.set (x8 : Int).toNat (rd x63 x65)) x8 x26 x27 x63 x64 (wrap64 (x65 + 1)) x527000 x527001 x527002 x528000 x528001) else (if 0 ≤ (rd x7 x8) then (if (rd x7 x8) < (x6.length : Int) then (if (rd x6 (rd x63 x65)) < (rd x6 (rd x7 x8)) then (spec_Strategy.l1 k x6 (x7.set (x8 : Int).toNat (rd x63 x65)) x8 x26 x27 x63 x64 (wrap64 (x65 + 1)) x527000 x527001 x527002 x528000 x528001) else (spec_Strategy.l1 k x6 x7 x8 x26 x27 x63 x64 (wrap64 (x65 + 1)) x527000 x527001 x527002 x528000 x528001)) else (none)) else (none))) else (none)) else (none)) else (spec_Strategy.l1 k x6 x7 x8 x26 x27 x63 x64 (wrap64 (x65 + 1)) x527000 x527001 x527002 x528000 x528001)) else (none)) else (none)) else (none)) else (none)) else (spec_Strategy.l0 k x6 x7 x26 (wrap64 (x27 + 1)) x527000 x527001 x527002 x528000 x528001)
end
def spec_Strategy.f (k : Nat) (l0_0 : List ByteArray) (l0_1 : List Bool) (l0_2 : List (List Int)) (l1_0 : List ByteArray) (l1_1 : List ByteArray) : Option (List Int × Bool) := (spec_GoodBoard.f k l0_0 l0_1 l0_2).bind fun t528 => (if t528 = true then ((spec_l22Good.f k l1_0 l1_1).bind fun t529 => (spec_Strategy.j0 k (!t529) l0_0 l0_1 l0_2 l1_0 l1_1)) else (spec_Strategy.j0 k true l0_0 l0_1 l0_2 l1_0 l1_1))
/-! ### impl_Strategy: function 26 -/
mutual
def impl_Strategy.j0 : Nat → Bool → List ByteArray → List Bool → List (List Int) → List ByteArray → List ByteArray → Option (List Int × Bool)
  | 0, _, _, _, _, _, _ => none
  | k + 1, x20, x550000, x550001, x550002, x551000, x551001 => if x20 = true then (some (([] : List Int), false)) else ((impl_Board_wins.f k x550000 x550001 x550002 x551000 x551001).bind fun t553 => (impl_Strategy.l0 k t553 ([] : List Int) t553 (t553.length : Int) 0 x550000 x550001 x550002 x551000 x551001))
def impl_Strategy.l0 : Nat → List Int → List Int → List Int → Int → Int → List ByteArray → List Bool → List (List Int) → List ByteArray → List ByteArray → Option (List Int × Bool)
  | 0, _, _, _, _, _, _, _, _, _, _ => none
  | k + 1, x6, x7, x24, x25, x26, x550000, x550001, x550002, x551000, x551001 => if x26 < x25 then (if 0 ≤ x26 then (if x26 < (x24.length : Int) then (if x26 < (x550001.length : Int) then (if rdOf false x550001 x26 = true then (if (rd x24 x26) ≥ 0 then ((impl_Board_aims.f k x550000 x550001 x550002 x551000 x551001 x26).bind fun t558 => (impl_Strategy.j2 k x6 x7 x26 (-1) x24 x25 x26 (!t558) x550000 x550001 x550002 x551000 x551001)) else (impl_Strategy.j2 k x6 x7 x26 (-1) x24 x25 x26 false x550000 x550001 x550002 x551000 x551001)) else (impl_Strategy.j2 k x6 x7 x26 (-1) x24 x25 x26 false x550000 x550001 x550002 x551000 x551001)) else (none)) else (none)) else (none)) else (some (x7, true))
def impl_Strategy.j2 : Nat → List Int → List Int → Int → Int → List Int → Int → Int → Bool → List ByteArray → List Bool → List (List Int) → List ByteArray → List ByteArray → Option (List Int × Bool)
  | 0, _, _, _, _, _, _, _, _, _, _, _, _, _ => none
  | k + 1, x6, x7, x8, x10, x24, x25, x26, x46, x550000, x550001, x550002, x551000, x551001 => if x46 = true then (if 0 ≤ x8 then (if x8 < (x550002.length : Int) then (impl_Strategy.l1 k x6 x7 x10 x24 x25 x26 (rd_L3 x550002 x8) ((rd_L3 x550002 x8).length : Int) 0 x550000 x550001 x550002 x551000 x551001) else (none)) else (none)) else (if x7.length < 17592186044416 then (impl_Strategy.l0 k x6 (x7 ++ [x10]) x24 x25 (wrap64 (x26 + 1)) x550000 x550001 x550002 x551000 x551001) else (none))
def impl_Strategy.l1 : Nat → List Int → List Int → Int → List Int → Int → Int → List Int → Int → Int → List ByteArray → List Bool → List (List Int) → List ByteArray → List ByteArray → Option (List Int × Bool)
  | 0, _, _, _, _, _, _, _, _, _, _, _, _, _, _ => none
  | k + 1, x6, x7, x10, x24, x25, x26, x51, x52, x53, x550000, x550001, x550002, x551000, x551001 => if x53 < x52 then (if 0 ≤ x53 then (if x53 < (x51.length : Int) then (if 0 ≤ (rd x51 x53) then (if (rd x51 x53) < (x6.length : Int) then (if (rd x6 (rd x51 x53)) ≥ 0 then (if x10 < 0 then (impl_Strategy.l1 k x6 x7 (rd x51 x53) x24 x25 x26 x51 x52 (wrap64 (x53 + 1)) x550000 x550001 x550002 x551000 x551001) else (if 0 ≤ x10 then (if x10 < (x6.length : Int) then (if (rd x6 (rd x51 x53)) < (rd x6 x10) then (impl_Strategy.l1 k x6 x7 (rd x51 x53) x24 x25 x26 x51 x52 (wrap64 (x53 + 1)) x550000 x550001 x550002 x551000 x551001) else (impl_Strategy.l1 k x6 x7 x10 x24 x25 x26 x51 x52 (wrap64 (x53 + 1)) x550000 x550001 x550002 x551000 x551001)) else (none)) else (none))) else (impl_Strategy.l1 k x6 x7 x10 x24 x25 x26 x51 x52 (wrap64 (x53 + 1)) x550000 x550001 x550002 x551000 x551001)) else (none)) else (none)) else (none)) else (none)) else (if x7.length < 17592186044416 then (impl_Strategy.l0 k x6 (x7 ++ [x10]) x24 x25 (wrap64 (x26 + 1)) x550000 x550001 x550002 x551000 x551001) else (none))
end
def impl_Strategy.f (k : Nat) (l0_0 : List ByteArray) (l0_1 : List Bool) (l0_2 : List (List Int)) (l1_0 : List ByteArray) (l1_1 : List ByteArray) : Option (List Int × Bool) := (impl_GoodBoard.f k l0_0 l0_1 l0_2).bind fun t551 => (if t551 = true then ((impl_goodWish.f l1_0 l1_1).bind fun t552 => (impl_Strategy.j0 k (!t552) l0_0 l0_1 l0_2 l1_0 l1_1)) else (impl_Strategy.j0 k true l0_0 l0_1 l0_2 l1_0 l1_1))
/-! ### spec_PlayBoard: function 39 -/
/-! ### impl_PlayBoard: function 40 -/
/-- A state of type 99 at block g of W; what its slices lead to came in by w0. -/
def IsS99 (w0 W : World) (g : Nat) (f0 : List Int) (f1 : Int) (f2 : Int) : Prop := ∃ A0 c0, W.heap[g]? = some (.cells #[.slice A0 f0.length c0, .int .i64 f1, .int .u64 f2] 99 (0, 0)) ∧ w0.heap.size ≤ g ∧ Kd.C (Kd.int .u8) w0 A0 f0.length f0
theorem IsS99.grown {w0 W : World} {g : Nat} {f0 : List Int} {f1 : Int} {f2 : Int} {W1 : World} {row : Option Nat} (h : IsS99 w0 W g f0 f1 f2) (hw : W.grownBy W1 row) (hne : some g ≠ row) : IsS99 w0 W1 g f0 f1 f2 := by
  obtain ⟨A0, c0, hb, hg, hr0⟩ := h; exact ⟨A0, c0, blk_grown hb hw hne, hg, hr0⟩
theorem IsS99.kept {w0 W : World} {g : Nat} {f0 : List Int} {f1 : Int} {f2 : Int} {W1 : World} {S : Nat → Prop} (h : IsS99 w0 W g f0 f1 f2) (hk : Kept W W1 S) (hne : ¬ S g) : IsS99 w0 W1 g f0 f1 f2 := by
  obtain ⟨A0, c0, hb, hg, hr0⟩ := h; exact ⟨A0, c0, blk_kept hb hk hne, hg, hr0⟩
theorem IsS99.below {w0 W : World} {g : Nat} {f0 : List Int} {f1 : Int} {f2 : Int} {W1 : World} (h : IsS99 w0 W g f0 f1 f2) (hw : Below W.heap.size W W1) : IsS99 w0 W1 g f0 f1 f2 := h.grown (grown_of_below hw none) (by simp)
theorem IsS99.alloc {w0 W : World} {g : Nat} {f0 : List Int} {f1 : Int} {f2 : Int} (h : IsS99 w0 W g f0 f1 f2) (o : Obj) : IsS99 w0 (W.alloc o) g f0 f1 f2 := h.below (below_alloc (Below.refl _ _) o)
theorem IsS99.drewN {w0 W : World} {g : Nat} {f0 : List Int} {f1 : Int} {f2 : Int} (h : IsS99 w0 W g f0 f1 f2) (m : Nat) : IsS99 w0 (W.drewN m) g f0 f1 f2 := h
theorem IsS99.drew {w0 W : World} {g : Nat} {f0 : List Int} {f1 : Int} {f2 : Int} (h : IsS99 w0 W g f0 f1 f2) : IsS99 w0 W.drew g f0 f1 f2 := h
theorem IsS99.at_ {w0 W : World} {g : Nat} {f0 : List Int} {f1 : Int} {f2 : Int} {w' : World} {m : Nat} (hq : W.drewN m = w') (h : IsS99 w0 W g f0 f1 f2) : IsS99 w0 w' g f0 f1 f2 := by subst hq; exact IsS99.drewN h m
theorem IsS99.apart {w0 W : World} {g : Nat} {f0 : List Int} {f1 : Int} {f2 : Int} {α : Type} {d : Kd α} {e : Nat} {base : Nat} {ok : Nat → Prop} {v : Value} {xs : List α} (h : IsS99 w0 W g f0 f1 f2) (ho : d.R e W base ok v xs) (ht : ∀ q, q ∈ e :: d.E → q ≠ 99) : d.R e W base (fun k => ok k ∧ k ≠ g) v xs := by
  obtain ⟨A0, c0, hb, hg, hr0⟩ := h; exact Kd.R_types ho hb ht
theorem IsS99.own_ne {w0 W : World} {g : Nat} {f0 : List Int} {f1 : Int} {f2 : Int} {α : Type} {d : Kd α} {e : Nat} {base : Nat} {ok : Nat → Prop} {v : Value} {xs : List α} (h : IsS99 w0 W g f0 f1 f2) (ho : d.R e W base ok v xs) (ht : e ≠ 99) : some g ≠ v.ownBlock := by
  obtain ⟨A0, c0, hb, hg, hr0⟩ := h; exact Kd.R_ne ho hb ht
theorem IsS99.far {w0 W : World} {g : Nat} {f0 : List Int} {f1 : Int} {f2 : Int} {p : Addr} (h : IsS99 w0 W g f0 f1 f2) (hne : g ≠ p.block) (u : Value) : IsS99 w0 (W.setCell p u) g f0 f1 f2 := by
  obtain ⟨A0, c0, hb, hg, hr0⟩ := h; exact ⟨A0, c0, blk_far hb hne u, hg, hr0⟩
theorem IsS99.new (w0 W : World) (A0 : Option Addr) (c0 : Nat) (f0 : List Int) (f1 : Int) (f2 : Int) (hB : Below w0.heap.size w0 W) (hr0 : Kd.C (Kd.int .u8) w0 A0 f0.length f0) : IsS99 w0 (W.alloc (.cells #[.slice A0 f0.length c0, .int .i64 f1, .int .u64 f2] 99)) W.heap.size f0 f1 f2 := ⟨A0, c0, by simpa using heap_alloc_new W _, hB.size, hr0⟩

/-! ### spec_l1Cur_next: function 102 -/
/-! ### spec_l1Cur_pick: function 82 -/
/-! ### spec_l1Cur_of: function 84 -/
/-! ### spec_l1Cur_name: function 107 -/
/-! ### spec_l1Cur_one: function 108 -/
/-! ### spec_l1Cur_names: function 101 -/
/-! ### spec_l1Cur_wish: function 80 -/
/-! ### spec_l1Cur_among: function 109 -/
/-! ### spec_l1Cur_board: function 103 -/
/-! ### spec_DrawWinningPlaces: function 85 -/
/-! ### spec_DrawStrategy: function 44 -/
/-! ### spec_SameInts: function 45 -/
/-! ### spec_SomeChoices: function 46 -/
/-! ### laws_FnWin: function 11 -/
end Go.Proofs.YtdihodboopeakaaDoor.Pr
/-
  DERIVED: THE SHELF's CONTRACTS AT THIS DUMP, IN PLAIN WORDS (tools/lay-plain.mjs out of 'YtdihodboopeakaaDoorSxb.lean', which tools/lay-shelf.mjs wrote): THE SAME DECLARATIONS UNDER THE SAME NAMES: 'import', 'namespace', 'open', 'def', 'theorem' AND NOTHING ELSE: no command of the shelf's: FOR A HAND-IN. Each laying: the table of numbers ('.._ren') and one theorem, a field a fact of the dump's own or the kernel's comparison; each contract: ONE APPLICATION.
-/
namespace Go.Proofs
open Go.Shelf
def Tryd.laysNm215_ren : Go.Shelf.Ren := ⟨fun | 15 => 89 | n => n, fun | 22 => 31 | 3 => 3 | 4 => 4 | n => n, fun | n => n⟩
theorem Tryd.laysNm215 : Go.Proofs.Lays2.n15 Tryd.prog Tryd.laysNm215_ren := {
  mixed := by kernel_rfl
  f15 := Tryd.func89.trans (congrArg some (by kernel_rfl))
  t3 := Tryd.underlying3
  a3 := Tryd.isAgg3
  z3 := Tryd.sizeOf3
  v3 := Tryd.zeroValue3
  t4 := Tryd.underlying4
  a4 := Tryd.isAgg4
  z4 := Tryd.sizeOf4
  v4 := Tryd.zeroValue4
  t22 := Tryd.underlying31
  a22 := Tryd.isAgg31
  z22 := Tryd.sizeOf31
  v22 := Tryd.zeroValue31
  i3 := by kernel_rfl }
open Go.RowKit Go.Lib in
theorem Tryd.slices_Clone_int (b off n c : Nat) (zs : List Int) (w : World) (hz : n ≤ zs.length) (hbig : n * 8 ≤ 140737488355328) (hc : ∀ j, j < zs.length → w.cell? ⟨b, off + j, none⟩ = some (.int .i64 (zs.getD j 0))) :
    Calls Tryd.prog 89 #[.slice (some ⟨b, off, none⟩) n c] w fun e w' => ∃ v', e = .returned v' ∧ w'.ownsRow w.heap.size 3 1 v' n ((zs.take n).map (Value.int .i64)) ∧ v' ≠ .slice none 0 0 ∧ Below w.heap.size w w' := Any.slices_Clone_int Tryd.laysNm215 b off n c zs w hz hbig hc
open Go.RowKit Go.Lib in
theorem Tryd.slices_Clone_int_nil (n c : Nat) (w : World) :
    Calls Tryd.prog 89 #[.slice none n c] w fun e w' => e = .returned (.slice none 0 0) ∧ w' = w := Any.slices_Clone_int_nil Tryd.laysNm215 n c w
open Go.RowKit Go.Lib in
theorem Tryd.slices_Clone_int_zero (a : Addr) (c : Nat) (w : World) :
    Calls Tryd.prog 89 #[.slice (some a) 0 c] w fun e w' => ∃ v', e = .returned v' ∧ w'.ownsRow w.heap.size 3 1 v' 0 [] ∧ v' ≠ .slice none 0 0 ∧ Below w.heap.size w w' := Any.slices_Clone_int_zero Tryd.laysNm215 a c w
end Go.Proofs
/- slices.Clone at []int, by the library's contract. -/
namespace Go.Proofs.YtdihodboopeakaaDoor.Pr
open Go.RowKit Go.Proofs.YtdihodboopeakaaDoorW.PrintWords Go.Proofs.YtdihodboopeakaaDoorW.PrintLast Go.Proofs.YtdihodboopeakaaDoorW.PrintMore
set_option linter.unusedVariables false
theorem slices_Clone_int_int.calls (A0 : Option Addr) (c0 : Nat) (l0 : List Int) (r : List Int) (w : World) (hr0 : Kd.C (Kd.int .i64) w A0 l0.length l0) (hc0 : l0.length ≤ c0) (h : slices_Clone_int_int.f l0 = some r) :
    Calls Tryd.prog 89 #[.slice A0 l0.length c0] w fun e w' => ∃ v0_ : Value, e = .returned (v0_) ∧ Kd.R (Kd.int .i64) 3 w' w.heap.size (fun _ => True) v0_ r ∧ Below w.heap.size w w' := by
  unfold slices_Clone_int_int.f at h; by_cases hs : l0.length * 8 ≤ 140737488355328
  case neg => rw [if_neg hs] at h; cases h
  rw [if_pos hs] at h
  injection h with h
  subst h
  rcases A0 with _ | ad
  · have hl : l0 = [] := by
      rcases Nat.eq_zero_or_pos l0.length with e | e
      · exact List.eq_nil_of_length_eq_zero e
      · obtain ⟨ad, h', _⟩ := hr0.2.2 e
        cases h'
    subst hl; (refine (Tryd.slices_Clone_int_nil _ _ w).mono fun e w' ⟨h1, h2⟩ => ?_); subst h2; exact ⟨_, h1, Kd.R_nil _ _ _ _ _, Below.refl _ _⟩
  · rcases Nat.eq_zero_or_pos l0.length with e0 | e0
    · obtain rfl : l0 = [] := List.eq_nil_of_length_eq_zero e0
      (refine (Tryd.slices_Clone_int_zero ad _ w).mono fun e w' ⟨v, h1, h2, _, h4⟩ => ?_); exact ⟨v, h1, Kd.R_of_own (enc := Value.int .i64) (h1 := fun _ => rfl) (xs := ([] : List Int)) h2 (fun _ _ => trivial), h4⟩
    · have hR := Kd.reads_of_C (enc := Value.int .i64) (d := (0 : Int)) (h1 := fun _ => rfl) hr0
      obtain ⟨ad', e1, hc⟩ := hR.2.2 e0
      injection e1 with e1
      subst e1
      have hsp : ad.spot = none := by
        have h1 := hc 0 e0; (have h2 : ad.add 0 = ad := by unfold Addr.add; rw [if_pos rfl]); rw [h2] at h1; unfold World.cell? at h1
        cases hh : ad.spot with
        | none => rfl
        | some x =>
          exfalso
          split at h1
          · rw [hh] at h1
            simp at h1
          · cases h1
      obtain ⟨b, off, sp⟩ := ad
      simp only at hsp
      subst hsp
      have hcells : ∀ j, j < l0.length → w.cell? ⟨b, off + j, none⟩ = some (.int .i64 (l0.getD j 0)) := fun j hj => by
        have h1 := hc j hj
        have h2 : (⟨b, off, none⟩ : Addr).add j = ⟨b, off + j, none⟩ := by unfold Addr.add; split <;> simp_all
        rw [h2] at h1; exact h1
      (refine (Tryd.slices_Clone_int b off l0.length c0 l0 w (Nat.le_refl _) hs hcells).mono fun e w' ⟨v, h1, h2, _, h4⟩ => ?_); rw [List.take_of_length_le (Nat.le_refl _)] at h2; exact ⟨v, h1, Kd.R_of_own (enc := Value.int .i64) (h1 := fun _ => rfl) h2 (fun _ _ => trivial), h4⟩
end Go.Proofs.YtdihodboopeakaaDoor.Pr
