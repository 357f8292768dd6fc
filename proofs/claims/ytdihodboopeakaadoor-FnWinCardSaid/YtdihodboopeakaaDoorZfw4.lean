-- Joined and pruned by wip/tools/prune.py out of this session's own texts (Pr17, Pr18)
import Derived.Test.YtdihodboopeakaaDoorZfw3
namespace Go.Proofs.YtdihodboopeakaaDoor.Pr
open Go.RowKit Go.Proofs.YtdihodboopeakaaDoorW.PrintWords Go.Proofs.YtdihodboopeakaaDoorW.PrintLast Go.Proofs.YtdihodboopeakaaDoorW.PrintMore
attribute [local go_sem] max2_int min2_int max_two min_two max_three min_three max_four min_four
set_option linter.unusedVariables false
set_option linter.unusedSimpArgs false

def impl_Board_aims.T1 : Bool × List (List Nat × List Nat):=(true,[([],[]),([0],[0]),([],[]),([2],[2]),([],[]),([3,4],[3,4]),([5],[5]),([1,6],[1,6]),([7,7],[7]),([8],[8]),([8],[8]),([8],[8]),([9,10,11,8,8],[8,9,10,11]),([12,8],[8,12]),([8,13],[8,13]),([14,12,0,1,2,3,4,5,6,7,8,9,10,11,12,13,14],[14])])
def impl_Board_aims.B1 : List Nat:=[0,1,0,4,0,28,60,127,255,511,511,511,4095,8191,16383,32767]
theorem impl_Board_aims.tab1 : rtab .any (opsOf Tryd.f63 1) = impl_Board_aims.T1:=by kernel_rfl
theorem impl_Board_aims.bits1 : waitsOk impl_Board_aims.T1.2 impl_Board_aims.B1 = true:=by kernel_rfl
set_option maxHeartbeats 8000000 in
set_option maxRecDepth 100000 in
theorem impl_Board_aims.calls (k : Nat) (j3 : Option Addr) (c0_0 : Nat) (z1 : List ByteArray) (j0 : Option Addr) (c0_1 : Nat) (z5 : List Bool) (j1 : Option Addr) (c0_2 : Nat) (z6 : List (List Int)) (j2 : Option Addr) (c1_0 : Nat) (z4 : List ByteArray) (j5 : Option Addr) (c1_1 : Nat) (z9 : List ByteArray) (a2 : Int) (r : Bool) (w : World) (hr0_0 : Kd.C Kd.string w j3 z1.length z1) (hc0_0 : z1.length ≤ c0_0) (hr0_1 : Kd.C Kd.bool w j0 z5.length z5) (hc0_1 : z5.length ≤ c0_1) (hr0_2 : Kd.C (Kd.slice 3 (Kd.int .i64)) w j1 z6.length z6) (hc0_2 : z6.length ≤ c0_2) (hr1_0 : Kd.C Kd.string w j2 z4.length z4) (hc1_0 : z4.length ≤ c1_0) (hr1_1 : Kd.C Kd.string w j5 z9.length z9) (hc1_1 : z9.length ≤ c1_1) (h : impl_Board_aims.f k z1 z5 z6 z4 z9 a2 = some r) :
   Calls Tryd.prog 63 #[.agg #[.slice j3 z1.length c0_0,.slice j0 z5.length c0_1,.slice j1 z6.length c0_2],.agg #[.slice j2 z4.length c1_0,.slice j5 z9.length c1_1],.int .i64 a2] w fun e w' => e = .returned (.bool r) ∧ Below w.heap.size w w':=by
  have za6:=Tryd.underlying34;have za7:=Tryd.underlying36;have r1:=Aside0.mk hr0_0;have r8:=Aside0.mk hc0_0;clear hr0_0 hc0_0;have r9:=Aside0.mk hr0_1;have m0:=Aside0.mk hc0_1;clear hr0_1 hc0_1;have m1:=Aside0.mk hr0_2;have m2:=Aside0.mk hc0_2;clear hr0_2 hc0_2;have r2:=Aside0.mk hr1_0;have r3:=Aside0.mk hc1_0;clear hr1_0 hc1_0;have m3:=Aside0.mk hr1_1;have m4:=Aside0.mk hc1_1;clear hr1_1 hc1_1;have HB:=ak (Below.refl w.heap.size w);have H : (if 0 ≤ a2 then (if a2 < (z1.length : Int) then ((slices_Contains_string_string.f k z4 (rdOf ByteArray.empty z1 a2)).bind fun r4 => (if r4 = true then ((impl_Board_shuns.f k z1 z5 z6 z4 z9 a2).bind fun r0 => (some (!r0))) else (some false))) else (none)) else (none)) = some r:=h;clear h;by_cases c4 : 0 ≤ a2
  ·rw [if_pos c4] at H
   have za8 : decide (0 ≤ a2) = true:=decide_eq_true c4;clear c4;by_cases c5 : a2 < (z1.length : Int)
   ·rw [if_pos c5] at H
    have za9 : decide (a2 < (z1.length : Int)) = true:=decide_eq_true c5;clear c5;replace H:=Option.bind_eq_some_iff.mp H;obtain ⟨r4,A60,H⟩:=H;replace H : (if r4 = true then ((impl_Board_shuns.f k z1 z5 z6 z4 z9 a2).bind fun r0 => (some (!r0))) else (some false)) = some r:=H;have A6:=Aside0.mk A60;clear A60;by_cases c7 : r4 = true
    ·subst c7
     rw [if_pos rfl] at H;replace H:=Option.bind_eq_some_iff.mp H;obtain ⟨r0,A80,H⟩:=H;replace H : (some (!r0)) = some r:=H;have A8:=Aside0.mk A80;clear A80
     obtain rfl:=Option.some.inj H
     go_enter Tryd.func63,Tryd.ntmps63;(try go_wp2_with (first | ((with_reducible refine gate_dst (N:=3) rfl ?_);refine box_event ?hg (N:=3) ?hd (cs:=#[.slice j3 z1.length c0_0,.slice j0 z5.length c0_1,.slice j1 z6.length c0_2]) (t:=34) ?hr ?_;(case hd => rfl);(case hg => rfl);(case hr => first | (go_simp;done) | (go_simp;rfl));intro z2 hg w9 hbox hb;have z0:=ak (hbox);have m5 : Aside0 (w.heap.size ≤ z2):=gz_;have m6 : Aside0 (w.heap.size ≤ z2):=gz_;replace HB:=ak (below_step hb_ hb);clear hb hbox hg) | ((with_reducible refine gate_dst (N:=4) rfl ?_);refine box_event ?hg (N:=4) ?hd (cs:=#[.slice j2 z4.length c1_0,.slice j5 z9.length c1_1]) (t:=36) ?hr ?_;(case hd => rfl);(case hg => rfl);(case hr => first | (go_simp;done) | (go_simp;rfl));intro z7 hg w10 hbox hb;have z3:=ak (hbox);have m7 : Aside0 (w.heap.size ≤ z7):=gz_;have m8 : Aside0 (w.heap.size ≤ z7):=gz_;have r5:=ak ((by rw [hg];exact Nat.ne_of_lt (blk_lt (g:=z2) (o:=.cells #[.slice j3 z1.length c0_0,.slice j0 z5.length c0_1,.slice j1 z6.length c0_2] 34 (0,0)) (bk_ z0.out)) : z2 ≠ z7));have r6:=ak ((by rw [hg];exact Nat.ne_of_gt (blk_lt (g:=z2) (o:=.cells #[.slice j3 z1.length c0_0,.slice j0 z5.length c0_1,.slice j1 z6.length c0_2] 34 (0,0)) (bk_ z0.out)) : z7 ≠ z2));replace z0:=bb_ z0 hb;replace HB:=ak (below_step hb_ hb);clear hb hbox hg)));replace z0:=ak (blk_drew z0.out);replace z3:=ak (blk_drew z3.out);replace HB:=ak (below_drew1 HB.out);have j6 : 0 ≤ (a2 : Int):=of_decide_eq_true as_;have j7 : a2 < (z1.length : Int):=of_decide_eq_true as_;obtain ⟨j4,e255,z8⟩:=Kd.at_string r1.out a2 j6 j7;have hw255_0:=z8;cases e255;replace z8:=hc_ HB z8;replace j6:=eq_true j6;replace j7:=eq_true j7;refine start_ (n:=16) (S:=fun w' => w'.cell? ⟨z7,0,none⟩ = some (.slice j2 z4.length c1_0) ∧ w'.cell? ⟨z7,1,none⟩ = some (.slice j5 z9.length c1_1) ∧ w'.cell? ⟨z2,0,none⟩ = some (.slice (some j4) z1.length c0_0) ∧ w'.cell? ⟨z2,1,none⟩ = some (.slice j0 z5.length c0_1) ∧ w'.cell? ⟨z2,2,none⟩ = some (.slice j1 z6.length c0_2) ∧ w'.cell? (j4.add (a2).toNat) = some (.string (rdOf ByteArray.empty z1 a2))) (ds:=[]) #[false,false,false,false,false,false,false,false,false,false,false,false,false,false,false,false] (by kernel_rfl) rfl rfl ⟨(blk_cell z3.out 0).trans rfl,(blk_cell z3.out 1).trans rfl,(blk_cell z0.out 0).trans rfl,(blk_cell z0.out 1).trans rfl,(blk_cell z0.out 2).trans rfl,((HB.out.cell (World.block_lt_of_cell? w _ hw255_0)).trans hw255_0)⟩ (fun hHeld => ?_);refine with_tabW impl_Board_aims.tab1 impl_Board_aims.bits1 (fun HT_ HW_ => ?_);generalize w10.drew = w11 at z0 z3 HB z8 hHeld ⊢;refine pure_ (i:=0) (N:=some 7) (v:=?_) (a':=?_) #[true,false,false,false,false,false,false,false,false,false,false,false,false,false,false,false] rfl rfl (any_of HT_.out (by kernel_rfl)) (fun _ _ _ h => h) (Or.inl ⟨by rfl,?_⟩) ?_ ?_;rotate_left
     ·intro w'
      go_simp
      with_reducible rfl
     rotate_left
     ·simp only [Act.put,List.setIfInBounds_toArray,List.set_cons_zero,List.set_cons_succ,i64_w,i32_w]
      rfl
     refine pure_ (i:=2) (N:=some 9) (v:=?_) (a':=?_) #[true,false,true,false,false,false,false,false,false,false,false,false,false,false,false,false] rfl rfl (any_of HT_.out (by kernel_rfl)) (fun _ _ _ h => h) (Or.inl ⟨by rfl,?_⟩) ?_ ?_;rotate_left
     ·intro w'
      go_simp
      with_reducible rfl
     rotate_left
     ·simp only [Act.put,List.setIfInBounds_toArray,List.set_cons_zero,List.set_cons_succ,i64_w,i32_w]
      rfl
     refine pure_ (i:=4) (N:=some 11) (v:=?_) (a':=?_) #[true,false,true,false,true,false,false,false,false,false,false,false,false,false,false,false] rfl rfl (any_of HT_.out (by kernel_rfl)) (fun _ _ _ h => h) (Or.inl ⟨by rfl,?_⟩) ?_ ?_;rotate_left
     ·intro w'
      go_simp
      with_reducible rfl
     rotate_left
     ·simp only [Act.put,List.setIfInBounds_toArray,List.set_cons_zero,List.set_cons_succ,i64_w,i32_w]
      rfl
     refine take_ (i:=1) (N:=some 8) (v:=?_) (a':=?_) #[true,true,true,false,true,false,false,false,false,false,false,false,false,false,false,false] rfl rfl (take_ofW HT_.out HW_.out (by kernel_rfl)) (fun _ _ _ h => h) (Or.inl ⟨by rfl,?_⟩) hHeld ?_ ?_;rotate_left
     ·rintro w' ⟨s0,s1,s2,s3,s4,s5⟩
      go_simp
      with_reducible rfl
     rotate_left
     ·simp only [Act.put,List.setIfInBounds_toArray,List.set_cons_zero,List.set_cons_succ,i64_w,i32_w]
      rfl
     refine take_ (i:=3) (N:=some 10) (v:=?_) (a':=?_) #[true,true,true,true,true,false,false,false,false,false,false,false,false,false,false,false] rfl rfl (take_ofW HT_.out HW_.out (by kernel_rfl)) (fun _ _ _ h => h) (Or.inl ⟨by rfl,?_⟩) hHeld ?_ ?_;rotate_left
     ·rintro w' ⟨s0,s1,s2,s3,s4,s5⟩
      go_simp
      with_reducible rfl
     rotate_left
     ·simp only [Act.put,List.setIfInBounds_toArray,List.set_cons_zero,List.set_cons_succ,i64_w,i32_w]
      rfl
     refine pure_ (i:=5) (N:=some 12) (v:=?_) (a':=?_) #[true,true,true,true,true,true,false,false,false,false,false,false,false,false,false,false] rfl rfl (any_of HT_.out (by kernel_rfl)) (fun _ _ _ h => h) (Or.inl ⟨by rfl,?_⟩) ?_ ?_;rotate_left
     ·intro w'
      go_simp
      with_reducible rfl
     rotate_left
     ·simp only [Act.put,List.setIfInBounds_toArray,List.set_cons_zero,List.set_cons_succ,i64_w,i32_w]
      rfl
     refine take_ (i:=6) (N:=some 13) (v:=?_) (a':=?_) #[true,true,true,true,true,true,true,false,false,false,false,false,false,false,false,false] rfl rfl (take_ofW HT_.out HW_.out (by kernel_rfl)) (fun _ _ _ h => h) (Or.inl ⟨by rfl,?_⟩) hHeld ?_ ?_;rotate_left
     ·rintro w' ⟨s0,s1,s2,s3,s4,s5⟩
      go_simp
      with_reducible rfl
     rotate_left
     ·simp only [Act.put,List.setIfInBounds_toArray,List.set_cons_zero,List.set_cons_succ,i64_w,i32_w]
      rfl
     refine one_ (i:=7) (N:=some 14) #[true,true,true,true,true,true,true,true,false,false,false,false,false,false,false,false] rfl rfl (one_of HT_.out (by kernel_rfl)) (by decide) (fun K hK => ?_);refine goes_ Tryd.func73 (by kernel_rfl) rfl #[.slice j2 z4.length c1_0,.string (rdOf ByteArray.empty z1 a2)] (by rfl) rfl rfl ls_ ?_
     with_reducible refine (slices_Contains_string_string.calls k _ _ z4 (rdOf ByteArray.empty z1 a2) true _ ?j8 ?j9 A6.out).mono ?_
     (case j8 => exact cb_ r2.out);(case j9 => exact r3.out);rintro e w' ⟨rfl,⟨nd,rfl⟩⟩;refine ⟨_,rfl,?_⟩;refine hK.out _ _ ⟨(blk_cell z3.out 0).trans rfl,(blk_cell z3.out 1).trans rfl,(blk_cell z0.out 0).trans rfl,(blk_cell z0.out 1).trans rfl,(blk_cell z0.out 2).trans rfl,((HB.out.cell (World.block_lt_of_cell? w _ hw255_0)).trans hw255_0)⟩ (fun hHeld => ?_);clear hK K;refine norm_ (a':=?_) ?_ ?_;rotate_left
     ·show Act.put _ (some 14) _ = _
      simp only [Act.put,List.setIfInBounds_toArray,List.set_cons_zero,List.set_cons_succ,i64_w,i32_w]
      rfl
     refine pure_ (i:=8) (N:=some 15) (v:=?_) (a':=?_) #[true,true,true,true,true,true,true,true,true,false,false,false,false,false,false,false] rfl rfl (any_of HT_.out (by kernel_rfl)) (fun _ _ _ h => h) (Or.inl ⟨by rfl,?_⟩) ?_ ?_;rotate_left
     ·intro w'
      go_simp
      with_reducible rfl
     rotate_left
     ·simp only [Act.put,List.setIfInBounds_toArray,List.set_cons_zero,List.set_cons_succ,i64_w,i32_w]
      rfl
     refine pure_ (i:=11) (N:=some 18) (v:=?_) (a':=?_) #[true,true,true,true,true,true,true,true,true,false,false,true,false,false,false,false] rfl rfl (any_of HT_.out (by kernel_rfl)) (fun _ _ _ h => h) (Or.inl ⟨by rfl,?_⟩) ?_ ?_;rotate_left
     ·intro w'
      go_simp
      with_reducible rfl
     rotate_left
     ·simp only [Act.put,List.setIfInBounds_toArray,List.set_cons_zero,List.set_cons_succ,i64_w,i32_w]
      rfl
     refine take_ (i:=9) (N:=some 16) (v:=?_) (a':=?_) #[true,true,true,true,true,true,true,true,true,true,false,true,false,false,false,false] rfl rfl (take_ofW HT_.out HW_.out (by kernel_rfl)) (fun _ _ _ h => h) (Or.inl ⟨by rfl,?_⟩) hHeld ?_ ?_;rotate_left
     ·rintro w' ⟨s0,s1,s2,s3,s4,s5⟩
      go_simp
      with_reducible rfl
     rotate_left
     ·simp only [Act.put,List.setIfInBounds_toArray,List.set_cons_zero,List.set_cons_succ,i64_w,i32_w]
      rfl
     refine take_ (i:=10) (N:=some 17) (v:=?_) (a':=?_) #[true,true,true,true,true,true,true,true,true,true,true,true,false,false,false,false] rfl rfl (take_ofW HT_.out HW_.out (by kernel_rfl)) (fun _ _ _ h => h) (Or.inl ⟨by rfl,?_⟩) hHeld ?_ ?_;rotate_left
     ·rintro w' ⟨s0,s1,s2,s3,s4,s5⟩
      go_simp
      with_reducible rfl
     rotate_left
     ·simp only [Act.put,List.setIfInBounds_toArray,List.set_cons_zero,List.set_cons_succ,i64_w,i32_w]
      rfl
     refine one_ (i:=12) (N:=some 19) #[true,true,true,true,true,true,true,true,true,true,true,true,true,false,false,false] rfl rfl (one_of HT_.out (by kernel_rfl)) (by decide) (fun K hK => ?_);refine goes_ Tryd.func79 (by kernel_rfl) rfl #[.agg #[.slice (some j4) z1.length c0_0,.slice j0 z5.length c0_1,.slice j1 z6.length c0_2],.agg #[.slice j2 z4.length c1_0,.slice j5 z9.length c1_1],.int .i64 a2] (by rfl) rfl rfl ls_ ?_
     with_reducible refine (impl_Board_shuns.calls k _ _ z1 _ _ z5 _ _ z6 _ _ z4 _ _ z9 a2 r0 _ ?j8 ?j9 ?m9 ?za0 ?za1 ?za2 ?za3 ?za4 ?za5 ?r7 A8.out).mono ?_
     (case j8 => repeat (first | exact (Kd.C_below r1.out hb_) | (with_reducible refine Kd.C_alloc ?_ _) | (with_reducible refine Kd.C_drewN ?_ _) | (with_reducible refine Kd.C_drew ?_)));(case j9 => exact r8.out);(case m9 => repeat (first | exact (Kd.C_below r9.out hb_) | (with_reducible refine Kd.C_alloc ?_ _) | (with_reducible refine Kd.C_drewN ?_ _) | (with_reducible refine Kd.C_drew ?_)));(case za0 => exact m0.out);(case za1 => repeat (first | exact (Kd.C_below m1.out hb_) | (with_reducible refine Kd.C_alloc ?_ _) | (with_reducible refine Kd.C_drewN ?_ _) | (with_reducible refine Kd.C_drew ?_)));(case za2 => exact m2.out);(case za3 => repeat (first | exact (Kd.C_below r2.out hb_) | (with_reducible refine Kd.C_alloc ?_ _) | (with_reducible refine Kd.C_drewN ?_ _) | (with_reducible refine Kd.C_drew ?_)));(case za4 => exact r3.out);(case za5 => repeat (first | exact (Kd.C_below m3.out hb_) | (with_reducible refine Kd.C_alloc ?_ _) | (with_reducible refine Kd.C_drewN ?_ _) | (with_reducible refine Kd.C_drew ?_)));(case r7 => exact m4.out);rintro e w12 ⟨rfl,hb⟩;refine ⟨_,rfl,?_⟩;replace z0:=bb_ z0 hb;replace z3:=bb_ z3 hb;replace HB:=ak (below_step hb_ hb);refine hK.out _ _ ⟨(blk_cell z3.out 0).trans rfl,(blk_cell z3.out 1).trans rfl,(blk_cell z0.out 0).trans rfl,(blk_cell z0.out 1).trans rfl,(blk_cell z0.out 2).trans rfl,((HB.out.cell (World.block_lt_of_cell? w _ hw255_0)).trans hw255_0)⟩ (fun hHeld => ?_);clear hK K;refine norm_ (a':=?_) ?_ ?_;rotate_left
     ·show Act.put _ (some 19) _ = _
      simp only [Act.put,List.setIfInBounds_toArray,List.set_cons_zero,List.set_cons_succ,i64_w,i32_w]
      rfl
     refine pure_ (i:=13) (N:=some 20) (v:=?_) (a':=?_) #[true,true,true,true,true,true,true,true,true,true,true,true,true,true,false,false] rfl rfl (any_of HT_.out (by kernel_rfl)) (fun _ _ _ h => h) (Or.inl ⟨by rfl,?_⟩) ?_ ?_;rotate_left
     ·intro w'
      go_simp
      with_reducible rfl
     rotate_left
     ·simp only [Act.put,List.setIfInBounds_toArray,List.set_cons_zero,List.set_cons_succ,i64_w,i32_w]
      rfl
     refine pure_ (i:=14) (N:=some 21) (v:=?_) (a':=?_) #[true,true,true,true,true,true,true,true,true,true,true,true,true,true,true,false] rfl rfl (any_of HT_.out (by kernel_rfl)) (fun _ _ _ h => h) (Or.inl ⟨by rfl,?_⟩) ?_ ?_;rotate_left
     ·intro w'
      go_simp
      with_reducible rfl
     rotate_left
     ·simp only [Act.put,List.setIfInBounds_toArray,List.set_cons_zero,List.set_cons_succ,i64_w,i32_w]
      rfl
     refine pure_ (i:=15) (N:=some 6) (v:=?_) (a':=?_) #[true,true,true,true,true,true,true,true,true,true,true,true,true,true,true,true] rfl rfl (any_of HT_.out (by kernel_rfl)) (fun _ _ _ h => h) (Or.inl ⟨by rfl,?_⟩) ?_ ?_;rotate_left
     ·intro w'
      go_simp
      with_reducible rfl
     rotate_left
     ·simp only [Act.put,List.setIfInBounds_toArray,List.set_cons_zero,List.set_cons_succ,i64_w,i32_w]
      rfl
     refine done_ (done_of HT_.out (by kernel_rfl)) ?_;(try go_wp2);go_ret;exact ⟨er_,hb_⟩
    ·replace c7:=Bool.eq_false_iff.mpr c7
     subst c7;rw [if_neg (show ¬ (false = true) by decide)] at H
     obtain rfl:=Option.some.inj H
     go_enter Tryd.func63,Tryd.ntmps63;(try go_wp2_with (first | ((with_reducible refine gate_dst (N:=3) rfl ?_);refine box_event ?hg (N:=3) ?hd (cs:=#[.slice j3 z1.length c0_0,.slice j0 z5.length c0_1,.slice j1 z6.length c0_2]) (t:=34) ?hr ?_;(case hd => rfl);(case hg => rfl);(case hr => first | (go_simp;done) | (go_simp;rfl));intro z2 hg w13 hbox hb;have z0:=ak (hbox);have m5 : Aside0 (w.heap.size ≤ z2):=gz_;have m6 : Aside0 (w.heap.size ≤ z2):=gz_;replace HB:=ak (below_step hb_ hb);clear hb hbox hg) | ((with_reducible refine gate_dst (N:=4) rfl ?_);refine box_event ?hg (N:=4) ?hd (cs:=#[.slice j2 z4.length c1_0,.slice j5 z9.length c1_1]) (t:=36) ?hr ?_;(case hd => rfl);(case hg => rfl);(case hr => first | (go_simp;done) | (go_simp;rfl));intro z7 hg w14 hbox hb;have z3:=ak (hbox);have m7 : Aside0 (w.heap.size ≤ z7):=gz_;have m8 : Aside0 (w.heap.size ≤ z7):=gz_;have r5:=ak ((by rw [hg];exact Nat.ne_of_lt (blk_lt (g:=z2) (o:=.cells #[.slice j3 z1.length c0_0,.slice j0 z5.length c0_1,.slice j1 z6.length c0_2] 34 (0,0)) (bk_ z0.out)) : z2 ≠ z7));have r6:=ak ((by rw [hg];exact Nat.ne_of_gt (blk_lt (g:=z2) (o:=.cells #[.slice j3 z1.length c0_0,.slice j0 z5.length c0_1,.slice j1 z6.length c0_2] 34 (0,0)) (bk_ z0.out)) : z7 ≠ z2));replace z0:=bb_ z0 hb;replace HB:=ak (below_step hb_ hb);clear hb hbox hg)));replace z0:=ak (blk_drew z0.out);replace z3:=ak (blk_drew z3.out);replace HB:=ak (below_drew1 HB.out);have j6 : 0 ≤ (a2 : Int):=of_decide_eq_true as_;have j7 : a2 < (z1.length : Int):=of_decide_eq_true as_;obtain ⟨j4,e255,z8⟩:=Kd.at_string r1.out a2 j6 j7;have hw255_0:=z8;cases e255;replace z8:=hc_ HB z8;replace j6:=eq_true j6;replace j7:=eq_true j7;refine start_ (n:=16) (S:=fun w' => w'.cell? ⟨z7,0,none⟩ = some (.slice j2 z4.length c1_0) ∧ w'.cell? ⟨z7,1,none⟩ = some (.slice j5 z9.length c1_1) ∧ w'.cell? ⟨z2,0,none⟩ = some (.slice (some j4) z1.length c0_0) ∧ w'.cell? ⟨z2,1,none⟩ = some (.slice j0 z5.length c0_1) ∧ w'.cell? ⟨z2,2,none⟩ = some (.slice j1 z6.length c0_2) ∧ w'.cell? (j4.add (a2).toNat) = some (.string (rdOf ByteArray.empty z1 a2))) (ds:=[]) #[false,false,false,false,false,false,false,false,false,false,false,false,false,false,false,false] (by kernel_rfl) rfl rfl ⟨(blk_cell z3.out 0).trans rfl,(blk_cell z3.out 1).trans rfl,(blk_cell z0.out 0).trans rfl,(blk_cell z0.out 1).trans rfl,(blk_cell z0.out 2).trans rfl,((HB.out.cell (World.block_lt_of_cell? w _ hw255_0)).trans hw255_0)⟩ (fun hHeld => ?_);refine with_tabW impl_Board_aims.tab1 impl_Board_aims.bits1 (fun HT_ HW_ => ?_);generalize w14.drew = w15 at z0 z3 HB z8 hHeld ⊢;refine pure_ (i:=0) (N:=some 7) (v:=?_) (a':=?_) #[true,false,false,false,false,false,false,false,false,false,false,false,false,false,false,false] rfl rfl (any_of HT_.out (by kernel_rfl)) (fun _ _ _ h => h) (Or.inl ⟨by rfl,?_⟩) ?_ ?_;rotate_left
     ·intro w'
      go_simp
      with_reducible rfl
     rotate_left
     ·simp only [Act.put,List.setIfInBounds_toArray,List.set_cons_zero,List.set_cons_succ,i64_w,i32_w]
      rfl
     refine pure_ (i:=2) (N:=some 9) (v:=?_) (a':=?_) #[true,false,true,false,false,false,false,false,false,false,false,false,false,false,false,false] rfl rfl (any_of HT_.out (by kernel_rfl)) (fun _ _ _ h => h) (Or.inl ⟨by rfl,?_⟩) ?_ ?_;rotate_left
     ·intro w'
      go_simp
      with_reducible rfl
     rotate_left
     ·simp only [Act.put,List.setIfInBounds_toArray,List.set_cons_zero,List.set_cons_succ,i64_w,i32_w]
      rfl
     refine pure_ (i:=4) (N:=some 11) (v:=?_) (a':=?_) #[true,false,true,false,true,false,false,false,false,false,false,false,false,false,false,false] rfl rfl (any_of HT_.out (by kernel_rfl)) (fun _ _ _ h => h) (Or.inl ⟨by rfl,?_⟩) ?_ ?_;rotate_left
     ·intro w'
      go_simp
      with_reducible rfl
     rotate_left
     ·simp only [Act.put,List.setIfInBounds_toArray,List.set_cons_zero,List.set_cons_succ,i64_w,i32_w]
      rfl
     refine take_ (i:=1) (N:=some 8) (v:=?_) (a':=?_) #[true,true,true,false,true,false,false,false,false,false,false,false,false,false,false,false] rfl rfl (take_ofW HT_.out HW_.out (by kernel_rfl)) (fun _ _ _ h => h) (Or.inl ⟨by rfl,?_⟩) hHeld ?_ ?_;rotate_left
     ·rintro w' ⟨s0,s1,s2,s3,s4,s5⟩
      go_simp
      with_reducible rfl
     rotate_left
     ·simp only [Act.put,List.setIfInBounds_toArray,List.set_cons_zero,List.set_cons_succ,i64_w,i32_w]
      rfl
     refine take_ (i:=3) (N:=some 10) (v:=?_) (a':=?_) #[true,true,true,true,true,false,false,false,false,false,false,false,false,false,false,false] rfl rfl (take_ofW HT_.out HW_.out (by kernel_rfl)) (fun _ _ _ h => h) (Or.inl ⟨by rfl,?_⟩) hHeld ?_ ?_;rotate_left
     ·rintro w' ⟨s0,s1,s2,s3,s4,s5⟩
      go_simp
      with_reducible rfl
     rotate_left
     ·simp only [Act.put,List.setIfInBounds_toArray,List.set_cons_zero,List.set_cons_succ,i64_w,i32_w]
      rfl
     refine pure_ (i:=5) (N:=some 12) (v:=?_) (a':=?_) #[true,true,true,true,true,true,false,false,false,false,false,false,false,false,false,false] rfl rfl (any_of HT_.out (by kernel_rfl)) (fun _ _ _ h => h) (Or.inl ⟨by rfl,?_⟩) ?_ ?_;rotate_left
     ·intro w'
      go_simp
      with_reducible rfl
     rotate_left
     ·simp only [Act.put,List.setIfInBounds_toArray,List.set_cons_zero,List.set_cons_succ,i64_w,i32_w]
      rfl
     refine take_ (i:=6) (N:=some 13) (v:=?_) (a':=?_) #[true,true,true,true,true,true,true,false,false,false,false,false,false,false,false,false] rfl rfl (take_ofW HT_.out HW_.out (by kernel_rfl)) (fun _ _ _ h => h) (Or.inl ⟨by rfl,?_⟩) hHeld ?_ ?_;rotate_left
     ·rintro w' ⟨s0,s1,s2,s3,s4,s5⟩
      go_simp
      with_reducible rfl
     rotate_left
     ·simp only [Act.put,List.setIfInBounds_toArray,List.set_cons_zero,List.set_cons_succ,i64_w,i32_w]
      rfl
     refine one_ (i:=7) (N:=some 14) #[true,true,true,true,true,true,true,true,false,false,false,false,false,false,false,false] rfl rfl (one_of HT_.out (by kernel_rfl)) (by decide) (fun K hK => ?_);refine goes_ Tryd.func73 (by kernel_rfl) rfl #[.slice j2 z4.length c1_0,.string (rdOf ByteArray.empty z1 a2)] (by rfl) rfl rfl ls_ ?_
     with_reducible refine (slices_Contains_string_string.calls k _ _ z4 (rdOf ByteArray.empty z1 a2) false _ ?j8 ?j9 A6.out).mono ?_
     (case j8 => exact cb_ r2.out);(case j9 => exact r3.out);rintro e w' ⟨rfl,⟨nd,rfl⟩⟩;refine ⟨_,rfl,?_⟩;refine hK.out _ _ ⟨(blk_cell z3.out 0).trans rfl,(blk_cell z3.out 1).trans rfl,(blk_cell z0.out 0).trans rfl,(blk_cell z0.out 1).trans rfl,(blk_cell z0.out 2).trans rfl,((HB.out.cell (World.block_lt_of_cell? w _ hw255_0)).trans hw255_0)⟩ (fun hHeld => ?_);clear hK K;refine norm_ (a':=?_) ?_ ?_;rotate_left
     ·show Act.put _ (some 14) _ = _
      simp only [Act.put,List.setIfInBounds_toArray,List.set_cons_zero,List.set_cons_succ,i64_w,i32_w]
      rfl
     refine pure_ (i:=8) (N:=some 15) (v:=?_) (a':=?_) #[true,true,true,true,true,true,true,true,true,false,false,false,false,false,false,false] rfl rfl (any_of HT_.out (by kernel_rfl)) (fun _ _ _ h => h) (Or.inl ⟨by rfl,?_⟩) ?_ ?_;rotate_left
     ·intro w'
      go_simp
      with_reducible rfl
     rotate_left
     ·simp only [Act.put,List.setIfInBounds_toArray,List.set_cons_zero,List.set_cons_succ,i64_w,i32_w]
      rfl
     refine pure_ (i:=9) (N:=some 16) (v:=undef) (a':=?_) #[true,true,true,true,true,true,true,true,true,true,false,false,false,false,false,false] rfl rfl (any_of HT_.out (by kernel_rfl)) (fun _ _ _ h => h) (Or.inr ⟨by rfl,rfl⟩) ?_ ?_;rotate_left
     ·simp only [Act.put,List.setIfInBounds_toArray,List.set_cons_zero,List.set_cons_succ,i64_w,i32_w]
      rfl
     refine pure_ (i:=10) (N:=some 17) (v:=undef) (a':=?_) #[true,true,true,true,true,true,true,true,true,true,true,false,false,false,false,false] rfl rfl (any_of HT_.out (by kernel_rfl)) (fun _ _ _ h => h) (Or.inr ⟨by rfl,rfl⟩) ?_ ?_;rotate_left
     ·simp only [Act.put,List.setIfInBounds_toArray,List.set_cons_zero,List.set_cons_succ,i64_w,i32_w]
      rfl
     refine pure_ (i:=11) (N:=some 18) (v:=undef) (a':=?_) #[true,true,true,true,true,true,true,true,true,true,true,true,false,false,false,false] rfl rfl (any_of HT_.out (by kernel_rfl)) (fun _ _ _ h => h) (Or.inr ⟨by rfl,rfl⟩) ?_ ?_;rotate_left
     ·simp only [Act.put,List.setIfInBounds_toArray,List.set_cons_zero,List.set_cons_succ,i64_w,i32_w]
      rfl
     refine pure_ (i:=12) (N:=some 19) (v:=undef) (a':=?_) #[true,true,true,true,true,true,true,true,true,true,true,true,true,false,false,false] rfl rfl (any_of HT_.out (by kernel_rfl)) (fun _ _ _ h => h) (Or.inr ⟨by rfl,rfl⟩) ?_ ?_;rotate_left
     ·simp only [Act.put,List.setIfInBounds_toArray,List.set_cons_zero,List.set_cons_succ,i64_w,i32_w]
      rfl
     refine pure_ (i:=13) (N:=some 20) (v:=undef) (a':=?_) #[true,true,true,true,true,true,true,true,true,true,true,true,true,true,false,false] rfl rfl (any_of HT_.out (by kernel_rfl)) (fun _ _ _ h => h) (Or.inr ⟨by rfl,rfl⟩) ?_ ?_;rotate_left
     ·simp only [Act.put,List.setIfInBounds_toArray,List.set_cons_zero,List.set_cons_succ,i64_w,i32_w]
      rfl
     refine pure_ (i:=14) (N:=some 21) (v:=?_) (a':=?_) #[true,true,true,true,true,true,true,true,true,true,true,true,true,true,true,false] rfl rfl (any_of HT_.out (by kernel_rfl)) (fun _ _ _ h => h) (Or.inl ⟨by rfl,?_⟩) ?_ ?_;rotate_left
     ·intro w'
      go_simp
      with_reducible rfl
     rotate_left
     ·simp only [Act.put,List.setIfInBounds_toArray,List.set_cons_zero,List.set_cons_succ,i64_w,i32_w]
      rfl
     refine pure_ (i:=15) (N:=some 6) (v:=?_) (a':=?_) #[true,true,true,true,true,true,true,true,true,true,true,true,true,true,true,true] rfl rfl (any_of HT_.out (by kernel_rfl)) (fun _ _ _ h => h) (Or.inl ⟨by rfl,?_⟩) ?_ ?_;rotate_left
     ·intro w'
      go_simp
      with_reducible rfl
     rotate_left
     ·simp only [Act.put,List.setIfInBounds_toArray,List.set_cons_zero,List.set_cons_succ,i64_w,i32_w]
      rfl
     refine done_ (done_of HT_.out (by kernel_rfl)) ?_;(try go_wp2);go_ret;exact ⟨er_,hb_⟩
   ·rw [if_neg c5] at H
    exact absurd H (by simp)
  ·rw [if_neg c4] at H
   exact absurd H (by simp)

end Go.Proofs.YtdihodboopeakaaDoor.Pr
namespace Go.Proofs.YtdihodboopeakaaDoor.Pr
open Go.RowKit Go.Proofs.YtdihodboopeakaaDoorW.PrintWords Go.Proofs.YtdihodboopeakaaDoorW.PrintLast Go.Proofs.YtdihodboopeakaaDoorW.PrintMore
attribute [local go_sem] max2_int min2_int max_two min_two max_three min_three max_four min_four
set_option linter.unusedVariables false
set_option linter.unusedSimpArgs false

set_option maxHeartbeats 8000000 in
set_option maxRecDepth 100000 in
theorem impl_between.calls (a0 : Int) (a1 : Int) (a2 : Int) (r : Bool) (w : World) (h : impl_between.f a0 a1 a2 = some r) :
   Calls Tryd.prog 77 #[.int .i64 a0,.int .i64 a1,.int .i64 a2] w fun e w' => e = .returned (.bool r) ∧ Drawn0 w w':=by
  have H : (if a0 ≥ a1 then (some (decide (a0 ≤ a2))) else (some false)) = some r:=h;clear h;by_cases c4 : a0 ≥ a1
  ·rw [if_pos c4] at H
   have z0 : decide (a1 ≤ a0) = true:=decide_eq_true c4;clear c4
   obtain rfl:=Option.some.inj H
   go_enter Tryd.func77,Tryd.ntmps77;go_wp2;go_ret;exact ⟨es_,by repeat (first | exact Drawn0.refl _ | apply Drawn0.step)⟩
  ·rw [if_neg c4] at H
   have z0 : decide (a1 ≤ a0) = false:=decide_eq_false c4;clear c4
   obtain rfl:=Option.some.inj H
   go_enter Tryd.func77,Tryd.ntmps77;go_wp2;go_ret;exact ⟨es_,by repeat (first | exact Drawn0.refl _ | apply Drawn0.step)⟩

set_option maxHeartbeats 8000000 in
set_option maxRecDepth 100000 in
theorem slices_Index_int_int.calls (k : Nat) (A0 : Option Addr) (c0 : Nat) (l0 : List Int) (a1 : Int) (r : Int) (w : World) (hr0 : Kd.C (Kd.int .i64) w A0 l0.length l0) (hc0 : l0.length ≤ c0) (h : slices_Index_int_int.f k l0 a1 = some r) :
   Calls Tryd.prog 100 #[.slice A0 l0.length c0,.int .i64 a1] w fun e w' => e = .returned (.int .i64 r) ∧ Drawn0 w w':=by
  have HR0:=Aside0.mk hr0;have HC0:=Aside0.mk hc0;clear hr0 hc0;have H : (slices_Index_int_int.l0 k l0 a1 (l0.length : Int) 0) = some r:=h;clear h;have H':=Aside0.mk H;clear H;go_enter Tryd.func100,Tryd.ntmps100;go_wp2
  go_loopg [8] k (fun kq v8 w' => ∃ (z0 : Int),v8 = .int .i64 z0 ∧ Aside0 (slices_Index_int_int.l0 kq l0 a1 (l0.length : Int) z0 = some r) ∧ Aside0 (kq ≤ k) ∧ Drawn0 w w')
  case atStart => exact ⟨(0),es_,H',⟨Nat.le_refl _⟩,by repeat (first | exact Drawn0.refl _ | apply Drawn0.step)⟩
  case round =>
   clear H';obtain ⟨z0,rfl,HA,HK1,⟨m1,rfl⟩⟩:=hrel
   cases gk with
   | zero => exact absurd HA.out (by simp [slices_Index_int_int.l0])
   | succ k1 =>
    have H:=HA.out;clear HA;simp only [slices_Index_int_int.l0] at H;by_cases c3 : z0 < (l0.length : Int)
    ·rw [if_pos c3] at H
     have z5 : decide (z0 < (l0.length : Int)) = true:=decide_eq_true c3;clear c3;by_cases c4 : 0 ≤ z0
     ·rw [if_pos c4] at H
      have z8 : decide (0 ≤ z0) = true:=decide_eq_true c4;clear c4;by_cases c5 : z0 < (l0.length : Int)
      ·rw [if_pos c5] at H
       have z9 : decide (z0 < (l0.length : Int)) = true:=decide_eq_true c5;clear c5;by_cases c6 : a1 = (rd l0 z0)
       ·rw [if_pos c6] at H
        have z6 : (a1 == (rd l0 z0)) = true:=beq_iff_eq.mpr c6;have z7 : (a1 != (rd l0 z0)) = false:=bne_eq_false_iff_eq.mpr c6;clear c6
        obtain rfl:=Option.some.inj H
        have z1 : 0 ≤ (z0 : Int):=of_decide_eq_true as_;have z2 : z0 < (l0.length : Int):=of_decide_eq_true as_;obtain ⟨z4,e258,z3⟩:=Kd.at_int HR0.out z0 z1 z2;cases e258;replace z1:=eq_true z1;replace z2:=eq_true z2;go_wp2;go_ret;exact ⟨es_,by repeat (first | exact Drawn0.refl _ | apply Drawn0.step)⟩
       ·rw [if_neg c6] at H
        have z6 : (a1 == (rd l0 z0)) = false:=beq_eq_false_iff_ne.mpr c6;have z7 : (a1 != (rd l0 z0)) = true:=bne_iff_ne.mpr c6;have H':=Aside0.mk H;clear H;have z1 : 0 ≤ (z0 : Int):=of_decide_eq_true as_;have z2 : z0 < (l0.length : Int):=of_decide_eq_true as_;obtain ⟨z4,e258,z3⟩:=Kd.at_int HR0.out z0 z1 z2;cases e258;replace z1:=eq_true z1;replace z2:=eq_true z2;go_wp2;go_roundg k1
        case measure => have:=HK1.out;omega
        case rel => exact ⟨(wrap64 (z0 + 1)),es_,H',⟨by have:=HK1.out;omega⟩,by repeat (first | exact Drawn0.refl _ | apply Drawn0.step)⟩
      ·rw [if_neg c5] at H
       exact absurd H (by simp)
     ·rw [if_neg c4] at H
      exact absurd H (by simp)
    ·rw [if_neg c3] at H
     have z5 : decide (z0 < (l0.length : Int)) = false:=decide_eq_false c3;clear c3
     obtain rfl:=Option.some.inj H
     go_wp2;go_ret;exact ⟨es_,by repeat (first | exact Drawn0.refl _ | apply Drawn0.step)⟩

set_option maxHeartbeats 8000000 in
set_option maxRecDepth 100000 in
theorem slices_Contains_int_int.calls (k : Nat) (A0 : Option Addr) (c0 : Nat) (l0 : List Int) (a1 : Int) (r : Bool) (w : World) (hr0 : Kd.C (Kd.int .i64) w A0 l0.length l0) (hc0 : l0.length ≤ c0) (h : slices_Contains_int_int.f k l0 a1 = some r) :
   Calls Tryd.prog 78 #[.slice A0 l0.length c0,.int .i64 a1] w fun e w' => e = .returned (.bool r) ∧ Drawn0 w w':=by
  have HR0:=Aside0.mk hr0;have HC0:=Aside0.mk hc0;clear hr0 hc0;have H : ((slices_Index_int_int.f k l0 a1).bind fun z0 => (some (decide (z0 ≥ 0)))) = some r:=h;clear h;replace H:=Option.bind_eq_some_iff.mp H;obtain ⟨z0,A30,H⟩:=H;replace H : (some (decide (z0 ≥ 0))) = some r:=H;have A3:=Aside0.mk A30;clear A30
  obtain rfl:=Option.some.inj H
  go_enter Tryd.func78,Tryd.ntmps78;go_wp2_with (first | ((with_reducible refine gate_callee (f:=100) rfl ?_);refine goesL_ (some 7) rfl rfl Tryd.func100 (by kernel_rfl) rfl #[.slice A0 l0.length c0,.int .i64 a1] rfl ls_ ?_;(with_reducible refine (slices_Index_int_int.calls k _ _ l0 a1 z0 _ ?z1 ?z2 A3.out).mono ?_);(case z1 => repeat (first | exact HR0.out | (with_reducible refine Kd.C_alloc ?_ _) | (with_reducible refine Kd.C_drewN ?_ _) | (with_reducible refine Kd.C_drew ?_)));(case z2 => exact HC0.out);rintro e w' ⟨rfl,⟨nd,rfl⟩⟩;refine ⟨_,rfl,?_⟩));go_ret;exact ⟨es_,by repeat (first | exact Drawn0.refl _ | apply Drawn0.step)⟩

end Go.Proofs.YtdihodboopeakaaDoor.Pr
