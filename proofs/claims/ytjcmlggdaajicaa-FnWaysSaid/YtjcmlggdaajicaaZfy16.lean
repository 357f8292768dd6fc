-- Joined and pruned by wip/tools/prune.py out of this session's own texts (Pr28, Pr29, PureCmp, PureAr, Mp, MpEv, MpRange, MinM)
import Derived.Test.YtjcmlggdaajicaaZfy15
import Derived.MapKept
import Derived.Laws.StructEq
import Derived.Maps.RangeRun
namespace Go.Proofs.Ytjcmlggdaajicaa.Pr
open Go.RowKit Go.Proofs.YtjcmlggdaajicaaW.PrintWords Go.Proofs.YtjcmlggdaajicaaW.PrintLast Go.Proofs.YtjcmlggdaajicaaW.PrintMore
attribute [local go_sem] max2_int min2_int max_two min_two max_three min_three max_four min_four
set_option linter.unusedVariables false
set_option linter.unusedSimpArgs false

set_option maxHeartbeats 8000000 in
set_option maxRecDepth 100000 in
theorem spec_l1Cur_stroll.calls (k : Nat) (g : Nat) (s0_0 : List Int) (s0_1 : Int) (s0_2 : Int) (a1_0 : Int) (j1 : Option Addr) (c1_1 : Nat) (z2 : List Int) (r1 : List Int) (r2 : Int) (r3 : Int) (w0 w : World) (hI : IsS72 w0 w g s0_0 s0_1 s0_2) (hB : Below w0.heap.size w0 w) (hr1_1 : Kd.C (Kd.int .i64) w j1 z2.length z2) (hc1_1 : z2.length ≤ c1_1) (m4 : ∀ ad,j1 = some ad → 0 < z2.length → ad.block ≠ g) (h : spec_l1Cur_stroll.f k s0_0 s0_1 s0_2 a1_0 z2 = some (r1,r2,r3)) :
   Calls Try.prog 53 #[.pointer (some ⟨g,0,none⟩),.agg #[.int .i64 a1_0,.slice j1 z2.length c1_1]] w fun e w' => ∃ v0_ : Value,e = .returned (v0_) ∧ Kd.R (Kd.int .i64) 3 w' w.heap.size (fun _ => True) v0_ r1 ∧ IsS72 w0 w' g s0_0 r2 r3 ∧ Below w0.heap.size w0 w' ∧ KeepBut w w' g none:=by
  have zk5:=Try.underlying27;have m5:=ak hr1_1;have m6:=ak hc1_1;clear hr1_1 hc1_1;have HI0:=ak hI;have HK:=ak (KeepBut.refl w g none);have HL:=ak hB.size;clear hI;have HW0:=ak hB.size;have HB:=ak hB;clear hB;have H : ((spec_AllPlaces.f k a1_0 z2).bind fun z7 => (if (z7.length : Int) = 0 then (some (([] : List Int),s0_1,s0_2)) else ((spec_l1Cur_pick.f s0_0 s0_1 s0_2 (z7.length : Int)).bind fun bt572 => (if 0 ≤ bt572.1 then (if bt572.1 < (z7.length : Int) then ((spec_l1Cur_pick.f s0_0 bt572.2.1 bt572.2.2 12).bind fun bt579 => (spec_l1Cur_stroll.l0 k (rd z7 bt572.1) (([rd z7 bt572.1] : List Int)) bt579.1 s0_0 bt579.2.1 bt579.2.2 a1_0 z2)) else (none)) else (none))))) = some (r1,r2,r3):=h;clear h;replace H:=Option.bind_eq_some_iff.mp H;obtain ⟨z7,A30,H⟩:=H;replace H : (if (z7.length : Int) = 0 then (some (([] : List Int),s0_1,s0_2)) else ((spec_l1Cur_pick.f s0_0 s0_1 s0_2 (z7.length : Int)).bind fun bt572 => (if 0 ≤ bt572.1 then (if bt572.1 < (z7.length : Int) then ((spec_l1Cur_pick.f s0_0 bt572.2.1 bt572.2.2 12).bind fun bt579 => (spec_l1Cur_stroll.l0 k (rd z7 bt572.1) (([rd z7 bt572.1] : List Int)) bt579.1 s0_0 bt579.2.1 bt579.2.2 a1_0 z2)) else (none)) else (none)))) = some (r1,r2,r3):=H;have A3:=ak A30;clear A30;by_cases c4 : (z7.length : Int) = 0
  ·rw [if_pos c4] at H
   have zf3 : ((z7.length : Int) == 0) = true:=beq_iff_eq.mpr c4;have zf4 : ((z7.length : Int) != 0) = false:=bne_eq_false_iff_eq.mpr c4;clear c4;simp only [Option.some.injEq,Prod.mk.injEq] at H;obtain ⟨rfl,rfl,rfl⟩:=H;go_enter Try.func53,Try.ntmps53;go_wp2_with (first | ((with_reducible refine gate_dst (N:=3) rfl ?_);refine box_event ?hg (N:=3) ?hd (cs:=#[.int .i64 a1_0,.slice j1 z2.length c1_1]) (t:=27) ?hr ?_;(case hd => rfl);(case hg => rfl);(case hr => first | (go_simp;done) | (go_simp;rfl));intro z4 hg w5 hbox hb;have n0_:=ak (IsS72.below is_ hb);have n1_:=ak (KeepBut.trans ke_ (KeepBut.of_below hb g none) (.inl rfl));have n2_:=ak (below_step be_ hb);have n3_:=ak (hbox);have n4_:=ak ((by rw [hg];exact (keep_size (w:=w) (g:=g) (row:=none) ke_) : w.heap.size ≤ z4));have n5_:=ak ((Nat.le_trans HW0.out (by rw [hg];exact (keep_size (w:=w) (g:=g) (row:=none) ke_) : w.heap.size ≤ z4) : w0.heap.size ≤ z4));have n6_:=ak ((by rw [hg];exact Nat.ne_of_lt (IsS72.lt (show IsS72 w0 _ g s0_0 s0_1 s0_2 from by exact is_)) : g ≠ z4));have n7_:=ak ((by rw [hg];exact Nat.ne_of_gt (IsS72.lt (show IsS72 w0 _ g s0_0 s0_1 s0_2 from by exact is_)) : z4 ≠ g));clear HI0;clear HK;clear HB;have HI0:=n0_;have HK:=n1_;have HB:=n2_;have z0:=n3_;have z3:=n4_;have z9:=n5_;have z1:=n6_;have j7:=n7_;clear n0_ n1_ n2_ n3_ n4_ n5_ n6_ n7_;clear hb hbox hg;have zk6:=j7.out;have zk7:=z1.out;have zi3:=b20 z0;have zi4:=b21 z0;have zi5:=bf_ z0 0;have zi6:=bf_ z0 1) | ((with_reducible refine gate_callee (f:=60) rfl ?_);refine goesL_ (some 13) rfl rfl Try.func60 (by kernel_rfl) rfl #[.agg #[.int .i64 a1_0,.slice j1 z2.length c1_1]] rfl ls_ ?_;(with_reducible refine (spec_AllPlaces.calls k a1_0 _ _ z2 z7 _ ?j4 ?j5 A3.out).mono ?_);(case j4 => exact Kd.C_keep 0 m5.out ke_ m4);(case j5 => exact m6.out);rintro e w8 ⟨zf5,rfl,ho0,hb⟩;refine ⟨_,rfl,?_⟩;have n0_:=ak (Kd.R_lower ho0 (keep_size (w:=w) (g:=g) (row:=none) ke_));have n1_:=ak (IsS72.below is_ hb);have n2_:=bb_ z0 hb;have n3_:=ak (KeepBut.trans ke_ (KeepBut.of_below hb g none) (.inl rfl));have n4_:=ak (below_step be_ hb);clear HI0;clear z0;clear HK;clear HB;have r5:=n0_;have HI0:=n1_;have z0:=n2_;have HK:=n3_;have HB:=n4_;clear n0_ n1_ n2_ n3_ n4_;(try clear hb);(try clear hb2);(try clear hk);(try clear hi);(try clear ho0);obtain ⟨Ao9,co9,eo9⟩:=Kd.R_slice r5.out;subst eo9))
   go_ret;exact ⟨_,er_,by first | exact Kd.R_nil _ _ _ _ _ | exact Kd.N_nil _ _ _ _ _ | exact Kd.V_nil _ _ _ _ _ | exact Kd.Q_nil _ _ _ _ _ | exact Kd.S_nil _ _ _ _ _,is_,be_,by exact ke_⟩
  ·rw [if_neg c4] at H
   have zf3 : ((z7.length : Int) == 0) = false:=beq_eq_false_iff_ne.mpr c4;have zf4 : ((z7.length : Int) != 0) = true:=bne_iff_ne.mpr c4;(have zk8 : ¬ (z7 = []):=fun h_ => c4 (by rw [h_];rfl));replace H:=Option.bind_eq_some_iff.mp H;obtain ⟨⟨j9,za2,za3⟩,zc9,H⟩:=H;replace H : (if 0 ≤ j9 then (if j9 < (z7.length : Int) then ((spec_l1Cur_pick.f s0_0 za2 za3 12).bind fun bt579 => (spec_l1Cur_stroll.l0 k (rd z7 j9) (([rd z7 j9] : List Int)) bt579.1 s0_0 bt579.2.1 bt579.2.2 a1_0 z2)) else (none)) else (none)) = some (r1,r2,r3):=H;have A10:=ak zc9;clear zc9;by_cases c11 : 0 ≤ j9
   ·rw [if_pos c11] at H
    have zi7 : decide (0 ≤ j9) = true:=dt_ c11;clear c11;by_cases c12 : j9 < (z7.length : Int)
    ·rw [if_pos c12] at H
     have zi8 : decide (j9 < (z7.length : Int)) = true:=dt_ c12;clear c12;obtain ⟨zb4,m7⟩ : ∃ y_ : List Int,y_ = (([rd z7 j9] : List Int)):=⟨_,rfl⟩;(replace H : ((spec_l1Cur_pick.f s0_0 za2 za3 12).bind fun bt579 => (spec_l1Cur_stroll.l0 k (rd z7 j9) zb4 bt579.1 s0_0 bt579.2.1 bt579.2.2 a1_0 z2)) = some (r1,r2,r3):=by first|(rw [m7];with_reducible first|exact H|exact bs_ H)|with_reducible exact bs_ H|with_reducible exact H|(rw [m7];exact H)|exact H);have zc5:=ak m7;clear m7;replace H:=Option.bind_eq_some_iff.mp H;obtain ⟨⟨zb5,zb6,zb7⟩,zd0,H⟩:=H;replace H : (spec_l1Cur_stroll.l0 k (rd z7 j9) zb4 zb5 s0_0 zb6 zb7 a1_0 z2) = some (r1,r2,r3):=H;have A13:=ak zd0;clear zd0;have zb8:=ak H;clear H;go_enter Try.func53,Try.ntmps53
     go_upto_block 0 with (first | ((with_reducible refine gate_dst (N:=3) rfl ?_);refine box_event ?hg (N:=3) ?hd (cs:=#[.int .i64 a1_0,.slice j1 z2.length c1_1]) (t:=27) ?hr ?_;(case hd => rfl);(case hg => rfl);(case hr => first | (go_simp;done) | (go_simp;rfl));intro z4 hg w15 hbox hb;have n0_:=ak (IsS72.below is_ hb);have n1_:=ak (KeepBut.trans ke_ (KeepBut.of_below hb g none) (.inl rfl));have n2_:=ak (below_step be_ hb);have n3_:=ak (hbox);have n4_:=ak ((by rw [hg];exact (keep_size (w:=w) (g:=g) (row:=none) ke_) : w.heap.size ≤ z4));have n5_:=ak ((Nat.le_trans HW0.out (by rw [hg];exact (keep_size (w:=w) (g:=g) (row:=none) ke_) : w.heap.size ≤ z4) : w0.heap.size ≤ z4));have n6_:=ak ((by rw [hg];exact Nat.ne_of_lt (IsS72.lt (show IsS72 w0 _ g s0_0 s0_1 s0_2 from by exact is_)) : g ≠ z4));have n7_:=ak ((by rw [hg];exact Nat.ne_of_gt (IsS72.lt (show IsS72 w0 _ g s0_0 s0_1 s0_2 from by exact is_)) : z4 ≠ g));clear HI0;clear HK;clear HB;have HI0:=n0_;have HK:=n1_;have HB:=n2_;have z0:=n3_;have z3:=n4_;have z9:=n5_;have z1:=n6_;have j7:=n7_;clear n0_ n1_ n2_ n3_ n4_ n5_ n6_ n7_;clear hb hbox hg;have zi9:=j7.out;have zj0:=z1.out;have zg1:=b20 z0;have zg2:=b21 z0;have zg3:=bf_ z0 0;have zg4:=bf_ z0 1) | ((with_reducible refine gate_callee (f:=60) rfl ?_);refine goesL_ (some 13) rfl rfl Try.func60 (by kernel_rfl) rfl #[.agg #[.int .i64 a1_0,.slice j1 z2.length c1_1]] rfl ls_ ?_;(with_reducible refine (spec_AllPlaces.calls k a1_0 _ _ z2 z7 _ ?j4 ?j5 A3.out).mono ?_);(case j4 => exact Kd.C_keep 0 m5.out ke_ m4);(case j5 => exact m6.out);rintro e w18 ⟨zf5,rfl,ho0,hb⟩;refine ⟨_,rfl,?_⟩;have n0_:=ak (Kd.R_lower ho0 (keep_size (w:=w) (g:=g) (row:=none) ke_));have n1_:=ak (IsS72.below is_ hb);have n2_:=bb_ z0 hb;have n3_:=ak (KeepBut.trans ke_ (KeepBut.of_below hb g none) (.inl rfl));have n4_:=ak (below_step be_ hb);clear HI0;clear z0;clear HK;clear HB;have r5:=n0_;have HI0:=n1_;have z0:=n2_;have HK:=n3_;have HB:=n4_;clear n0_ n1_ n2_ n3_ n4_;(try clear hb);(try clear hb2);(try clear hk);(try clear hi);(try clear ho0);obtain ⟨zk9,zl0,zf6⟩:=Kd.R_slice r5.out;subst zf6) | ((with_reducible refine gate_callee (f:=62) rfl ?_);refine goesL_ (some 21) rfl rfl Try.func62 (by kernel_rfl) rfl #[.pointer (some ⟨g,0,none⟩),.int .i64 (z7.length : Int)] rfl ls_ ?_;(with_reducible refine (spec_l1Cur_pick.calls g s0_0 s0_1 s0_2 (z7.length : Int) j9 za2 za3 w0 _ ?j4 ?j5 A10.out).mono ?_);(case j4 => exact is_);(case j5 => exact be_);rintro e w20 ⟨rfl,hi,hb,hk⟩;refine ⟨_,rfl,?_⟩;replace z0:=ak (KeepBut.blk hk (g':=z4) (o:=.cells #[.int .i64 a1_0,.slice j1 z2.length c1_1] 27 (0,0)) (bk_ z0.out) j7.out (by simp));replace r5:=ak (Kd.R_mono (Kd.R_keep (IsS72.apart (show IsS72 w0 _ g s0_0 s0_1 s0_2 from by exact is_) (ra_ r5.out) (by decide)) hk (fun _ h => h.2)) (fun _ h => h.1));replace HK:=ak (KeepBut.trans (ke_ (w:=w)) hk (.inl rfl));replace HI0:=ak (hi);replace HB:=ak (hb);(try clear hb);(try clear hb2);(try clear hk);(try clear hi);have zb9 : 0 ≤ (j9 : Int):=od_;have zc0 : j9 < (z7.length : Int):=od_;obtain ⟨zj1,e575,zg5⟩:=Kd.at_int (Kd.R_reads' r5.out).2.2 j9 zb9 zc0;cases e575;replace zb9:=eq_true zb9;replace zc0:=eq_true zc0) | ((with_reducible refine gate_dst (N:=25) rfl ?_);refine Kd.R_lit (Kd.int .i64) _ 3 ?hg (N:=25) ?hd (xs:=([rd z7 j9] : List Int)) (inner:=[.int .i64 (rd z7 j9)]) (ok:=fun _ => True) (okp:=fun _ => True) ?hr ?hp (fun _ hk => hk) trivial (Below.refl _ _) (Nat.le_refl _) (by simp) ?_;(case hd => rfl);(case hg => rfl);(case hr => first | (go_simp;done) | (go_simp;rfl));(case hp => exact (Reps.one (show Kd.M (Kd.int .i64) _ _ _ (rd z7 j9) [.int .i64 (rd z7 j9)] from rfl) (Reps.none _ _)));intro zl1 w21 za4 hb hg_ hnew_;clear hg_ hnew_;(first | rw [← zc5.out] at za4 | (simp only [Int.reduceToNat] at za4;rw [← zc5.out] at za4));have n0_:=ak (Kd.R_elder' (ra_ r5.out) (Kd.R_base za4) hb);have n1_:=ak (Kd.R_lower (Kd.R_new' za4 (Kd.R_lt (ra_ r5.out))) (keep_size (w:=w) (g:=g) (row:=none) ke_));have n2_:=ak (IsS72.below is_ hb);have n3_:=bb_ z0 hb;have n4_:=ak (KeepBut.trans ke_ (KeepBut.of_below hb g none) (.inl rfl));have n5_:=ak (below_step be_ hb);clear r5;clear HI0;clear z0;clear HK;clear HB;have r5:=n0_;have zb0:=n1_;have HI0:=n2_;have z0:=n3_;have HK:=n4_;have HB:=n5_;clear n0_ n1_ n2_ n3_ n4_ n5_;clear hb za4) | ((with_reducible refine gate_callee (f:=62) rfl ?_);refine goesL_ (some 27) rfl rfl Try.func62 (by kernel_rfl) rfl #[.pointer (some ⟨g,0,none⟩),.int .i64 12] rfl ls_ ?_;(with_reducible refine (spec_l1Cur_pick.calls g s0_0 za2 za3 12 zb5 zb6 zb7 w0 _ ?j4 ?j5 A13.out).mono ?_);(case j4 => exact is_);(case j5 => exact be_);rintro e w23 ⟨rfl,hi,hb,hk⟩;refine ⟨_,rfl,?_⟩;replace z0:=ak (KeepBut.blk hk (g':=z4) (o:=.cells #[.int .i64 a1_0,.slice j1 z2.length c1_1] 27 (0,0)) (bk_ z0.out) j7.out (by simp));replace r5:=ak (Kd.R_mono (Kd.R_keep (IsS72.apart (show IsS72 w0 _ g s0_0 za2 za3 from by exact is_) (ra_ r5.out) (by decide)) hk (fun _ h => h.2)) (fun _ h => h.1));replace zb0:=ak (Kd.R_mono (Kd.R_keep (IsS72.apart (show IsS72 w0 _ g s0_0 za2 za3 from by exact is_) (ra_ zb0.out) (by decide)) hk (fun _ h => h.2)) (fun _ h => h.1));replace HK:=ak (KeepBut.trans (ke_ (w:=w)) hk (.inl rfl));replace HI0:=ak (hi);replace HB:=ak (hb);(try clear hb);(try clear hb2);(try clear hk);(try clear hi)))
     (try simp only [Act.put,aS,aZ,aN])
     go_cut [7] (fun v7 wc => ∃ (kq : Nat) (r8 : List Int) (r6 : Int) (r7 : Int),Aside0 (spec_l1Cur_stroll.j2 kq r8 s0_0 r6 r7 a1_0 z2 = some (r1,r2,r3)) ∧ Aside0 (kq ≤ k) ∧ Aside0 (Kd.R (Kd.int .i64) 3 wc w.heap.size (fun _ => True) v7 r8) ∧ Aside0 (wc.heap[z4]? = some (.cells #[.int .i64 a1_0,(.slice j1 z2.length c1_1)] 27 (0,0))) ∧ Aside0 (IsS72 w0 wc g s0_0 r6 r7) ∧ Aside0 (KeepBut w wc g none) ∧ Aside0 (Below w0.heap.size w0 wc))
     case first =>
      have H:=zb8.out;clear zb8;have H':=ak H;clear H;go_wp2
      go_loopg [6,7,8] k (fun kq v6 v7 v8 w' => ∃ (r9 : Int) (r4 : List Int) (m0 : Int) (j2 : Int) (j3 : Int),v6 = .int .i64 r9 ∧ v8 = .int .i64 m0 ∧ Aside0 (spec_l1Cur_stroll.l0 kq r9 r4 m0 s0_0 j2 j3 a1_0 z2 = some (r1,r2,r3)) ∧ Aside0 (kq ≤ k) ∧ Aside0 (Kd.R (Kd.int .i64) 3 w' w.heap.size (fun _ => True) v7 r4) ∧ Aside0 (w'.heap[z4]? = some (.cells #[.int .i64 a1_0,(.slice j1 z2.length c1_1)] 27 (0,0))) ∧ Aside0 (IsS72 w0 w' g s0_0 j2 j3) ∧ Aside0 (KeepBut w w' g none) ∧ Aside0 (Below w0.heap.size w0 w'))
      case atStart => exact ⟨(rd z7 j9),(zb4),(zb5),(zb6),(zb7),es_,es_,H',⟨Nat.le_refl _⟩,⟨by (with_reducible repeat (first | apply Kd.R_alloc | apply Kd.R_drewN | apply Kd.R_drew));exact Kd.R_mono zb0.out (fun _ hk => trivial)⟩,⟨bk_ z0.out⟩,⟨by exact is_⟩,⟨by exact ke_⟩,⟨by exact be_⟩⟩
      case round =>
       clear H';obtain ⟨r9,r4,m0,j2,j3,rfl,rfl,HA,HK1,z5,z0,HI0,HK,HB⟩:=hrel
       cases gk with
       | zero => exact absurd HA.out (by simp [spec_l1Cur_stroll.l0])
       | succ k1 =>
        have H:=HA.out;clear HA;simp only [spec_l1Cur_stroll.l0] at H;by_cases c24 : m0 > 0
        ·rw [if_pos c24] at H
         have m8 : decide (0 < m0) = true:=dt_ c24;clear c24;(first | rw [m8] | (simp only [i64_w,i32_w];rw [m8]) | skip);replace H:=Option.bind_eq_some_iff.mp H;obtain ⟨z8,zd1,H⟩:=H;replace H : (spec_l1Cur_stroll.l1 k1 r9 r4 m0 ([] : List Int) z8 (z8.length : Int) 0 s0_0 j2 j3 a1_0 z2) = some (r1,r2,r3):=H;have A25:=ak zd1;clear zd1;have H':=ak H;clear H;have zj2:=j7.out;have zj3:=z1.out;have zg6:=b20 z0;have zg7:=b21 z0;have zg8:=bf_ z0 0;have zg9:=bf_ z0 1;go_wp2_with (first | ((with_reducible refine gate_callee (f:=49) rfl ?_);refine goesL_ (some 34) rfl rfl Try.func49 (by kernel_rfl) rfl #[.agg #[.int .i64 a1_0,.slice j1 z2.length c1_1],.int .i64 r9] rfl ls_ ?_;(with_reducible refine (spec_l18Around.calls k1 a1_0 _ _ z2 r9 z8 _ ?j4 ?j5 A25.out).mono ?_);(case j4 => exact Kd.C_keep 0 m5.out ke_ m4);(case j5 => exact m6.out);rintro e w28 ⟨zl2,rfl,ho0,hb⟩;refine ⟨_,rfl,?_⟩;have n0_:=ak (Kd.R_elder' (ra_ z5.out) (Kd.R_base ho0) hb);have n1_:=ak (Kd.R_lower (Kd.R_new' ho0 (Kd.R_lt (ra_ z5.out))) (keep_size (w:=w) (g:=g) (row:=none) ke_));have n2_:=bb_ z0 hb;have n3_:=ak (IsS72.below is_ hb);have n4_:=ak (KeepBut.trans ke_ (KeepBut.of_below hb g none) (.inl rfl));have n5_:=ak (below_step be_ hb);clear z5;clear z0;clear HI0;clear HK;clear HB;have z5:=n0_;have zc6:=n1_;have z0:=n2_;have HI0:=n3_;have HK:=n4_;have HB:=n5_;clear n0_ n1_ n2_ n3_ n4_ n5_;(try clear hb);(try clear hb2);(try clear hk);(try clear hi);(try clear ho0);obtain ⟨za8,m1,zf7⟩:=Kd.R_slice zc6.out;subst zf7))
         go_loopg [9,36] k1 (fun kq v9 v36 w' => ∃ (j0 : List Int) (z6 : Int),v36 = .int .i64 z6 ∧ Aside0 (spec_l1Cur_stroll.l1 kq r9 r4 m0 j0 z8 (z8.length : Int) z6 s0_0 j2 j3 a1_0 z2 = some (r1,r2,r3)) ∧ Aside0 (kq ≤ k1) ∧ Aside0 (Kd.R (Kd.int .i64) 3 w' w.heap.size (fun k_ => some k_ ≠ (v9 : Value).ownBlock ∧ some k_ ≠ ((.slice za8 z8.length m1) : Value).ownBlock) u7 r4) ∧ Aside0 (Kd.R (Kd.int .i64) 3 w' w.heap.size (fun k_ => some k_ ≠ (u7 : Value).ownBlock ∧ some k_ ≠ ((.slice za8 z8.length m1) : Value).ownBlock) v9 j0) ∧ Aside0 (Kd.R (Kd.int .i64) 3 w' w.heap.size (fun k_ => some k_ ≠ (u7 : Value).ownBlock ∧ some k_ ≠ (v9 : Value).ownBlock) (.slice za8 z8.length m1) z8) ∧ Aside0 (w'.heap[z4]? = some (.cells #[.int .i64 a1_0,(.slice j1 z2.length c1_1)] 27 (0,0))) ∧ Aside0 (IsS72 w0 w' g s0_0 j2 j3) ∧ Aside0 (KeepBut w w' g none) ∧ Aside0 (Below w0.heap.size w0 w'))
         case atStart => exact ⟨(([] : List Int)),(0),es_,H',⟨Nat.le_refl _⟩,⟨by (with_reducible repeat (first | apply Kd.R_alloc | apply Kd.R_drewN | apply Kd.R_drew));exact Kd.R_mono z5.out (fun _ hk => ⟨(by simp [Value.ownBlock]),hk.2⟩)⟩,⟨by first | exact Kd.R_nil _ _ _ _ _ | exact Kd.N_nil _ _ _ _ _ | exact Kd.V_nil _ _ _ _ _ | exact Kd.Q_nil _ _ _ _ _ | exact Kd.S_nil _ _ _ _ _⟩,⟨by (with_reducible repeat (first | apply Kd.R_alloc | apply Kd.R_drewN | apply Kd.R_drew));exact Kd.R_mono zc6.out (fun _ hk => ⟨hk.2,(by simp [Value.ownBlock])⟩)⟩,⟨bk_ z0.out⟩,⟨by exact is_⟩,⟨by exact ke_⟩,⟨by exact be_⟩⟩
         case round =>
          clear H';obtain ⟨j0,z6,rfl,HA,HK2,z5,j8,j6,z0,HI0,HK,HB⟩:=hrel
          cases gk with
          | zero => exact absurd HA.out (by simp [spec_l1Cur_stroll.l1])
          | succ k2 =>
           have H:=HA.out;clear HA;simp only [spec_l1Cur_stroll.l1] at H;by_cases c30 : z6 < (z8.length : Int)
           ·rw [if_pos c30] at H
            have ze0 : decide (z6 < (z8.length : Int)) = true:=dt_ c30;clear c30;by_cases c31 : 0 ≤ z6
            ·rw [if_pos c31] at H
             have zj4 : decide (0 ≤ z6) = true:=dt_ c31;clear c31;by_cases c32 : z6 < (z8.length : Int)
             ·rw [if_pos c32] at H
              have zj5 : decide (z6 < (z8.length : Int)) = true:=dt_ c32;clear c32;replace H:=Option.bind_eq_some_iff.mp H;obtain ⟨za5,zd2,H⟩:=H;replace H : (if za5 > 0 then (if j0.length < 17592186044416 then (spec_l1Cur_stroll.l1 k2 r9 r4 m0 (j0 ++ [rd z8 z6]) z8 (z8.length : Int) (wrap64 (z6 + 1)) s0_0 j2 j3 a1_0 z2) else (none)) else (spec_l1Cur_stroll.l1 k2 r9 r4 m0 j0 z8 (z8.length : Int) (wrap64 (z6 + 1)) s0_0 j2 j3 a1_0 z2)) = some (r1,r2,r3):=H;have A33:=ak zd2;clear zd2;by_cases c34 : za5 > 0
              ·rw [if_pos c34] at H
               have ze1 : decide (0 < za5) = true:=dt_ c34;clear c34;by_cases c35 : j0.length < 17592186044416
               ·rw [if_pos c35] at H
                have ze2:=ak c35;clear c35;obtain ⟨zd3,m9⟩ : ∃ y_ : List Int,y_ = (j0 ++ [rd z8 z6]):=⟨_,rfl⟩;(replace H : (spec_l1Cur_stroll.l1 k2 r9 r4 m0 zd3 z8 (z8.length : Int) (wrap64 (z6 + 1)) s0_0 j2 j3 a1_0 z2) = some (r1,r2,r3):=by first|(rw [m9];with_reducible first|exact H|exact bs_ H)|with_reducible exact bs_ H|with_reducible exact H|(rw [m9];exact H)|exact H);have ze3:=ak m9;clear m9;have H':=ak H;clear H;have m2 : 0 ≤ (z6 : Int):=od_;have m3 : z6 < (z8.length : Int):=od_;obtain ⟨zb1,e585,zc8⟩:=Kd.at_int (Kd.R_reads' j6.out).2.2 z6 m2 m3;cases e585;replace m2:=eq_true m2;replace m3:=eq_true m3;have zj6:=j7.out;have zj7:=z1.out;have zh0:=b20 z0;have zh1:=b21 z0;have zh2:=bf_ z0 0;have zh3:=bf_ z0 1;go_wp2_with (first | ((with_reducible refine gate_callee (f:=44) rfl ?_);refine goesL_ (some 43) rfl rfl Try.func44 (by kernel_rfl) rfl #[.agg #[.int .i64 a1_0,.slice j1 z2.length c1_1],.int .i64 r9,.int .i64 (rd z8 z6)] rfl ls_ ?_;(with_reducible refine (spec_l18Step.calls k2 a1_0 _ _ z2 r9 (rd z8 z6) za5 _ ?j4 ?j5 A33.out).mono ?_);(case j4 => exact Kd.C_keep 0 m5.out ke_ m4);(case j5 => exact m6.out);rintro e w38 ⟨rfl,hb⟩;refine ⟨_,rfl,?_⟩;have n0_:=ak (Kd.R_below (ra_ z5.out) hb);have n1_:=ak (Kd.R_below (ra_ j8.out) hb);have n2_:=ak (Kd.R_below (ra_ j6.out) hb);have n3_:=bb_ z0 hb;have n4_:=ak (IsS72.below is_ hb);have n5_:=ak (KeepBut.trans ke_ (KeepBut.of_below hb g none) (.inl rfl));have n6_:=ak (below_step be_ hb);clear z5;clear j8;clear j6;clear z0;clear HI0;clear HK;clear HB;have z5:=n0_;have j8:=n1_;have j6:=n2_;have z0:=n3_;have HI0:=n4_;have HK:=n5_;have HB:=n6_;clear n0_ n1_ n2_ n3_ n4_ n5_ n6_;(try clear hb);(try clear hb2);(try clear hk);(try clear hi)) | ((with_reducible refine gate_builtin (b:=.append) (xs:=#[.tmp 45,.tmp 47]) rfl ?_);at_builtin;refine Kd.R_append (Kd.int .i64) w.heap.size rfl (.tmp 45) (.tmp 47) 22 3 (.int .i64 0) 8 rfl Try.underlying22 info3 rfl (by decide) (by omega) u9 j0 (rd z8 z6) [.int .i64 (rd z8 z6)] (fun k_ => some k_ ≠ (u7 : Value).ownBlock ∧ some k_ ≠ (.slice (some zb1) z8.length m1 : Value).ownBlock) (fun _ => False) rfl rfl ?aP (fun _ hk => hk.elim) ?aF ?aO (Below.refl _ _) ?aS ?aL ?_;(case aP => exact rfl);(case aF => exact (fun k_ hk => ⟨Kd.fresh' (Kd.R_lt (ra_ z5.out)) k_ hk,Kd.fresh' (Kd.R_lt (ra_ j6.out)) k_ hk⟩));(case aO => exact (ra_ j8.out));(case aS => exact (keep_size (w:=w) (g:=g) (row:=none) ke_));(case aL => have:=ze2.out;omega);intro zl3 w39 ho hb hg hat;rw [← ze3.out] at ho;have n0_:=ak (Kd.R_after (ok:=(fun k_ => some k_ ≠ (.slice (some zb1) z8.length m1 : Value).ownBlock)) (by (with_reducible repeat (first | apply Kd.R_alloc | apply Kd.R_drewN | apply Kd.R_drew));exact Kd.R_mono z5.out (fun _ hk => ⟨hk.2,hk.1⟩)) hg hat);have n1_:=ak (Kd.R_after (ok:=(fun k_ => some k_ ≠ (u7 : Value).ownBlock)) (ra_ j6.out) hg hat);have n2_:=ak (blk_grown (g:=z4) (o:=.cells #[.int .i64 a1_0,.slice j1 z2.length c1_1] 27 (0,0)) (bk_ z0.out) hg (Kd.R_ne j8.out z0.out (by decide)));have n3_:=ak (IsS72.grown is_ hg (IsS72.own_ne HI0.out j8.out (by decide)));have n4_:=ak (below_weaken be_ HL.out hb);have n5_:=ak (KeepBut.trans ke_ (KeepBut.of_grown hg g) (Kd.R_base2 j8.out));have n6_:=ak (ho);clear z5;clear j6;clear z0;clear HI0;clear HB;clear HK;clear j8;have z5:=n0_;have j6:=n1_;have z0:=n2_;have HI0:=n3_;have HB:=n4_;have HK:=n5_;have ze4:=n6_;clear n0_ n1_ n2_ n3_ n4_ n5_ n6_;clear ho hb hg hat))
                go_roundg k2
                case measure => have:=HK1.out;have:=HK2.out;omega
                case rel => exact ⟨(zd3),(wrap64 (z6 + 1)),es_,H',⟨by have:=HK1.out;have:=HK2.out;omega⟩,⟨by (with_reducible repeat (first | apply Kd.R_alloc | apply Kd.R_drewN | apply Kd.R_drew));exact Kd.R_mono z5.out (fun _ hk => ⟨hk.2,hk.1⟩)⟩,⟨ra_ ze4.out⟩,⟨ra_ j6.out⟩,⟨bk_ z0.out⟩,⟨by exact is_⟩,⟨by exact ke_⟩,⟨by exact be_⟩⟩
               ·rw [if_neg c35] at H
                exact absurd H (by simp)
              ·rw [if_neg c34] at H
               have ze1 : decide (0 < za5) = false:=df_ c34;clear c34;have H':=ak H;clear H;have m2 : 0 ≤ (z6 : Int):=od_;have m3 : z6 < (z8.length : Int):=od_;obtain ⟨zb1,e585,zc8⟩:=Kd.at_int (Kd.R_reads' j6.out).2.2 z6 m2 m3;cases e585;replace m2:=eq_true m2;replace m3:=eq_true m3;have zj8:=j7.out;have zj9:=z1.out;have zh4:=b20 z0;have zh5:=b21 z0;have zh6:=bf_ z0 0;have zh7:=bf_ z0 1;go_wp2_with (first | ((with_reducible refine gate_callee (f:=44) rfl ?_);refine goesL_ (some 43) rfl rfl Try.func44 (by kernel_rfl) rfl #[.agg #[.int .i64 a1_0,.slice j1 z2.length c1_1],.int .i64 r9,.int .i64 (rd z8 z6)] rfl ls_ ?_;(with_reducible refine (spec_l18Step.calls k2 a1_0 _ _ z2 r9 (rd z8 z6) za5 _ ?j4 ?j5 A33.out).mono ?_);(case j4 => exact Kd.C_keep 0 m5.out ke_ m4);(case j5 => exact m6.out);rintro e w42 ⟨rfl,hb⟩;refine ⟨_,rfl,?_⟩;have n0_:=ak (Kd.R_below (ra_ z5.out) hb);have n1_:=ak (Kd.R_below (ra_ j8.out) hb);have n2_:=ak (Kd.R_below (ra_ j6.out) hb);have n3_:=bb_ z0 hb;have n4_:=ak (IsS72.below is_ hb);have n5_:=ak (KeepBut.trans ke_ (KeepBut.of_below hb g none) (.inl rfl));have n6_:=ak (below_step be_ hb);clear z5;clear j8;clear j6;clear z0;clear HI0;clear HK;clear HB;have z5:=n0_;have j8:=n1_;have j6:=n2_;have z0:=n3_;have HI0:=n4_;have HK:=n5_;have HB:=n6_;clear n0_ n1_ n2_ n3_ n4_ n5_ n6_;(try clear hb);(try clear hb2);(try clear hk);(try clear hi)));go_roundg k2
               case measure => have:=HK1.out;have:=HK2.out;omega
               case rel => exact ⟨(j0),(wrap64 (z6 + 1)),es_,H',⟨by have:=HK1.out;have:=HK2.out;omega⟩,⟨ra_ z5.out⟩,⟨ra_ j8.out⟩,⟨ra_ j6.out⟩,⟨bk_ z0.out⟩,⟨by exact is_⟩,⟨by exact ke_⟩,⟨by exact be_⟩⟩
             ·rw [if_neg c32] at H
              exact absurd H (by simp)
            ·rw [if_neg c31] at H
             exact absurd H (by simp)
           ·rw [if_neg c30] at H
            have ze0 : decide (z6 < (z8.length : Int)) = false:=df_ c30;clear c30;by_cases c43 : (j0.length : Int) = 0
            ·rw [if_pos c43] at H
             have ze5 : ((j0.length : Int) == 0) = true:=beq_iff_eq.mpr c43;have ze6 : ((j0.length : Int) != 0) = false:=bne_eq_false_iff_eq.mpr c43;clear c43;have H':=ak H;clear H;obtain ⟨zl4,zl5,zf8⟩:=Kd.R_slice j8.out;subst zf8;go_wp2;go_meet
             case rel => exact ⟨_,(r4),(j2),(j3),H',⟨by have:=HK1.out;have:=HK2.out;first | omega | exact Nat.le_refl _⟩,⟨by (with_reducible repeat (first | apply Kd.R_alloc | apply Kd.R_drewN | apply Kd.R_drew));exact Kd.R_mono z5.out (fun _ hk => trivial)⟩,⟨bk_ z0.out⟩,⟨by exact is_⟩,⟨by exact ke_⟩,⟨by exact be_⟩⟩
            ·rw [if_neg c43] at H
             have ze5 : ((j0.length : Int) == 0) = false:=beq_eq_false_iff_ne.mpr c43;have ze6 : ((j0.length : Int) != 0) = true:=bne_iff_ne.mpr c43;(have zk0 : ¬ (j0 = []):=fun h_ => c43 (by rw [h_];rfl));replace H:=Option.bind_eq_some_iff.mp H;obtain ⟨⟨r0,zb2,zb3⟩,zd4,H⟩:=H;replace H : (if 0 ≤ r0 then (if r0 < (j0.length : Int) then (if r4.length < 17592186044416 then (spec_l1Cur_stroll.l0 k2 (rd j0 r0) (r4 ++ [rd j0 r0]) (wrap64 (m0 - 1)) s0_0 zb2 zb3 a1_0 z2) else (none)) else (none)) else (none)) = some (r1,r2,r3):=H;have A45:=ak zd4;clear zd4;by_cases c46 : 0 ≤ r0
             ·rw [if_pos c46] at H
              have zk1 : decide (0 ≤ r0) = true:=dt_ c46;clear c46;by_cases c47 : r0 < (j0.length : Int)
              ·rw [if_pos c47] at H
               have zk2 : decide (r0 < (j0.length : Int)) = true:=dt_ c47;clear c47;by_cases c48 : r4.length < 17592186044416
               ·rw [if_pos c48] at H
                have ze7:=ak c48;clear c48;obtain ⟨zd5,za0⟩ : ∃ y_ : List Int,y_ = (r4 ++ [rd j0 r0]):=⟨_,rfl⟩;(replace H : (spec_l1Cur_stroll.l0 k2 (rd j0 r0) zd5 (wrap64 (m0 - 1)) s0_0 zb2 zb3 a1_0 z2) = some (r1,r2,r3):=by first|(rw [za0];with_reducible first|exact H|exact bs_ H)|with_reducible exact bs_ H|with_reducible exact H|(rw [za0];exact H)|exact H);have ze8:=ak za0;clear za0;have H':=ak H;clear H;obtain ⟨zl6,zd6,zf9⟩:=Kd.R_slice j8.out;subst zf9;go_wp2_with (first | ((with_reducible refine gate_callee (f:=62) rfl ?_);refine goesL_ (some 57) rfl rfl Try.func62 (by kernel_rfl) rfl #[.pointer (some ⟨g,0,none⟩),.int .i64 (j0.length : Int)] rfl ls_ ?_;(with_reducible refine (spec_l1Cur_pick.calls g s0_0 j2 j3 (j0.length : Int) r0 zb2 zb3 w0 _ ?j4 ?j5 A45.out).mono ?_);(case j4 => exact is_);(case j5 => exact be_);rintro e w50 ⟨rfl,hi,hb,hk⟩;refine ⟨_,rfl,?_⟩;replace z5:=ak (Kd.R_mono (Kd.R_keep (IsS72.apart (show IsS72 w0 _ g s0_0 j2 j3 from by exact is_) (ra_ z5.out) (by decide)) hk (fun _ h => h.2)) (fun _ h => h.1));replace j8:=ak (Kd.R_mono (Kd.R_keep (IsS72.apart (show IsS72 w0 _ g s0_0 j2 j3 from by exact is_) (ra_ j8.out) (by decide)) hk (fun _ h => h.2)) (fun _ h => h.1));replace j6:=ak (Kd.R_mono (Kd.R_keep (IsS72.apart (show IsS72 w0 _ g s0_0 j2 j3 from by exact is_) (ra_ j6.out) (by decide)) hk (fun _ h => h.2)) (fun _ h => h.1));replace z0:=ak (KeepBut.blk hk (g':=z4) (o:=.cells #[.int .i64 a1_0,.slice j1 z2.length c1_1] 27 (0,0)) (bk_ z0.out) j7.out (by simp));replace HK:=ak (KeepBut.trans (ke_ (w:=w)) hk (.inl rfl));replace HI0:=ak (hi);replace HB:=ak (hb);(try clear hb);(try clear hb2);(try clear hk);(try clear hi);have zc1 : 0 ≤ (r0 : Int):=od_;have zc2 : r0 < (j0.length : Int):=od_;obtain ⟨zc7,e593,zh8⟩:=Kd.at_int (Kd.R_reads' j8.out).2.2 r0 zc1 zc2;cases e593;replace zc1:=eq_true zc1;replace zc2:=eq_true zc2) | ((with_reducible refine gate_builtin (b:=.append) (xs:=#[.tmp 60,.tmp 62]) rfl ?_);at_builtin;refine Kd.R_append (Kd.int .i64) w.heap.size rfl (.tmp 60) (.tmp 62) 22 3 (.int .i64 0) 8 rfl Try.underlying22 info3 rfl (by decide) (by omega) u7 r4 (rd j0 r0) [.int .i64 (rd j0 r0)] (fun k_ => some k_ ≠ (.slice (some zc7) j0.length zd6 : Value).ownBlock ∧ some k_ ≠ (.slice za8 z8.length m1 : Value).ownBlock) (fun _ => False) rfl rfl ?aP (fun _ hk => hk.elim) ?aF ?aO (Below.refl _ _) ?aS ?aL ?_;(case aP => exact rfl);(case aF => exact (fun k_ hk => ⟨Kd.fresh' (Kd.R_lt (ra_ j8.out)) k_ hk,Kd.fresh' (Kd.R_lt (ra_ j6.out)) k_ hk⟩));(case aO => exact (ra_ z5.out));(case aS => exact (keep_size (w:=w) (g:=g) (row:=none) ke_));(case aL => have:=ze7.out;omega);intro zl7 w51 ho hb hg hat;rw [← ze8.out] at ho;have n0_:=ak (Kd.R_after (ok:=(fun k_ => some k_ ≠ (.slice za8 z8.length m1 : Value).ownBlock)) (by (with_reducible repeat (first | apply Kd.R_alloc | apply Kd.R_drewN | apply Kd.R_drew));exact Kd.R_mono j8.out (fun _ hk => ⟨hk.2,hk.1⟩)) hg hat);have n1_:=ak (Kd.R_after (ok:=(fun k_ => some k_ ≠ (.slice (some zc7) j0.length zd6 : Value).ownBlock)) (by (with_reducible repeat (first | apply Kd.R_alloc | apply Kd.R_drewN | apply Kd.R_drew));exact Kd.R_mono j6.out (fun _ hk => ⟨hk.2,hk.1⟩)) hg hat);have n2_:=ak (blk_grown (g:=z4) (o:=.cells #[.int .i64 a1_0,.slice j1 z2.length c1_1] 27 (0,0)) (bk_ z0.out) hg (Kd.R_ne z5.out z0.out (by decide)));have n3_:=ak (IsS72.grown is_ hg (IsS72.own_ne HI0.out z5.out (by decide)));have n4_:=ak (below_weaken be_ HL.out hb);have n5_:=ak (KeepBut.trans ke_ (KeepBut.of_grown hg g) (Kd.R_base2 z5.out));have n6_:=ak (ho);clear j8;clear j6;clear z0;clear HI0;clear HB;clear HK;clear z5;have j8:=n0_;have j6:=n1_;have z0:=n2_;have HI0:=n3_;have HB:=n4_;have HK:=n5_;have ze9:=n6_;clear n0_ n1_ n2_ n3_ n4_ n5_ n6_;clear ho hb hg hat))
                go_roundg k2
                case measure => have:=HK1.out;have:=HK2.out;omega
                case rel => exact ⟨(rd j0 r0),(zd5),(wrap64 (m0 - 1)),(zb2),(zb3),es_,es_,H',⟨by have:=HK1.out;have:=HK2.out;omega⟩,⟨by (with_reducible repeat (first | apply Kd.R_alloc | apply Kd.R_drewN | apply Kd.R_drew));exact Kd.R_mono ze9.out (fun _ hk => trivial)⟩,⟨bk_ z0.out⟩,⟨by exact is_⟩,⟨by exact ke_⟩,⟨by exact be_⟩⟩
               ·rw [if_neg c48] at H
                exact absurd H (by simp)
              ·rw [if_neg c47] at H
               exact absurd H (by simp)
             ·rw [if_neg c46] at H
              exact absurd H (by simp)
        ·rw [if_neg c24] at H
         have m8 : decide (0 < m0) = false:=df_ c24;clear c24;(first | rw [m8] | (simp only [i64_w,i32_w];rw [m8]) | skip);have H':=ak H;clear H;go_wp2;go_meet
         case rel => exact ⟨_,(r4),(j2),(j3),H',⟨by have:=HK1.out;first | omega | exact Nat.le_refl _⟩,⟨ra_ z5.out⟩,⟨bk_ z0.out⟩,⟨by exact is_⟩,⟨by exact ke_⟩,⟨by exact be_⟩⟩
     case rest =>
      clear zb8;obtain ⟨kq,r8,r6,r7,HA,zl8,z5,z0,HI0,HK,HB⟩:=hcut
      cases kq with
      | zero => exact absurd HA.out (by simp [spec_l1Cur_stroll.j2])
      | succ zl9 =>
       have H:=HA.out;clear HA;simp only [spec_l1Cur_stroll.j2] at H;replace H:=Option.bind_eq_some_iff.mp H;obtain ⟨⟨zd7,za6,za7⟩,zd8,H⟩:=H;replace H : (if zd7 = true then ((spec_l1Cur_pick.f s0_0 za6 za7 (wrap64 ((z2.length : Int) + 1))).bind fun bt600 => (if r8.length < 17592186044416 then (some ((r8 ++ [bt600.1]),bt600.2.1,bt600.2.2)) else (none))) else (some (r8,za6,za7))) = some (r1,r2,r3):=H;have A52:=ak zd8;clear zd8;by_cases c53 : zd7 = true
       ·subst c53
        rw [if_pos rfl] at H;replace H:=Option.bind_eq_some_iff.mp H;obtain ⟨⟨za9,zc3,zc4⟩,zd9,H⟩:=H;replace H : (if r8.length < 17592186044416 then (some ((r8 ++ [za9]),zc3,zc4)) else (none)) = some (r1,r2,r3):=H;have A54:=ak zd9;clear zd9;by_cases c55 : r8.length < 17592186044416
        ·rw [if_pos c55] at H
         have zf0:=ak c55;clear c55;obtain ⟨zg0,za1⟩ : ∃ y_ : List Int,y_ = (r8 ++ [za9]):=⟨_,rfl⟩;(replace H : (some (zg0,zc3,zc4)) = some (r1,r2,r3):=by first|(rw [za1];with_reducible first|exact H|exact bs_ H)|with_reducible exact bs_ H|with_reducible exact H|(rw [za1];exact H)|exact H);have zf1:=ak za1;clear za1;simp only [Option.some.injEq,Prod.mk.injEq] at H;obtain ⟨rfl,rfl,rfl⟩:=H;go_wp2_with (first | ((with_reducible refine gate_callee (f:=61) rfl ?_);refine goesL_ (some 65) rfl rfl Try.func61 (by kernel_rfl) rfl #[.pointer (some ⟨g,0,none⟩),.int .i64 16] rfl ls_ ?_;(with_reducible refine (spec_l1Cur_one.calls g s0_0 r6 r7 16 true za6 za7 w0 _ ?j4 ?j5 A52.out).mono ?_);(case j4 => exact is_);(case j5 => exact be_);rintro e w56 ⟨rfl,hi,hb,hk⟩;refine ⟨_,rfl,?_⟩;replace z5:=ak (Kd.R_mono (Kd.R_keep (IsS72.apart (show IsS72 w0 _ g s0_0 r6 r7 from by exact is_) (ra_ z5.out) (by decide)) hk (fun _ h => h.2)) (fun _ h => h.1));replace z0:=ak (KeepBut.blk hk (g':=z4) (o:=.cells #[.int .i64 a1_0,.slice j1 z2.length c1_1] 27 (0,0)) (bk_ z0.out) j7.out (by simp));replace HK:=ak (KeepBut.trans (ke_ (w:=w)) hk (.inl rfl));replace HI0:=ak (hi);replace HB:=ak (hb);(try clear hb);(try clear hb2);(try clear hk);(try clear hi);have zk3:=j7.out;have zk4:=z1.out;have zh9:=b20 z0;have zi0:=b21 z0;have zi1:=bf_ z0 0;have zi2:=bf_ z0 1) | ((with_reducible refine gate_callee (f:=62) rfl ?_);refine goesL_ (some 72) rfl rfl Try.func62 (by kernel_rfl) rfl #[.pointer (some ⟨g,0,none⟩),.int .i64 (wrap64 ((z2.length : Int) + 1))] rfl ls_ ?_;(with_reducible refine (spec_l1Cur_pick.calls g s0_0 za6 za7 (wrap64 ((z2.length : Int) + 1)) za9 zc3 zc4 w0 _ ?j4 ?j5 A54.out).mono ?_);(case j4 => exact is_);(case j5 => exact be_);rintro e w59 ⟨rfl,hi,hb,hk⟩;refine ⟨_,rfl,?_⟩;replace z5:=ak (Kd.R_mono (Kd.R_keep (IsS72.apart (show IsS72 w0 _ g s0_0 za6 za7 from by exact is_) (ra_ z5.out) (by decide)) hk (fun _ h => h.2)) (fun _ h => h.1));replace z0:=ak (KeepBut.blk hk (g':=z4) (o:=.cells #[.int .i64 a1_0,.slice j1 z2.length c1_1] 27 (0,0)) (bk_ z0.out) j7.out (by simp));replace HK:=ak (KeepBut.trans (ke_ (w:=w)) hk (.inl rfl));replace HI0:=ak (hi);replace HB:=ak (hb);(try clear hb);(try clear hb2);(try clear hk);(try clear hi)) | ((with_reducible refine gate_builtin (b:=.append) (xs:=#[.tmp 66,.tmp 73]) rfl ?_);at_builtin;refine Kd.R_append (Kd.int .i64) w.heap.size rfl (.tmp 66) (.tmp 73) 22 3 (.int .i64 0) 8 rfl Try.underlying22 info3 rfl (by decide) (by omega) u7 r8 za9 [.int .i64 za9] (fun _ => True) (fun _ => False) rfl rfl ?aP (fun _ hk => hk.elim) ?aF ?aO (Below.refl _ _) ?aS ?aL ?_;(case aP => exact rfl);(case aF => exact (fun _ _ => trivial));(case aO => exact (ra_ z5.out));(case aS => exact (keep_size (w:=w) (g:=g) (row:=none) ke_));(case aL => have:=zf0.out;omega);intro zm0 w60 ho hb hg hat;rw [← zf1.out] at ho;have n0_:=ak (blk_grown (g:=z4) (o:=.cells #[.int .i64 a1_0,.slice j1 z2.length c1_1] 27 (0,0)) (bk_ z0.out) hg (Kd.R_ne z5.out z0.out (by decide)));have n1_:=ak (IsS72.grown is_ hg (IsS72.own_ne HI0.out z5.out (by decide)));have n2_:=ak (below_weaken be_ HL.out hb);have n3_:=ak (KeepBut.trans ke_ (KeepBut.of_grown hg g) (Kd.R_base2 z5.out));have n4_:=ak (ho);clear z0;clear HI0;clear HB;clear HK;clear z5;have z0:=n0_;have HI0:=n1_;have HB:=n2_;have HK:=n3_;have zf2:=n4_;clear n0_ n1_ n2_ n3_ n4_;clear ho hb hg hat))
         go_ret;exact ⟨_,er_,by (with_reducible repeat (first | apply Kd.R_alloc | apply Kd.R_drewN | apply Kd.R_drew));exact zf2.out,is_,be_,by exact ke_⟩
        ·rw [if_neg c55] at H
         exact absurd H (by simp)
       ·replace c53:=Bool.eq_false_iff.mpr c53
        subst c53;rw [if_neg (show ¬ (false = true) by decide)] at H;simp only [Option.some.injEq,Prod.mk.injEq] at H;obtain ⟨rfl,rfl,rfl⟩:=H;go_wp2_with (first | ((with_reducible refine gate_callee (f:=61) rfl ?_);refine goesL_ (some 65) rfl rfl Try.func61 (by kernel_rfl) rfl #[.pointer (some ⟨g,0,none⟩),.int .i64 16] rfl ls_ ?_;(with_reducible refine (spec_l1Cur_one.calls g s0_0 r6 r7 16 false za6 za7 w0 _ ?j4 ?j5 A52.out).mono ?_);(case j4 => exact is_);(case j5 => exact be_);rintro e w61 ⟨rfl,hi,hb,hk⟩;refine ⟨_,rfl,?_⟩;replace z5:=ak (Kd.R_mono (Kd.R_keep (IsS72.apart (show IsS72 w0 _ g s0_0 r6 r7 from by exact is_) (ra_ z5.out) (by decide)) hk (fun _ h => h.2)) (fun _ h => h.1));replace z0:=ak (KeepBut.blk hk (g':=z4) (o:=.cells #[.int .i64 a1_0,.slice j1 z2.length c1_1] 27 (0,0)) (bk_ z0.out) j7.out (by simp));replace HK:=ak (KeepBut.trans (ke_ (w:=w)) hk (.inl rfl));replace HI0:=ak (hi);replace HB:=ak (hb);(try clear hb);(try clear hb2);(try clear hk);(try clear hi)));go_ret;exact ⟨_,er_,by (with_reducible repeat (first | apply Kd.R_alloc | apply Kd.R_drewN | apply Kd.R_drew));exact z5.out,is_,be_,by exact ke_⟩
    ·rw [if_neg c12] at H
     exact absurd H (by simp)
   ·rw [if_neg c11] at H
    exact absurd H (by simp)

end Go.Proofs.Ytjcmlggdaajicaa.Pr
namespace Go.Proofs.Ytjcmlggdaajicaa.Pr
open Go.RowKit Go.Proofs.YtjcmlggdaajicaaW.PrintWords Go.Proofs.YtjcmlggdaajicaaW.PrintLast Go.Proofs.YtjcmlggdaajicaaW.PrintMore
attribute [local go_sem] max2_int min2_int max_two min_two max_three min_three max_four min_four
set_option linter.unusedVariables false
set_option linter.unusedSimpArgs false

set_option maxHeartbeats 8000000 in
set_option maxRecDepth 100000 in
theorem spec_Strolled.calls (k : Nat) (A0 : Option Addr) (c0 : Nat) (l0 : List Int) (a1_0 : Int) (z3 : Option Addr) (c1_1 : Nat) (z0 : List Int) (r : List Int) (w : World) (hr0 : Kd.C (Kd.int .u8) w A0 l0.length l0) (hc0 : l0.length ≤ c0) (hr1_1 : Kd.C (Kd.int .i64) w z3 z0.length z0) (hc1_1 : z0.length ≤ c1_1) (h : spec_Strolled.f k l0 a1_0 z0 = some r) :
   Calls Try.prog 36 #[.slice A0 l0.length c0,.agg #[.int .i64 a1_0,.slice z3 z0.length c1_1]] w fun e w' => ∃ v0_ : Value,e = .returned (v0_) ∧ Kd.R (Kd.int .i64) 3 w' w.heap.size (fun _ => True) v0_ r ∧ Below w.heap.size w w':=by
  have r4:=Try.underlying27;have r5:=Try.underlying72;have HR0:=ak hr0;have HC0:=ak hc0;clear hr0 hc0;have z8:=ak hr1_1;have j0:=ak hc1_1;clear hr1_1 hc1_1;have HB:=ak (Below.refl w.heap.size w);have H : ((spec_l1Cur_stroll.f k l0 0 0 a1_0 z0).bind fun bt608 => (some bt608.1)) = some r:=h;clear h;replace H:=Option.bind_eq_some_iff.mp H;obtain ⟨⟨z9,j7,j8⟩,A30,H⟩:=H;replace H : (some z9) = some r:=H;have A3:=ak A30;clear A30
  obtain rfl:=Option.some.inj H
  go_enter Try.func36,Try.ntmps36;go_wp2_with (first | ((with_reducible refine gate_dst (N:=3) rfl ?_);refine box_event ?hg (N:=3) ?hd (cs:=#[.int .i64 a1_0,.slice z3 z0.length c1_1]) (t:=27) ?hr ?_;(case hd => rfl);(case hg => rfl);(case hr => first | (go_simp;done) | (go_simp;rfl));intro z2 hg w4 hbox hb;have z1:=ak (hbox);have r3 : Aside0 (w.heap.size ≤ z2):=gz_;have z7 : Aside0 (w.heap.size ≤ z2):=gz_;replace HB:=bq_ hb;clear hb hbox hg) | ((with_reducible refine gate_dst (N:=8) rfl ?_);refine box_event ?hg (N:=8) ?hd (cs:=#[.slice A0 l0.length c0,.int .i64 0,.int .u64 0]) (t:=72) ?hr ?_;(case hd => rfl);(case hg => rfl);(case hr => first | (go_simp;done) | (go_simp;rfl));intro z4 hg w5 hbox hb;have HI607:=ak ((show IsS72 w w5 z4 l0 0 0 from ⟨_,_,hbox,(by rw [hg];exact (below_size hb_) : w.heap.size ≤ z4),HR0.out⟩));have z5:=ak ((by rw [hg];exact Nat.ne_of_lt (blk_lt (g:=z2) (o:=.cells #[.int .i64 a1_0,.slice z3 z0.length c1_1] 27 (0,0)) (bk_ z1.out)) : z2 ≠ z4));have z6:=ak ((by rw [hg];exact Nat.ne_of_gt (blk_lt (g:=z2) (o:=.cells #[.int .i64 a1_0,.slice z3 z0.length c1_1] 27 (0,0)) (bk_ z1.out)) : z4 ≠ z2));replace z1:=bb_ z1 hb;replace HB:=bq_ hb;clear hb hbox hg;have r6:=z5.out;have r7:=z6.out;have j9:=b20 z1;have r0:=b21 z1;have r1:=bf_ z1 0;have r2:=bf_ z1 1) | ((with_reducible refine gate_callee (f:=53) rfl ?_);refine goesL_ (some 11) rfl rfl Try.func53 (by kernel_rfl) rfl #[.pointer (some ⟨z4,0,none⟩),.agg #[.int .i64 a1_0,.slice z3 z0.length c1_1]] rfl ls_ ?_;(with_reducible refine (spec_l1Cur_stroll.calls k z4 l0 0 0 a1_0 _ _ z0 z9 j7 j8 w _ ?j1 ?j2 ?j3 ?j4 ?j5 A3.out).mono ?_);(case j1 => repeat (first | (with_reducible first | exact HI607.out | apply IsS72.alloc | apply IsS72.drewN | apply IsS72.drew | apply IsS72.set_1 | apply IsS72.set_2 | refine IsS72.far ?_ z6.out _) | exact HI607.out));(case j2 => exact be_);(case j3 => exact cb_ z8.out);(case j4 => exact j0.out);(case j5 => exact Kd.far_C 0 z8.out (IsS72.ge HI607.out));rintro e w8 ⟨r8,rfl,ho0,hi,hb,hk⟩;refine ⟨_,rfl,?_⟩;replace z1:=ak (KeepBut.blk hk (g':=z2) (o:=.cells #[.int .i64 a1_0,.slice z3 z0.length c1_1] 27 (0,0)) (bk_ z1.out) z5.out (by simp));have j6:=ak (Kd.R_lower ho0 (below_size be_));replace HI607:=ak (hi);replace HB:=ak (hb);(try clear hb);(try clear hb2);(try clear hk);(try clear hi);(try clear ho0)));go_ret;exact ⟨_,er_,by (with_reducible repeat (first | apply Kd.R_alloc | apply Kd.R_drewN | apply Kd.R_drew));exact j6.out,by exact be_⟩

set_option maxHeartbeats 8000000 in
set_option maxRecDepth 100000 in
theorem impl_between.calls (a0 : Int) (a1 : Int) (a2 : Int) (r : Bool) (w : World) (h : impl_between.f a0 a1 a2 = some r) :
   Calls Try.prog 54 #[.int .i64 a0,.int .i64 a1,.int .i64 a2] w fun e w' => e = .returned (.bool r) ∧ Drawn0 w w':=by
  have H : (if a0 ≥ a1 then (some (decide (a0 ≤ a2))) else (some false)) = some r:=h;clear h;by_cases c4 : a0 ≥ a1
  ·rw [if_pos c4] at H
   have z0 : decide (a1 ≤ a0) = true:=dt_ c4;clear c4
   obtain rfl:=Option.some.inj H
   go_enter Try.func54,Try.ntmps54;go_wp2;go_ret;exact ⟨es_,by repeat (first | exact Drawn0.refl _ | apply Drawn0.step)⟩
  ·rw [if_neg c4] at H
   have z0 : decide (a1 ≤ a0) = false:=df_ c4;clear c4
   obtain rfl:=Option.some.inj H
   go_enter Try.func54,Try.ntmps54;go_wp2;go_ret;exact ⟨es_,by repeat (first | exact Drawn0.refl _ | apply Drawn0.step)⟩

set_option maxHeartbeats 8000000 in
set_option maxRecDepth 100000 in
theorem impl_CmpCost.calls (k : Nat) (a0 : Int) (a1 : Int) (a2 : Int) (a3 : Int) (r1 : Int) (r2 : Bool) (w : World) (h : impl_CmpCost.f k a0 a1 a2 a3 = some (r1,r2)) :
   Calls Try.prog 37 #[.int .i64 a0,.int .i64 a1,.int .i64 a2,.int .i64 a3] w fun e w' => e = .returned (.tuple #[.int .i64 r1,.bool r2]) ∧ Below w.heap.size w w':=by
  have HB:=ak (Below.refl w.heap.size w);have H : ((some (([a0,a1,a2,a3] : List Int) : List Int)).bind fun z1 => (impl_CmpCost.l0 k a0 a1 a2 a3 z1 (z1.length : Int) 0)) = some (r1,r2):=h;clear h;obtain ⟨z1,z4⟩ : ∃ y_ : List Int,y_ = (([a0,a1,a2,a3] : List Int)):=⟨_,rfl⟩;(replace H : (impl_CmpCost.l0 k a0 a1 a2 a3 z1 (z1.length : Int) 0) = some (r1,r2):=by first|(rw [z4];with_reducible first|exact H|exact bs_ H)|with_reducible exact bs_ H|with_reducible exact H|(rw [z4];exact H)|exact H);have z6:=ak z4;clear z4;have H':=ak H;clear H;go_enter Try.func37,Try.ntmps37;go_wp2_with (first | ((with_reducible refine gate_dst (N:=16) rfl ?_);refine Kd.R_lit (Kd.int .i64) _ 3 ?hg (N:=16) ?hd (xs:=([a0,a1,a2,a3] : List Int)) (inner:=[.int .i64 a0,.int .i64 a1,.int .i64 a2,.int .i64 a3]) (ok:=fun _ => True) (okp:=fun _ => True) ?hr ?hp (fun _ hk => hk) trivial (Below.refl _ _) (Nat.le_refl _) (by simp) ?_;(case hd => rfl);(case hg => rfl);(case hr => first | (go_simp;done) | (go_simp;rfl));(case hp => exact (Reps.one (show Kd.M (Kd.int .i64) _ _ _ a0 [.int .i64 a0] from rfl) (Reps.one (show Kd.M (Kd.int .i64) _ _ _ a1 [.int .i64 a1] from rfl) (Reps.one (show Kd.M (Kd.int .i64) _ _ _ a2 [.int .i64 a2] from rfl) (Reps.one (show Kd.M (Kd.int .i64) _ _ _ a3 [.int .i64 a3] from rfl) (Reps.none _ _))))));intro j6 w5 ho6 hb hg_ hnew_;clear hg_ hnew_;(first | rw [← z6.out] at ho6 | (simp only [Int.reduceToNat] at ho6;rw [← z6.out] at ho6));have z7:=ak (Kd.R_lower ho6 (below_size hb_));replace HB:=bq_ hb;clear hb ho6;obtain ⟨Ao7,co7,eo7⟩:=Kd.R_slice z7.out;subst eo7))
  go_loopg [18] k (fun kq v18 w' => ∃ (z0 : Int),v18 = .int .i64 z0 ∧ Aside0 (impl_CmpCost.l0 kq a0 a1 a2 a3 z1 (z1.length : Int) z0 = some (r1,r2)) ∧ Aside0 (kq ≤ k) ∧ Aside0 (Kd.R (Kd.int .i64) 3 w' w.heap.size (fun _ => True) (.slice Ao7 z1.length co7) z1) ∧ Aside0 (Below w.heap.size w w'))
  case atStart => exact ⟨(0),es_,H',⟨Nat.le_refl _⟩,⟨ra_ z7.out⟩,⟨hb_⟩⟩
  case round =>
   clear H';obtain ⟨z0,rfl,HA,HK1,z5,HB⟩:=hrel
   cases gk with
   | zero => exact absurd HA.out (by simp [impl_CmpCost.l0])
   | succ k1 =>
    have H:=HA.out;clear HA;simp only [impl_CmpCost.l0] at H;by_cases c8 : z0 < (z1.length : Int)
    ·rw [if_pos c8] at H
     have j4 : decide (z0 < (z1.length : Int)) = true:=dt_ c8;clear c8;by_cases c9 : 0 ≤ z0
     ·rw [if_pos c9] at H
      have j7 : decide (0 ≤ z0) = true:=dt_ c9;clear c9;by_cases c10 : z0 < (z1.length : Int)
      ·rw [if_pos c10] at H
       have j5 : decide (z0 < (z1.length : Int)) = true:=dt_ c10;clear c10;replace H:=Option.bind_eq_some_iff.mp H;obtain ⟨z9,j0,H⟩:=H;replace H : (if z9 = true then (impl_CmpCost.l0 k1 a0 a1 a2 a3 z1 (z1.length : Int) (wrap64 (z0 + 1))) else (some (0,false))) = some (r1,r2):=H;have A11:=ak j0;clear j0;by_cases c12 : z9 = true
       ·subst c12
        rw [if_pos rfl] at H;have H':=ak H;clear H;have z2 : 0 ≤ (z0 : Int):=od_;have z3 : z0 < (z1.length : Int):=od_;obtain ⟨j3,e616,z8⟩:=Kd.at_int (Kd.R_reads' z5.out).2.2 z0 z2 z3;cases e616;replace z2:=eq_true z2;replace z3:=eq_true z3;go_wp2_with (first | ((with_reducible refine gate_callee (f:=54) rfl ?_);refine goesL_ (some 23) rfl rfl Try.func54 (by kernel_rfl) rfl #[.int .i64 (rd z1 z0),.int .i64 0,.int .i64 1000000] rfl ls_ ?_;(with_reducible refine (impl_between.calls (rd z1 z0) 0 1000000 true _ A11.out).mono ?_);rintro e w' ⟨rfl,⟨nd,rfl⟩⟩;refine ⟨_,rfl,?_⟩));go_roundg k1
        case measure => have:=HK1.out;omega
        case rel => exact ⟨(wrap64 (z0 + 1)),es_,H',⟨by have:=HK1.out;omega⟩,⟨ra_ z5.out⟩,⟨hb_⟩⟩
       ·replace c12:=Bool.eq_false_iff.mpr c12
        subst c12;rw [if_neg (show ¬ (false = true) by decide)] at H;simp only [Option.some.injEq,Prod.mk.injEq] at H;obtain ⟨rfl,rfl⟩:=H;have z2 : 0 ≤ (z0 : Int):=od_;have z3 : z0 < (z1.length : Int):=od_;obtain ⟨j3,e616,z8⟩:=Kd.at_int (Kd.R_reads' z5.out).2.2 z0 z2 z3;cases e616;replace z2:=eq_true z2;replace z3:=eq_true z3;go_wp2_with (first | ((with_reducible refine gate_callee (f:=54) rfl ?_);refine goesL_ (some 23) rfl rfl Try.func54 (by kernel_rfl) rfl #[.int .i64 (rd z1 z0),.int .i64 0,.int .i64 1000000] rfl ls_ ?_;(with_reducible refine (impl_between.calls (rd z1 z0) 0 1000000 false _ A11.out).mono ?_);rintro e w' ⟨rfl,⟨nd,rfl⟩⟩;refine ⟨_,rfl,?_⟩))
        go_ret2
        exact ⟨er_,hb_⟩
      ·rw [if_neg c10] at H
       exact absurd H (by simp)
     ·rw [if_neg c9] at H
      exact absurd H (by simp)
    ·rw [if_neg c8] at H
     have j4 : decide (z0 < (z1.length : Int)) = false:=df_ c8;clear c8;replace H:=Option.bind_eq_some_iff.mp H;obtain ⟨j1,j2,H⟩:=H;replace H : (some (j1,true)) = some (r1,r2):=H;have A13:=ak j2;clear j2;simp only [Option.some.injEq,Prod.mk.injEq] at H;obtain ⟨rfl,rfl⟩:=H;go_wp2_with (first | ((with_reducible refine gate_callee (f:=51) rfl ?_);refine goesL_ (some 32) rfl rfl Try.func51 (by kernel_rfl) rfl #[.int .i64 (wrap64 (a0 - a2)),.int .i64 (wrap64 (a1 - a3))] rfl ls_ ?_;(with_reducible refine (impl_cmpCost.calls (wrap64 (a0 - a2)) (wrap64 (a1 - a3)) j1 _ A13.out).mono ?_);rintro e w' ⟨rfl,⟨nd,rfl⟩⟩;refine ⟨_,rfl,?_⟩))
     go_ret2
     exact ⟨er_,hb_⟩

end Go.Proofs.Ytjcmlggdaajicaa.Pr
/-
Own text: costs are compared by whole numbers,in the program and in the reference.
-/
namespace Go.Proofs.Ytjcmlggdaajicaa.Pure
open Go.RowKit Go.Proofs.YtjcmlggdaajicaaW.PrintWords Go.Proofs.YtjcmlggdaajicaaW.PrintLast Go.Proofs.Ytjcmlggdaajicaa.Pr Go.Proofs.Ytjcmlggdaajicaa.EvKit
open Dij (wt sgn)
set_option linter.unusedVariables false

theorem sgn_impl (x : Int) : impl_sign.f x = some (sgn x):=by
  unfold impl_sign.f sgn
  split
  (rfl)
  · split <;> rfl
theorem sgn_spec (x : Int) : spec_l18Sign.f x = some (sgn x):=sgn_impl x
theorem sgn_pos {x : Int} (h : 0 < x) : sgn x = 1:=by unfold sgn;rw [if_neg (by omega),if_pos h]
theorem sgn_neg {x : Int} (h : x < 0) : sgn x = -1:=by unfold sgn;rw [if_pos h]
theorem sgn_zero : sgn 0 = 0:=rfl
theorem sgn_lt {x : Int} : sgn x < 0 ↔ x < 0:=by
  unfold sgn
  split
  · simp;assumption
  · split <;> simp <;> omega
theorem sgn_eq0 {x : Int} : sgn x = 0 ↔ x = 0:=by
  unfold sgn
  split
  · simp;omega
  · split <;> simp <;> omega
theorem sgn_ppos {x : Int} : 0 < sgn x ↔ 0 < x:=by
  unfold sgn
  split
  · simp;omega
  · split <;> simp <;> omega
theorem wt_def (a b : Int) : wt (a,b) = a * 5741 + b * 8119:=rfl
theorem cmp_impl {a b : Int} (ha : -5000 ≤ a ∧ a ≤ 5000) (hb : -5000 ≤ b ∧ b ≤ 5000) : impl_cmpCost.f a b = some (sgn (wt (a,b))):=by
  have sa:=sq_le a 5000 ha.1 ha.2;have sb:=sq_le b 5000 hb.1 hb.2
  have na : 0 ≤ a * a:=by rcases sq_cases a with ⟨_,e⟩ | ⟨_,e⟩ | ⟨_,e⟩ <;> omega
  have nb : 0 ≤ b * b:=by rcases sq_cases b with ⟨_,e⟩ | ⟨_,e⟩ | ⟨_,e⟩ <;> omega
  have e2 : 2 * b * b = 2 * (b * b):=Int.mul_assoc 2 b b
  have ew : wrap64 (wrap64 (a * a) - wrap64 (wrap64 (2 * b) * b)) = a * a - 2 * (b * b):=by
    rw [wrap64_id (x:=2 * b) (by omega) (by omega),e2,wrap64_id (x:=a * a) (by omega) (by omega),wrap64_id (x:=2 * (b * b)) (by omega) (by omega),wrap64_id (by omega) (by omega)]
  unfold impl_cmpCost.f;simp only [sgn_impl,Option.bind_some,ew,wrap64_id (x:=a + b) (by omega) (by omega)]
  rcases Int.lt_trichotomy a 0 with h1 | h1 | h1 <;> rcases Int.lt_trichotomy b 0 with h2 | h2 | h2
  · rw [sgn_neg h1,sgn_neg h2,if_pos (by rw [wrap64_id (by decide) (by decide)];decide),sgn_neg (by omega),sgn_neg (by rw [wt_def];omega)]
  · subst h2;rw [sgn_neg h1,sgn_zero,if_pos (by rw [wrap64_id (by decide) (by decide)];decide),sgn_neg (by omega),sgn_neg (by rw [wt_def];omega)]
  · rw [sgn_neg h1,sgn_pos h2,if_neg (by rw [wrap64_id (by decide) (by decide)];decide)]
    rcases Dij.key_int' a b h1 h2 (by omega) with ⟨h3,h4⟩ | ⟨h3,h4⟩
    · rw [sgn_pos h3,sgn_neg (by omega),wrap64_id (by decide) (by decide)];rfl
    · rw [sgn_neg h3,sgn_pos (by omega),wrap64_id (by decide) (by decide)];rfl
  · subst h1;rw [sgn_neg h2,sgn_zero,if_pos (by rw [wrap64_id (by decide) (by decide)];decide),sgn_neg (by omega),sgn_neg (by rw [wt_def];omega)]
  · subst h1;subst h2;rw [sgn_zero,if_pos (by rw [wrap64_id (by decide) (by decide)];decide)];rfl
  · subst h1;rw [sgn_pos h2,sgn_zero,if_pos (by rw [wrap64_id (by decide) (by decide)];decide),sgn_pos (by omega),sgn_pos (by rw [wt_def];omega)]
  · rw [sgn_pos h1,sgn_neg h2,if_neg (by rw [wrap64_id (by decide) (by decide)];decide)]
    rcases Dij.key_int a b h1 h2 (by omega) with ⟨h3,h4⟩ | ⟨h3,h4⟩
    · rw [sgn_neg h3,sgn_neg (by omega),wrap64_id (by decide) (by decide)];rfl
    · rw [sgn_pos h3,sgn_pos (by omega),wrap64_id (by decide) (by decide)];rfl
  · subst h2;rw [sgn_pos h1,sgn_zero,if_pos (by rw [wrap64_id (by decide) (by decide)];decide),sgn_pos (by omega),sgn_pos (by rw [wt_def];omega)]
  · rw [sgn_pos h1,sgn_pos h2,if_pos (by rw [wrap64_id (by decide) (by decide)];decide),sgn_pos (by omega),sgn_pos (by rw [wt_def];omega)]
theorem cmp_spec {a b : Int} (ha : -5000 ≤ a ∧ a ≤ 5000) (hb : -5000 ≤ b ∧ b ≤ 5000) : Ev (fun k => spec_l18Cmp.f k a b) (sgn (wt (a,b))):=by
  have sa:=sq_le a 5000 ha.1 ha.2;have sb:=sq_le b 5000 hb.1 hb.2
  have na : 0 ≤ a * a:=by rcases sq_cases a with ⟨_,e⟩ | ⟨_,e⟩ | ⟨_,e⟩ <;> omega
  have nb : 0 ≤ b * b:=by rcases sq_cases b with ⟨_,e⟩ | ⟨_,e⟩ | ⟨_,e⟩ <;> omega
  have e2 : 2 * b * b = 2 * (b * b):=Int.mul_assoc 2 b b
  have ew : wrap64 (wrap64 (2 * b) * b) = 2 * (b * b):=by
    rw [wrap64_id (x:=2 * b) (by omega) (by omega),e2,wrap64_id (x:=2 * (b * b)) (by omega) (by omega)]
  have ja : Ev (fun k => spec_l18Cmp.j0 k a b true) (sgn a):=by
    refine Ev.succ ?_;simp only [spec_l18Cmp.j0,if_true,sgn_spec];exact Ev.bnd0 rfl (Ev.some rfl)
  have jf : ∀ r,(a = 0 → r = sgn b) → (a ≠ 0 → 2 * (b * b) < a * a → r = sgn a) → (a ≠ 0 → ¬ 2 * (b * b) < a * a → r = sgn b) → Ev (fun k => spec_l18Cmp.j0 k a b false) r:=by
    intro r r1 r2 r3;refine Ev.succ ?_;simp only [spec_l18Cmp.j0,Bool.false_eq_true,if_false,sgn_spec,ew,wrap64_id (x:=a * a) (by omega) (by omega)];refine Ev.ite (fun h => Ev.bnd0 rfl (Ev.some (r1 h).symm)) (fun h => Ev.ite (fun h2 => Ev.bnd0 rfl (Ev.some (r2 h h2).symm)) (fun h2 => Ev.bnd0 rfl (Ev.some (r3 h h2).symm)))
  simp only [spec_l18Cmp.f];refine Ev.bnd0 (sgn_spec a) (Ev.bnd0 (sgn_spec b) (Ev.ite (fun h => Ev.eq ja ?_) (fun h => ?_)))
  · rcases Int.lt_trichotomy a 0 with h1 | h1 | h1 <;> rcases Int.lt_trichotomy b 0 with h2 | h2 | h2
    · rw [sgn_neg h1,sgn_neg (by rw [wt_def];omega)]
    · subst h2;rw [sgn_neg h1,sgn_zero] at h;exact absurd h (by decide)
    · rw [sgn_neg h1,sgn_pos h2] at h;exact absurd h (by decide)
    · subst h1;rw [sgn_neg h2,sgn_zero] at h;exact absurd h (by decide)
    · subst h1;subst h2;rfl
    · subst h1;rw [sgn_pos h2,sgn_zero] at h;exact absurd h (by decide)
    · rw [sgn_pos h1,sgn_neg h2] at h;exact absurd h (by decide)
    · subst h2;rw [sgn_pos h1,sgn_zero] at h;exact absurd h (by decide)
    · rw [sgn_pos h1,sgn_pos (by rw [wt_def];omega)]
  · by_cases hb0 : b = 0
    · subst hb0
      refine Ev.eq ja ?_
      rcases Int.lt_trichotomy a 0 with h1 | h1 | h1
      · rw [sgn_neg h1,sgn_neg (by rw [wt_def];omega)]
      · subst h1;exact absurd rfl h
      · rw [sgn_pos h1,sgn_pos (by rw [wt_def];omega)]
    · rw [show (b == 0) = false from beq_eq_false_iff_ne.2 hb0]
      refine jf _ (fun h1 => ?_) (fun h1 h3 => ?_) (fun h1 h3 => ?_)
      · subst h1
        rcases Int.lt_trichotomy b 0 with h2 | h2 | h2
        · rw [sgn_neg h2,sgn_neg (by rw [wt_def];omega)]
        · exact absurd h2 hb0
        · rw [sgn_pos h2,sgn_pos (by rw [wt_def];omega)]
      all_goals
        rcases Int.lt_trichotomy a 0 with h4 | h4 | h4
        · rcases Int.lt_trichotomy b 0 with h2 | h2 | h2
          · rw [sgn_neg h4,sgn_neg h2] at h;exact absurd rfl h
          · exact absurd h2 hb0
          · rcases Dij.key_int' a b h4 h2 (by omega) with ⟨h5,h6⟩ | ⟨h5,h6⟩
            · first | (exfalso;omega) | rw [sgn_pos h5,sgn_pos h2]
            · first | (exfalso;omega) | rw [sgn_neg h5,sgn_neg h4]
        · exact absurd h4 h1
        · rcases Int.lt_trichotomy b 0 with h2 | h2 | h2
          · rcases Dij.key_int a b h4 h2 (by omega) with ⟨h5,h6⟩ | ⟨h5,h6⟩
            · first | (exfalso;omega) | rw [sgn_neg h5,sgn_neg h2]
            · first | (exfalso;omega) | rw [sgn_pos h5,sgn_pos h4]
          · exact absurd h2 hb0
          · rw [sgn_pos h4,sgn_pos h2] at h;exact absurd rfl h
end Go.Proofs.Ytjcmlggdaajicaa.Pure
/-
Own text: the cells around one: the program's and the reference's lists.
-/
namespace Go.Proofs.Ytjcmlggdaajicaa.Pure
open Go.RowKit Go.Proofs.YtjcmlggdaajicaaW.PrintWords Go.Proofs.YtjcmlggdaajicaaW.PrintLast Go.Proofs.Ytjcmlggdaajicaa.Pr Go.Proofs.Ytjcmlggdaajicaa.EvKit
open Classical
set_option linter.unusedVariables false

section
variable {w : Int} {c : List Int}
def dirsRow (y : Int) : List (Int × Int):=[(-1,y),(0,y),(1,y)]
theorem dirs_rows : dirs = dirsRow (-1) ++ dirsRow 0 ++ dirsRow 1:=rfl
/-- One cell of the reference's list. -/
theorem around_step {a : Int} (h : Cl w c) (h0 : 0 ≤ a) (h1 : a < c.length) (acc : List Int) (hacc : acc.length ≤ 9) {r : List Int} (y x : Int) (hy : -1 ≤ y ∧ y ≤ 1) (hx : -1 ≤ x ∧ x ≤ 1)
    (hr : Ev (fun k => spec_l18Around.l1 k a (acc ++ (ar1 w c a (x,y)).toList) y (x + 1) w c) r) : Ev (fun k => spec_l18Around.l1 k a acc y x w c) r:=by
  have hX:=X_range h a;have hY:=Y_range h h0 h1;have hw:=h.w1;have hw2:=h.w16;have hH:=h.h16;have hH1:=h.h1;refine Ev.succ ?_;simp only [spec_l18Around.l1];rw [tmod_X h0,tdiv_Y h0,wrap64_id (x:=Y_ w a) (by omega) (by omega),wrap64_id (x:=X_ w a + x) (by omega) (by omega),wrap64_id (x:=Y_ w a + y) (by omega) (by omega),wrap64_id (x:=x + 1) (by omega) (by omega)];refine Ev.pos (by omega) (Ev.neg (by omega) ?_);have hd : Int.tdiv (c.length : Int) w = H_ w c:=Int.tdiv_eq_ediv_of_nonneg (by omega)
  have hhas : spec_l12Has.f w (c.length : Int) (X_ w a + x) (Y_ w a + y) = some (decide (0 ≤ X_ w a + x ∧ X_ w a + x < w ∧ 0 ≤ Y_ w a + y ∧ Y_ w a + y < H_ w c)):=by
    unfold spec_l12Has.f;rw [hd,wrap64_id (x:=H_ w c) (by omega) (by omega)];by_cases p1 : X_ w a + x ≥ 0
    · rw [if_pos p1]
      by_cases p2 : X_ w a + x < w
      · rw [if_pos p2]
        by_cases p3 : Y_ w a + y ≥ 0
        · rw [if_pos p3,if_neg (by omega)]
          simp [show 0 ≤ X_ w a + x from p1,p2,show 0 ≤ Y_ w a + y from p3]
        · rw [if_neg p3]
          simp [show ¬ 0 ≤ Y_ w a + y from p3]
      · rw [if_neg p2]
        simp [p2]
    · rw [if_neg p1]
      simp [show ¬ 0 ≤ X_ w a + x from p1]
  refine Ev.bnd0 hhas ?_;by_cases hin : 0 ≤ X_ w a + x ∧ X_ w a + x < w ∧ 0 ≤ Y_ w a + y ∧ Y_ w a + y < H_ w c
  · rw [dt_ hin]
    (have hn : Nx w c a x y = (Y_ w a + y) * w + (X_ w a + x):=by unfold Nx;rw [if_pos hin]);have hci:=cell_in h hin.1 hin.2.1 hin.2.2.1 hin.2.2.2;have hm:=mul_le16 (x:=Y_ w a + y) (y:=w) (by omega) (by omega) (by omega) hw2;rw [wrap64_id (x:=(Y_ w a + y) * w) (by omega) (by omega),wrap64_id (x:=(Y_ w a + y) * w + (X_ w a + x)) (by omega) (by omega),← hn]
    have hs : Nx w c a x y = a ↔ x = 0 ∧ y = 0:=by
      constructor
      · intro e
        have e1:=X_cell hin.1 hin.2.1 (Y_ w a + y);have e2:=Y_cell hin.1 hin.2.1 (Y_ w a + y);rw [← hn,e] at e1 e2
        omega
      · rintro ⟨rfl,rfl⟩
        rw [hn,Int.add_zero,Int.add_zero];exact XY w a
    refine Ev.pos rfl ?_
    have put : ¬ (x = 0 ∧ y = 0) → Ev (fun k => if acc.length < 17592186044416 then spec_l18Around.l1 k a (acc ++ [Nx w c a x y]) y (x + 1) w c else none) r:=by
      intro hne;refine Ev.pos (by omega) ?_
      have e : ar1 w c a (x,y) = some (Nx w c a x y):=by
        unfold ar1
        simp only
        rw [if_neg (fun hh => hh.elim (fun hh => by omega) (fun hh => hne (hs.1 hh)))]
      rw [e] at hr;exact hr
    refine Ev.ite (fun p1 => Ev.ite (fun p2 => ?_) (fun p2 => put (fun z => p2 z.2))) (fun p1 => put (fun z => p1 z.1))
    have e : ar1 w c a (x,y) = none:=by
      unfold ar1
      simp only
      rw [if_pos (.inr (hs.2 ⟨p1,p2⟩))]
    rw [e] at hr
    simpa using hr
  · rw [df_ hin]
    have e : ar1 w c a (x,y) = none:=by
      unfold ar1 Nx
      simp only
      rw [if_neg hin,if_pos (.inl (by decide))]
    rw [e] at hr;refine Ev.neg (by simp) ?_
    simpa using hr
theorem ar_len (a : Int) (d : Int × Int) : ((ar1 w c a d).toList).length ≤ 1:=by cases ar1 w c a d <;> simp
theorem around_row {a : Int} (h : Cl w c) (h0 : 0 ≤ a) (h1 : a < c.length) (acc : List Int) (hacc : acc.length ≤ 6) {r : List Int} (y : Int) (hy : -1 ≤ y ∧ y ≤ 1)
    (hr : Ev (fun k => spec_l18Around.l0 k a (acc ++ (dirsRow y).filterMap (ar1 w c a)) (y + 1) w c) r) : Ev (fun k => spec_l18Around.l0 k a acc y w c) r:=by
  refine Ev.succ ?_;simp only [spec_l18Around.l0];refine Ev.pos (by omega) ?_;have l1:=ar_len (w:=w) (c:=c) a (-1,y);have l2:=ar_len (w:=w) (c:=c) a (0,y);refine around_step h h0 h1 acc (by omega) y (-1) hy (by omega) (around_step h h0 h1 _ (by simp;omega) y 0 hy (by omega) (around_step h h0 h1 _ (by simp;omega) y 1 hy (by omega) (Ev.succ ?_)));simp only [spec_l18Around.l1];refine Ev.neg (by omega) ?_;rw [wrap64_id (x:=y + 1) (by omega) (by omega)]
  have e : acc ++ (ar1 w c a (-1,y)).toList ++ (ar1 w c a (0,y)).toList ++ (ar1 w c a (1,y)).toList = acc ++ (dirsRow y).filterMap (ar1 w c a):=by
    unfold dirsRow;simp only [List.filterMap_cons,List.filterMap_nil,List.append_assoc]
    cases ar1 w c a (-1,y) <;> cases ar1 w c a (0,y) <;> cases ar1 w c a (1,y) <;> rfl
  rw [e];exact hr
theorem around_spec {a : Int} (h : Cl w c) (h0 : 0 ≤ a) (h1 : a < c.length) : Ev (fun k => spec_l18Around.f k w c a) (AR w c a):=by
  simp only [spec_l18Around.f];(have hl : ∀ y,((dirsRow y).filterMap (ar1 w c a)).length ≤ 3:=fun y => List.length_filterMap_le _ _);have l1:=hl (-1);have l2:=hl 0;refine around_row h h0 h1 [] (by simp) (-1) (by omega) (around_row h h0 h1 _ (by simpa using Nat.le_trans l1 (by omega)) 0 (by omega) (around_row h h0 h1 _ (by simp only [List.nil_append,List.length_append];omega) 1 (by omega) (Ev.succ ?_)));simp only [spec_l18Around.l0];refine Ev.neg (by omega) (Ev.some ?_);unfold AR;rw [dirs_rows,List.filterMap_append,List.filterMap_append,List.nil_append]
/-- What the program's list takes of a cell. -/
noncomputable def nb1 (w : Int) (c : List Int) (a : Int) (d : Int × Int) : Option (Int × Int × Int):=(ar1 w c a d).bind (st1 w c a)
theorem NB_dirs (a : Int) : NB w c a = dirs.filterMap (nb1 w c a):=by
  unfold NB AR;rw [List.filterMap_filterMap]
  rfl
def cst (x : Int × Int × Int) : S66:=⟨x.2.1,x.2.2⟩
theorem iaround_step {a : Int} (h : Cl w c) (h0 : 0 ≤ a) (h1 : a < c.length) (acc : List (Int × Int × Int)) (hacc : acc.length ≤ 9) {r : List Int × List S66} (y x : Int) (hy : -1 ≤ y ∧ y ≤ 1) (hx : -1 ≤ x ∧ x ≤ 1)
    (hr : Ev (fun k => impl_Cells_around.l1 k a ((acc ++ (nb1 w c a (x,y)).toList).map (·.1)) ((acc ++ (nb1 w c a (x,y)).toList).map cst) y (x + 1) w c) r) : Ev (fun k => impl_Cells_around.l1 k a (acc.map (·.1)) (acc.map cst) y x w c) r:=by
  refine Ev.succ ?_;simp only [impl_Cells_around.l1];rw [next_eq h h0 h1 (dx:=x) (dy:=y) (by omega) (by omega)];refine Ev.pos (by omega) (Ev.bnd0 rfl ?_)
  have skip : ∀ b : Int,nb1 w c a (x,y) = none → Ev (fun k => impl_Cells_around.j2 k a (acc.map (·.1)) (acc.map cst) y x b true w c) r:=by
    intro b e;refine Ev.succ ?_;simp only [impl_Cells_around.j2,if_true,wrap64_id (x:=x + 1) (by omega) (by omega)];rw [e] at hr
    simpa using hr
  by_cases c1 : Nx w c a x y < 0
  · refine Ev.pos c1 (skip _ ?_)
    unfold nb1 ar1
    simp only
    rw [if_pos (.inl c1)]
    rfl
  · refine Ev.neg c1 ?_
    by_cases c2 : Nx w c a x y = a
    · rw [show (Nx w c a x y == a) = true from beq_iff_eq.2 c2]
      refine skip _ ?_;unfold nb1 ar1
      simp only
      rw [if_pos (.inr c2)]
      rfl
    · rw [show (Nx w c a x y == a) = false from beq_eq_false_iff_ne.2 c2]
      have e : ar1 w c a (x,y) = some (Nx w c a x y):=by
        unfold ar1
        simp only
        rw [if_neg (fun hh => hh.elim c1 c2)]
      (have e2 : nb1 w c a (x,y) = st1 w c a (Nx w c a x y):=by unfold nb1;rw [e];rfl);obtain ⟨p,q,s1,s2,s3⟩:=step_impl h a (Nx w c a x y);refine Ev.succ ?_;simp only [impl_Cells_around.j2,Bool.false_eq_true,if_false,wrap64_id (x:=x + 1) (by omega) (by omega)];refine Ev.bnd s1 ?_;rw [e2] at hr
      rcases Stp_or w c a (Nx w c a x y) with e3 | e3 | e3
      · rw [e3]
        refine Ev.neg (by simp) ?_;(have : st1 w c a (Nx w c a x y) = none:=by unfold st1;rw [if_neg (by omega),if_neg (by omega)]);rw [this] at hr
        simpa using hr
      · obtain ⟨rfl,rfl⟩:=s2 e3
        rw [e3];(have : st1 w c a (Nx w c a x y) = some (Nx w c a x y,1,0):=by unfold st1;rw [if_pos e3]);rw [this] at hr;refine Ev.pos (by simp) (Ev.bnd0 rfl (Ev.pos (by simp;omega) (Ev.bnd0 rfl (Ev.pos (by simp;omega) ?_))))
        simpa [cst] using hr
      · obtain ⟨rfl,rfl⟩:=s3 e3
        rw [e3];(have : st1 w c a (Nx w c a x y) = some (Nx w c a x y,0,1):=by unfold st1;rw [if_neg (by omega),if_pos e3]);rw [this] at hr;refine Ev.pos (by simp) (Ev.bnd0 rfl (Ev.pos (by simp;omega) (Ev.bnd0 rfl (Ev.pos (by simp;omega) ?_))))
        simpa [cst] using hr
theorem nb1_len (a : Int) (d : Int × Int) : ((nb1 w c a d).toList).length ≤ 1:=by cases nb1 w c a d <;> simp
theorem iaround_row {a : Int} (h : Cl w c) (h0 : 0 ≤ a) (h1 : a < c.length) (acc : List (Int × Int × Int)) (hacc : acc.length ≤ 6) {r : List Int × List S66} (y : Int) (hy : -1 ≤ y ∧ y ≤ 1)
    (hr : Ev (fun k => impl_Cells_around.l0 k a ((acc ++ (dirsRow y).filterMap (nb1 w c a)).map (·.1)) ((acc ++ (dirsRow y).filterMap (nb1 w c a)).map cst) (y + 1) w c) r) : Ev (fun k => impl_Cells_around.l0 k a (acc.map (·.1)) (acc.map cst) y w c) r:=by
  refine Ev.succ ?_;simp only [impl_Cells_around.l0];refine Ev.pos (by omega) ?_;have l1:=nb1_len (w:=w) (c:=c) a (-1,y);have l2:=nb1_len (w:=w) (c:=c) a (0,y);refine iaround_step h h0 h1 acc (by omega) y (-1) hy (by omega) (iaround_step h h0 h1 _ (by simp;omega) y 0 hy (by omega) (iaround_step h h0 h1 _ (by simp;omega) y 1 hy (by omega) (Ev.succ ?_)));simp only [impl_Cells_around.l1];refine Ev.neg (by omega) ?_;rw [wrap64_id (x:=y + 1) (by omega) (by omega)]
  have e : acc ++ (nb1 w c a (-1,y)).toList ++ (nb1 w c a (0,y)).toList ++ (nb1 w c a (1,y)).toList = acc ++ (dirsRow y).filterMap (nb1 w c a):=by
    unfold dirsRow;simp only [List.filterMap_cons,List.filterMap_nil,List.append_assoc]
    cases nb1 w c a (-1,y) <;> cases nb1 w c a (0,y) <;> cases nb1 w c a (1,y) <;> rfl
  rw [e];exact hr
theorem around_impl {a : Int} (h : Cl w c) (h0 : 0 ≤ a) (h1 : a < c.length) : Ev (fun k => impl_Cells_around.f k w c a) ((NB w c a).map (·.1),(NB w c a).map cst):=by
  simp only [impl_Cells_around.f];(have hl : ∀ y,((dirsRow y).filterMap (nb1 w c a)).length ≤ 3:=fun y => List.length_filterMap_le _ _);have l1:=hl (-1);have l2:=hl 0;refine iaround_row h h0 h1 [] (by simp) (-1) (by omega) (iaround_row h h0 h1 _ (by simpa using Nat.le_trans l1 (by omega)) 0 (by omega) (iaround_row h h0 h1 _ (by simp only [List.nil_append,List.length_append];omega) 1 (by omega) (Ev.succ ?_)));simp only [impl_Cells_around.l0];refine Ev.neg (by omega) (Ev.some ?_);rw [NB_dirs,dirs_rows,List.filterMap_append,List.filterMap_append,List.nil_append]
end
end Go.Proofs.Ytjcmlggdaajicaa.Pure
/-
Own text: a map without deletions,told by the list of its keys and values in the order in which they came.
-/
namespace Go.Proofs.Ytjcmlggdaajicaa.Mp
open Go.MapKept Go.ChangeMaps
set_option linter.unusedVariables false
set_option linter.unusedSimpArgs false

section
variable {α β : Type}
/-- The entries, numbered from n on. -/
def ents (ek : α → Value) (ev : β → Value) : Nat → List (α × β) → List MapEntry
  | _,[] => []
  | n,(a,b) :: l => { key:=ek a,val:=ev b,born:=n } :: ents ek ev (n + 1) l
/-- The map's block. -/
def mobj (ek : α → Value) (ev : β → Value) (L : List (α × β)) : Obj:=.map (ents ek ev 0 L).toArray L.length
theorem mem_ents {ek : α → Value} {ev : β → Value} {L : List (α × β)} {n : Nat} {x : MapEntry} (h : x ∈ ents ek ev n L) : ∃ (i : Nat) (a : α) (c : β),L[i]? = some (a,c) ∧ x = { key:=ek a,val:=ev c,born:=n + i }:=by
  induction L generalizing n with
  | nil => cases h
  | cons p l ih =>
    obtain ⟨a,c⟩:=p
    rcases List.mem_cons.1 h with rfl | h
    · exact ⟨0,a,c,rfl,rfl⟩
    · obtain ⟨i,a',c',h1,h2⟩:=ih h
      exact ⟨i + 1,a',c',by simpa using h1,by rw [h2];simp;omega⟩
variable [DecidableEq α]
/-- What stands at a key. -/
def lk : List (α × β) → α → Option β
  | [],_ => none
  | (a,b) :: l,x => if x = a then some b else lk l x
/-- .. and where. -/
def place : List (α × β) → α → Option (Nat × β)
  | [],_ => none
  | (a,b) :: l,x => if x = a then some (0,b) else (place l x).map fun p => (p.1 + 1,p.2)
/-- m[x] = v. -/
def put : List (α × β) → α → β → List (α × β)
  | [],x,v => [(x,v)]
  | (a,b) :: l,x,v => if x = a then (a,v) :: l else (a,b) :: put l x v
theorem place_lk (L : List (α × β)) (x : α) : (place L x).map Prod.snd = lk L x:=by
  induction L with
  | nil => rfl
  | cons p l ih =>
    obtain ⟨a,b⟩:=p;simp only [place,lk]
    split
    (rfl)
    · rw [← ih]
      cases place l x <;> rfl
theorem lk_put (L : List (α × β)) (x y : α) (v : β) : lk (put L x v) y = if y = x then some v else lk L y:=by
  induction L with
  | nil => simp only [put,lk]
  | cons p l ih =>
    obtain ⟨a,b⟩:=p;simp only [put]
    split
    · rename_i h
      subst h;simp only [lk]
      split <;> rfl
    · rename_i h
      simp only [lk,ih]
      split
      · rename_i h2
        subst h2;rw [if_neg (fun e => h e.symm)]
      (rfl)
theorem put_place {L : List (α × β)} {x : α} (v : β) {i : Nat} {b : β} (h : place L x = some (i,b)) (ek : α → Value) (ev : β → Value) (n : Nat) :
    (put L x v).length = L.length ∧ i < L.length ∧ ents ek ev n (put L x v) = (ents ek ev n L).modify i (fun e => { e with key:=ek x,val:=ev v }) ∧ ((ents ek ev n L)[i]?).map (·.key) = some (ek x):=by
  induction L generalizing n i with
  | nil => cases h
  | cons p l ih =>
    obtain ⟨a,c⟩:=p;simp only [place] at h
    split at h
    · rename_i e
      subst e;cases h
      simp [put,ents,List.modify]
    · rename_i e
      cases hp : place l x with
      | none => rw [hp] at h;cases h
      | some q =>
        rw [hp] at h;obtain ⟨j,b'⟩:=q
        cases h
        obtain ⟨h1,h2,h3,h4⟩:=ih hp (n + 1);simp only [put,if_neg e,ents,List.length_cons];exact ⟨by omega,by omega,by rw [h3];rfl,h4⟩
theorem put_none {L : List (α × β)} {x : α} (v : β) (h : lk L x = none) (ek : α → Value) (ev : β → Value) (n : Nat) :
    put L x v = L ++ [(x,v)] ∧ ents ek ev n (put L x v) = ents ek ev n L ++ [{ key:=ek x,val:=ev v,born:=n + L.length }]:=by
  induction L generalizing n with
  | nil => exact ⟨rfl,rfl⟩
  | cons p l ih =>
    obtain ⟨a,c⟩:=p;simp only [lk] at h
    split at h
    · cases h
    · rename_i e
      obtain ⟨h1,h2⟩:=ih h (n + 1);simp only [put,if_neg e,ents,h1,List.cons_append,List.length_cons];refine ⟨trivial,?_⟩;rw [← h1,h2,show n + 1 + l.length = n + (l.length + 1) by omega]

/-- What a key's type is good for. -/
structure Key (P : Program) (kt : TypeId) (ek : α → Value) : Prop where
  check : ∀ (w : World) (e : Bool) (a : α),(Instr.checkKey e 10000 kt (ek a)).run P w = .ok () w
  find : ∀ (w : World) (β : Type) (ev : β → Value) (L : List (α × β)) (a : α),(Instr.findKey kt (ek a) (ents ek ev 0 L)).run P w = .ok ((place L a).map fun p => (p.1,ev p.2)) w
  stays : ∀ (w : World) (a : α),(Instr.keyThatStays (ek a) (ek a)).run P w = .ok (ek a) w
variable {P : Program} {t kt e : TypeId} {ek : α → Value} {ev : β → Value} {L : List (α × β)} {w : World} {b : Nat}
theorem run_lk (K : Key P kt ek) (ht : P.underlying t = some (.map kt e)) {z : Value} (hz : (zeroValue e).run P w = .ok z w) (hb : w.heap[b]? = some (mobj ek ev L)) (a : α) :
    (Instr.lookup t (.map (some b)) (ek a) false).run P w = .ok (((lk L a).map ev).getD z) w:=by
  have hb' : w.heap[b]? = some (.map (ents ek ev 0 L).toArray L.length):=hb;have hf:=K.find w β ev L a;have hl:=place_lk L a;simp only [Instr.lookup,Sem.run_bind,run_underlying ht,Result.andThen,MapKept.run_getObj_map hb',K.check,List.toList_toArray,hf,Sem.run_pure];rw [← hl]
  cases place L a with
  | none => simp [hz,Result.andThen]
  | some p => simp [Result.andThen]
theorem run_lk_ok (K : Key P kt ek) (ht : P.underlying t = some (.map kt e)) {z : Value} (hz : (zeroValue e).run P w = .ok z w) (hb : w.heap[b]? = some (mobj ek ev L)) (a : α) :
    (Instr.lookup t (.map (some b)) (ek a) true).run P w = .ok (.tuple #[((lk L a).map ev).getD z,.bool (lk L a).isSome]) w:=by
  have hb' : w.heap[b]? = some (.map (ents ek ev 0 L).toArray L.length):=hb;have hf:=K.find w β ev L a;have hl:=place_lk L a;simp only [Instr.lookup,Sem.run_bind,run_underlying ht,Result.andThen,MapKept.run_getObj_map hb',K.check,List.toList_toArray,hf,Sem.run_pure];rw [← hl]
  cases place L a with
  | none => simp [hz,Result.andThen]
  | some p => simp [Result.andThen]
theorem run_put (K : Key P kt ek) (ht : P.underlying t = some (.map kt e)) (hb : w.heap[b]? = some (mobj ek ev L)) (a : α) (v : β) :
    (Instr.mapUpdate t (.map (some b)) (ek a) (ev v)).run P w = .ok () (setBlock w b (mobj ek ev (put L a v))):=by
  have hb' : w.heap[b]? = some (.map (ents ek ev 0 L).toArray L.length):=hb;have hf:=K.find w β ev L a;simp only [Instr.mapUpdate,Sem.run_bind,run_underlying ht,Result.andThen,MapKept.run_getObj_map hb',K.check,List.toList_toArray,hf]
  cases hp : place L a with
  | none =>
    obtain ⟨h1,h2⟩:=put_none v (by rw [← place_lk,hp];rfl) ek ev 0 (L:=L) (x:=a);simp only [Option.map_none,MapKept.run_setObj_map _ hb'];unfold setBlock mobj;rw [h2,h1]
    simp
  | some q =>
    obtain ⟨i,c⟩:=q;obtain ⟨h1,h2,h3,h4⟩:=put_place v hp ek ev 0;simp only [Option.map_some,Sem.run_bind,List.getElem?_toArray];rw [h4];simp only [Option.getD_some,K.stays,Result.andThen,MapKept.run_setObj_map _ hb'];unfold setBlock mobj;rw [h1,h3]
    simp
theorem setBlock_at {w : World} {b : Nat} {o : Obj} (hb : w.heap[b]? = some o) (o' : Obj) : (setBlock w b o').heap[b]? = some o':=by
  have hlt : b < w.heap.size:=(Array.getElem?_eq_some_iff.1 hb).1
  simp [setBlock,hlt]
end
/-- Whole numbers as keys. -/
theorem Key.int {P : Program} {kt : TypeId} (hd : P.underlying kt = some (.int .i64)) : Key P kt (Value.int .i64) where
  check w e a:=run_checkKey hd (k:=.int .i64 a) (by simp [IsKey]) e 9999
  stays w a:=run_keyThatStays (d:=.int .i64) (k:=.int .i64 a) (by simp [IsKey])
  find w β ev L a:=by
    have key : ∀ (L : List (Int × β)) (n i : Nat),Instr.findNow (.int .i64) (.int .i64 a) (ents (Value.int .i64) ev n L) i = some ((place L a).map fun p => (i + p.1,ev p.2)):=by
      intro L
      induction L with
      | nil => intro n i;rfl
      | cons p l ih =>
        intro n i;obtain ⟨x,c⟩:=p;simp only [ents,Instr.findNow,Instr.sameNow,if_true,place];by_cases h : a = x
        · subst h
          simp
        · have hb : (a == x) = false:=beq_eq_false_iff_ne.2 h
          simp only [hb,if_neg h,ih]
          cases place l a with
          | none => rfl
          | some q => simp;omega
    have:=key L 0 0;simp only [Nat.zero_add] at this;exact run_findKey hd this
/-- Two whole numbers as a struct. -/
def ekp (p : Int × Int) : Value:=.agg #[.int .i64 p.1,.int .i64 p.2]
section
variable {P : Program} {kt : TypeId} {f1 f2 : Field}
theorem run_part_int (w : World) {e : TypeId} (he : P.underlying e = some (.int .i64)) {xs : Array Value} {off : Nat} {v : Value} (hx : xs[off]? = some v) : (part e xs off).run P w = .ok v w:=by
  simp [part,isAgg,run_underlying he,hx]
theorem run_eq_pair (w : World) (hu : P.underlying kt = some (.struct #[f1, f2])) (hp : P.stoodInHeld kt = false) (n1 : f1.name ≠ "_") (n2 : f2.name ≠ "_") (t1 : P.underlying f1.type = some (.int .i64)) (t2 : P.underlying f2.type = some (.int .i64)) (o1 : f1.offset = 0) (o2 : f2.offset = 1) (a b : Int × Int) :
    (Op.equal kt (ekp a) (ekp b)).run P w = .ok (decide (a = b)) w:=by
  (have hf : P.fieldsOf kt = #[f1,f2]:=by simp [Program.fieldsOf,hu]);unfold Op.equal Op.maxDepth ekp;rw [run_equalIn_struct w 9999 kt _ _ (by rw [hf];exact hu) hp,hf];(have p1 : ∀ a : Int × Int,(part f1.type #[Value.int .i64 a.1,.int .i64 a.2] f1.offset).run P w = .ok (.int .i64 a.1) w:=fun a => run_part_int w t1 (by rw [o1];rfl));(have p2 : ∀ a : Int × Int,(part f2.type #[Value.int .i64 a.1,.int .i64 a.2] f2.offset).run P w = .ok (.int .i64 a.2) w:=fun a => run_part_int w t2 (by rw [o2];rfl));have e1:=run_equalIn_int (P:=P) w 9998 f1.type .i64 .i64 a.1 b.1 t1;have e2:=run_equalIn_int (P:=P) w 9998 f2.type .i64 .i64 a.2 b.2 t2;obtain ⟨a1,a2⟩:=a;obtain ⟨b1,b2⟩:=b
  have e3 : decide ((a1,a2) = (b1,b2)) = (a1 == b1 && a2 == b2):=by
    rw [Bool.eq_iff_iff]
    simp
  rw [e3];have q1:=p1 (a1,a2);have q2:=p1 (b1,b2);have q3:=p2 (a1,a2);have q4:=p2 (b1,b2)
  simp only at q1 q2 q3 q4 e1 e2
  simp only [Op.eqFields,ne_eq,n1,n2,not_false_eq_true,if_true,Sem.run_bind,q1,q2,Result.andThen,e1]
  cases h1 : (a1 == b1)
  · simp
  · cases h2 : (a2 == b2) <;> rw [h2] at e2 <;> simp [Result.andThen,q3,q4,e2]
theorem Key.pair (hu : P.underlying kt = some (.struct #[f1, f2])) (hp : P.stoodInHeld kt = false) (n1 : f1.name ≠ "_") (n2 : f2.name ≠ "_") (t1 : P.underlying f1.type = some (.int .i64)) (t2 : P.underlying f2.type = some (.int .i64)) (o1 : f1.offset = 0) (o2 : f2.offset = 1) : Key P kt ekp where
  check w e a:=by
    have p1 : (part f1.type #[Value.int .i64 a.1,.int .i64 a.2] f1.offset).run P w = .ok (.int .i64 a.1) w:=run_part_int w t1 (by rw [o1];rfl);have p2 : (part f2.type #[Value.int .i64 a.1,.int .i64 a.2] f2.offset).run P w = .ok (.int .i64 a.2) w:=run_part_int w t2 (by rw [o2];rfl);have c1:=run_checkKey (w:=w) t1 (k:=.int .i64 a.1) (by simp [IsKey]) e 9998;have c2:=run_checkKey (w:=w) t2 (k:=.int .i64 a.2) (by simp [IsKey]) e 9998;have hn : (10000 : Nat) = 9999 + 1:=rfl;rw [hn,ekp];unfold Instr.checkKey;simp only [Sem.run_bind,run_underlying hu,Result.andThen];rw [← Array.forIn_toList]
    simp [n1,n2,p1,p2,c1,c2,Result.andThen]
  stays w a:=by
    have h : Instr.sameBits 10000 (ekp a) (ekp a) = true:=by
      simp [ekp,Instr.sameBits]
    simp [Instr.keyThatStays,h]
  find w β ev L a:=by
    (have eq:=fun b => run_eq_pair w hu hp n1 n2 t1 t2 o1 o2 a b)
    have key : ∀ (L : List ((Int × Int) × β)) (n i : Nat),(Instr.findAsking kt (ekp a) (ents ekp ev n L) i).run P w = .ok ((place L a).map fun p => (i + p.1,ev p.2)) w:=by
      intro L
      induction L with
      | nil => intro n i;rfl
      | cons p l ih =>
        intro n i;obtain ⟨x,c⟩:=p;simp only [ents,Instr.findAsking,Sem.run_bind,eq,Result.andThen,place];by_cases h : a = x
        · simp [h]
        · simp only [h,decide_false,Bool.false_eq_true,if_false,ih]
          cases place l a with
          | none => rfl
          | some q => simp;omega
    have h2:=key L 0 0;simp only [Nat.zero_add] at h2;unfold Instr.findKey;simp only [Sem.run_bind,run_underlying hu,Result.andThen]
    cases L with
    | nil => rfl
    | cons p l =>
      obtain ⟨x,c⟩:=p;simp only [ents,Instr.findNow,Instr.sameNow];exact h2
end
end Go.Proofs.Ytjcmlggdaajicaa.Mp
/-
Own text: maps at the operations: one that is made,one that is written;a queue's first element taken off.
-/
namespace Go.Proofs.Ytjcmlggdaajicaa.Mp
open Go.RowKit Go.Proofs.YtjcmlggdaajicaaW.PrintWords Go.Proofs.YtjcmlggdaajicaaW.PrintLast Go.Proofs.YtjcmlggdaajicaaW.PrintMore
open Go.MapKept Go.ChangeMaps
set_option linter.unusedVariables false

theorem kept_block {w : World} {b : Nat} {o' : Obj} : Kept w (setBlock w b o') (fun k => k = b):=
  ⟨by simp [setBlock],fun i hi hn => by simp [setBlock,Ne.symm hn]⟩
theorem below_block {B : Nat} {w W : World} {b : Nat} {o' : Obj} (h : Below B w W) (hb : B ≤ b) : Below B w (setBlock W b o'):=
  ⟨h.os,h.tape,h.output,by simpa [setBlock] using h.size,fun i hi => by rw [← h.block i hi];simp [setBlock,show ¬ b = i by omega]⟩
section
variable {P : Program} {ops : Array Oper} {rest : List Oper} {o : Oper} {a : Act} {Q : Exit → Act → World → Prop}
variable {α β : Type} {ek : α → Value} {ev : β → Value}
/-- make(map[K]V). -/
theorem make_event {W : World} (hgd : o.guard = none) {N : Tmp} (_hd : o.dst = some N) {t : TypeId} (ho : o.op = .makeMap t none) (ek : α → Value) (ev : β → Value)
    (h : ∀ g,g = W.heap.size → ∀ w1,w1.heap[g]? = some (mobj ek ev []) → Below W.heap.size W w1 → wpList P ops Q rest (a.put o.dst (.map (some g))) w1) : wpList P ops Q (o :: rest) a W:=by
  refine Kd.event_run (w1:=W.alloc (.map #[] 0)) (v:=.map (some W.heap.size)) hgd ?_ (h _ rfl _ (blk_new W _) (below_alloc (Below.refl _ _) _));unfold execOp;rw [ho]
  simp [Instr.makeMap,Result.andThen]
variable [DecidableEq α]
/-- m[x] = v. -/
theorem put_event {W : World} {w0 : World} {B : Nat} (hgd : o.guard = none) (hN : o.dst = none) {t kt e : TypeId} {m x v : Operand} (ho : o.op = .mapUpdate t m x v ∨ o.op = .insert t m x v) (K : Key P kt ek) (ht : P.underlying t = some (.map kt e))
    {g : Nat} {L : List (α × β)} (hb : W.heap[g]? = some (mobj ek ev L)) (key : α) (val : β) (hm : a.eval m = .map (some g)) (hx : a.eval x = ek key) (hv : a.eval v = ev val) (HB : Below B w0 W) (hBg : B ≤ g)
    (h : ∀ w1,w1.heap[g]? = some (mobj ek ev (put L key val)) → Kept W w1 (fun k => k = g) → Below B w0 w1 → wpList P ops Q rest a w1) : wpList P ops Q (o :: rest) a W:=by
  have hrun:=run_put K ht hb key val;(refine wpList_plain hgd fun K' hK' => ?_)
  have he : (execOp a.eval o).run P W = .ok .skip (setBlock W g (mobj ek ev (put L key val))):=by
    unfold execOp
    rcases ho with ho | ho <;> rw [ho] <;> simp [hm,hx,hv,hrun,Result.andThen]
  unfold Oper.wp;rw [he]
  show K' (a.put o.dst undef) _
  rw [hN];exact hK' _ _ (h _ (setBlock_at hb _) kept_block (below_block HB hBg))
end
theorem gate_mapUpdate {P : Program} {ops : Array Oper} {rest : List Oper} {o : Oper} {a : Act} {Q : Exit → Act → World → Prop} {W : World} {t : TypeId} {m x v : Operand} (_ho : o.op = .mapUpdate t m x v) (h : wpList P ops Q (o :: rest) a W) : wpList P ops Q (o :: rest) a W:=h
theorem gate_insert {P : Program} {ops : Array Oper} {rest : List Oper} {o : Oper} {a : Act} {Q : Exit → Act → World → Prop} {W : World} {t : TypeId} {m x v : Operand} (_ho : o.op = .insert t m x v) (h : wpList P ops Q (o :: rest) a W) : wpList P ops Q (o :: rest) a W:=h
theorem cells_map {α β : Type} {ek : α → Value} {ev : β → Value} {L : List (α × β)} {w : World} {g gm t : Nat} {cs : Array Value} (h : w.heap[g]? = some (.cells cs t (0,0))) (hm : w.heap[gm]? = some (mobj ek ev L)) : ¬ g = gm:=fun e => by
  rw [e,hm] at h
  cases h
end Go.Proofs.Ytjcmlggdaajicaa.Mp
/-
Own text: ranging over a map that stands (its entries in whatever order).
-/
namespace Go.Proofs.Ytjcmlggdaajicaa.Mp
open Go.RowKit Go.Proofs.YtjcmlggdaajicaaW.PrintWords Go.Proofs.YtjcmlggdaajicaaW.PrintLast Go.Proofs.YtjcmlggdaajicaaW.PrintMore
open Go.MapKept Go.ChangeMaps
set_option linter.unusedVariables false

section
variable {P : Program} {ops : Array Oper} {rest : List Oper} {o : Oper} {a : Act} {Q : Exit → Act → World → Prop}
variable {α β : Type} {ek : α → Value} {ev : β → Value}
/-- for k, v := range m: the iterator is made. -/
theorem range_event {W : World} (hgd : o.guard = none) {N : Tmp} (_hd : o.dst = some N) {t kt e : TypeId} {m : Operand} (ho : o.op = .range t m) (ht : P.underlying t = some (.map kt e)) {gm : Nat} {L : List (α × β)} (hb : W.heap[gm]? = some (mobj ek ev L)) (hm : a.eval m = .map (some gm))
    (h : ∀ g,g = W.heap.size → ∀ w1,w1.heap[g]? = some (.mapIter (some gm) L.length #[] L.length) → Below W.heap.size W w1 → wpList P ops Q rest (a.put o.dst (.pointer (some ⟨g,0,none⟩))) w1) : wpList P ops Q (o :: rest) a W:=by
  have hr:=run_range_map (P:=P) W t kt e gm _ _ ht hb;refine Kd.event_run (w1:=W.alloc (.mapIter (some gm) L.length #[] L.length)) (v:=.pointer (some ⟨W.heap.size,0,none⟩)) hgd ?_ (h _ rfl _ (blk_new W _) (below_alloc (Below.refl _ _) _));unfold execOp;rw [ho]
  simp [hm,hr,Result.andThen]
/-- The step. -/
theorem next_event {W W1 : World} {v : Value} (hgd : o.guard = none) {N : Tmp} (_hd : o.dst = some N) {it : Operand} (ho : o.op = .next it false) {p : Value} (hi : a.eval it = p) (hrun : ∀ ty,(Instr.next p false ty).run P W = .ok v W1)
    (h : wpList P ops Q rest (a.put o.dst v) W1) : wpList P ops Q (o :: rest) a W:=by
  refine Kd.event_run (w1:=W1) (v:=v) hgd ?_ h;unfold execOp;rw [ho]
  simp [hi,hrun,Result.andThen]
theorem ents_get (L : List (α × β)) (n : Nat) (i : Nat) : (ents ek ev n L)[i]? = (L[i]?).map fun p => { key:=ek p.1,val:=ev p.2,born:=n + i }:=by
  induction L generalizing n i with
  | nil => simp [ents]
  | cons p l ih =>
    obtain ⟨x,y⟩:=p
    cases i with
    | zero => simp [ents]
    | succ i => simp only [ents,List.getElem?_cons_succ,ih];congr 2;funext q;congr 1;omega
theorem ents_born (L : List (α × β)) (n : Nat) : (ents ek ev n L).map (·.born) = List.range' n L.length:=by
  induction L generalizing n with
  | nil => rfl
  | cons p l ih =>
    obtain ⟨x,y⟩:=p
    simp [ents,ih,List.range'_succ]
/-- What the step comes to: nothing is left, or an entry that has not been. -/
theorem next_cases {W : World} {r gm : Nat} {L : List (α × β)} {seen : Array Nat} {c0 : Nat} (hr : W.heap[r]? = some (.mapIter (some gm) L.length seen c0)) (hc : L.length ≤ c0) (hb : W.heap[gm]? = some (mobj ek ev L)) :
    ((∀ i,i < L.length → seen.contains i = true) ∧ ∀ ty,(Instr.next (.pointer (some ⟨r,0,none⟩)) false ty).run P W = .ok (.tuple #[.bool false]) W) ∨
    ∃ (i : Nat) (x : α) (y : β),L[i]? = some (x,y) ∧ seen.contains i = false ∧ ∃ W1 : World,(∀ ty,(Instr.next (.pointer (some ⟨r,0,none⟩)) false ty).run P W = .ok (.tuple #[.bool true,ek x,ev y]) W1) ∧
      W1.heap[r]? = some (.mapIter (some gm) L.length (seen.push i) L.length) ∧ Kept W W1 (fun k => k = r) ∧ (∀ B w,Below B w W → B ≤ r → Below B w W1):=by
  have hb' : W.heap[gm]? = some (.map (ents ek ev 0 L).toArray L.length):=hb
  have hold : ∀ x ∈ (ents ek ev 0 L).toArray.toList,x.born < L.length:=by
    intro x hx;obtain ⟨i,a',c,h1,h2⟩:=mem_ents (by simpa using hx);rw [h2];have:=(List.getElem?_eq_some_iff.1 h1).1
    simp only
    omega
  by_cases hall : ∀ i,i < L.length → seen.contains i = true
  · refine .inl ⟨hall,fun ty => ?_⟩
    rcases run_next_at (P:=P) W ty r gm L.length c0 seen _ _ hr hb' hold hc with ⟨_,h⟩ | ⟨e,he,_⟩
    · exact h
    · exfalso
      unfold leftOf at he;simp only [Array.toList_filter,List.mem_filter,Bool.not_eq_true'] at he;obtain ⟨i,a',c,h1,h2⟩:=mem_ents (by simpa using he.1);have h3:=hall i (List.getElem?_eq_some_iff.1 h1).1;have h4:=he.2;rw [h2] at h4;simp only [Nat.zero_add] at h4;rw [h3] at h4
      cases h4
  · right
    have hty : ∀ ty,∃ e ∈ (leftOf (ents ek ev 0 L).toArray seen).toList,∃ w1 : World,(w1 = W ∨ w1 = W.drew) ∧ (Instr.next (.pointer (some ⟨r,0,none⟩)) false ty).run P W = .ok (.tuple #[.bool true,e.key,e.val]) (setBlock w1 r (.mapIter (some gm) L.length (seen.push e.born) L.length)):=by
      intro ty
      rcases run_next_at (P:=P) W ty r gm L.length c0 seen _ _ hr hb' hold hc with ⟨h0,_⟩ | h
      · exfalso
        apply hall;intro i hi
        cases hs : seen.contains i with
        | true => rfl
        | false =>
          exfalso
          obtain ⟨x,y⟩:=L[i]
          have hmem : ({ key:=ek L[i].1,val:=ev L[i].2,born:=i } : MapEntry) ∈ (leftOf (ents ek ev 0 L).toArray seen).toList:=by
            unfold leftOf;simp only [Array.toList_filter,List.mem_filter,Bool.not_eq_true'];refine ⟨?_,hs⟩;have:=ents_get (ek:=ek) (ev:=ev) L 0 i;rw [List.getElem?_eq_getElem hi] at this;exact List.mem_of_getElem? (by simpa using this)
          rw [← Array.length_toList] at h0;rw [List.length_eq_zero_iff.1 h0] at hmem
          cases hmem
      · exact h
    obtain ⟨e,he,w1,hw1,hrun⟩:=hty 0;have he':=he;unfold leftOf at he';simp only [Array.toList_filter,List.mem_filter,Bool.not_eq_true'] at he';obtain ⟨i,x,y,h1,h2⟩:=mem_ents (by simpa using he'.1);(have hns : seen.contains i = false:=by have h4:=he'.2;rw [h2] at h4;simpa using h4);refine ⟨i,x,y,h1,hns,setBlock w1 r (.mapIter (some gm) L.length (seen.push i) L.length),fun ty => ?_,?_,?_,?_⟩
    · have : (Instr.next (.pointer (some ⟨r,0,none⟩)) false ty) = (Instr.next (.pointer (some ⟨r,0,none⟩)) false 0):=rfl
      rw [this,hrun,h2]
      simp
    · refine setBlock_at (o:=.mapIter (some gm) L.length seen c0) ?_ _
      rcases hw1 with rfl | rfl <;> exact hr
    · rcases hw1 with rfl | rfl
      · exact kept_block
      · exact ⟨kept_block.1,kept_block.2⟩
    · intro B w hB hle
      rcases hw1 with rfl | rfl
      · exact below_block hB hle
      · exact below_block (below_drew hB) hle
/-- The round's key and value. -/
theorem entry_run {W : World} {r gm : Nat} {L : List (α × β)} {seen : Array Nat} {i : Nat} {x : α} {y : β} (hi : L[i]? = some (x,y)) (hr : W.heap[r]? = some (.mapIter (some gm) L.length (seen.push i) L.length)) (hb : W.heap[gm]? = some (mobj ek ev L)) :
    (Instr.entry (.pointer (some ⟨r,0,none⟩))).run P W = .ok (.tuple #[ek x,ev y]) W:=by
  have h:=ents_get (ek:=ek) (ev:=ev) L 0 i;rw [hi] at h;simp only [Option.map_some,Nat.zero_add] at h;refine run_entry_at (P:=P) W r gm L.length seen (ents ek ev 0 L).toArray L.length { key:=ek x,val:=ev y,born:=i } hr hb ?_ ?_
  · simpa using List.mem_of_getElem? h
  · rw [show (ents ek ev 0 L).toArray.toList = ents ek ev 0 L from rfl,ents_born]
    exact List.nodup_range' ..
end
end Go.Proofs.Ytjcmlggdaajicaa.Mp
/-
Own text: the least open entry of a map,whatever the order;a map's table.
-/
namespace Go.Proofs.Ytjcmlggdaajicaa.Mp
open Dij (wt rel1)
set_option linter.unusedVariables false
/-- No key twice. -/
def Nd {β : Type} (L : List (Int × β)) : Prop:=(L.map Prod.fst).Nodup
theorem Nd.lk {β : Type} {L : List (Int × β)} (h : Nd L) {i : Nat} {x : Int} {y : β} (hi : L[i]? = some (x,y)) : lk L x = some y:=by
  induction L generalizing i with
  | nil => cases hi
  | cons p l ih =>
    obtain ⟨a,b⟩:=p;unfold Nd at h;simp only [List.map_cons,List.nodup_cons] at h;simp only [Mp.lk]
    cases i with
    | zero =>
      simp only [List.getElem?_cons_zero,Option.some.injEq,Prod.mk.injEq] at hi;rw [if_pos hi.1.symm,hi.2]
    | succ i =>
      simp only [List.getElem?_cons_succ] at hi;rw [if_neg]
      · exact ih h.2 hi
      · intro e
        subst e;exact h.1 (List.mem_map.2 ⟨(x,y),List.mem_of_getElem? hi,rfl⟩)
theorem get_lk {β : Type} {L : List (Int × β)} {x : Int} {y : β} (h : lk L x = some y) : ∃ i : Nat,L[i]? = some (x,y):=by
  induction L with
  | nil => cases h
  | cons p l ih =>
    obtain ⟨a,b⟩:=p;simp only [lk] at h
    split at h
    · rename_i e
      injection h with h
      exact ⟨0,by simp [e,h]⟩
    · obtain ⟨i,hi⟩:=ih h
      exact ⟨i + 1,by simpa using hi⟩
theorem put_keys {β : Type} (L : List (Int × β)) (x : Int) (v : β) : (put L x v).map Prod.fst = if x ∈ L.map Prod.fst then L.map Prod.fst else L.map Prod.fst ++ [x]:=by
  induction L with
  | nil => simp [put]
  | cons p l ih =>
    obtain ⟨a,b⟩:=p;simp only [put]
    split
    · rename_i e
      subst e
      simp
    · rename_i e
      simp only [List.map_cons,ih,List.mem_cons];by_cases h : x ∈ l.map Prod.fst
      · rw [if_pos h,if_pos (.inr h)]
      · rw [if_neg h,if_neg (by rintro (e2 | e2);exact e e2;exact h e2)]
        rfl
theorem Nd.put {β : Type} {L : List (Int × β)} (h : Nd L) (x : Int) (v : β) : Nd (put L x v):=by
  unfold Nd at *;rw [put_keys]
  split
  · exact h
  · rename_i hx
    rw [List.nodup_append];refine ⟨h,by simp,?_⟩;intro a ha b hb e;rw [List.mem_singleton] at hb;subst hb;subst e;exact hx ha
theorem Nd.one {β : Type} (x : Int) (v : β) : Nd [(x,v)]:=by simp [Nd]
/-- How many have not been. -/
def uns (n : Nat) (seen : Array Nat) : Nat:=((List.range n).filter fun i => !seen.contains i).length
theorem push_contains (seen : Array Nat) (i j : Nat) : (seen.push i).contains j = (seen.contains j || j == i):=by
  rw [Bool.eq_iff_iff]
  simp [Array.mem_push,or_comm]
theorem uns_le (seen : Array Nat) (i : Nat) (l : List Nat) : (l.filter fun j => !(seen.push i).contains j).length ≤ (l.filter fun j => !seen.contains j).length:=by
  induction l with
  | nil => exact Nat.le_refl _
  | cons a l ih =>
    simp only [List.filter_cons,push_contains] at ih ⊢
    cases h1 : seen.contains a with
    | true => simpa using ih
    | false =>
      simp only [Bool.false_or,Bool.not_false,if_true,List.length_cons]
      split
      · simp only [List.length_cons];omega
      · omega
theorem uns_push {n : Nat} {seen : Array Nat} {i : Nat} (hi : i < n) (hs : seen.contains i = false) : uns n (seen.push i) + 1 ≤ uns n seen:=by
  unfold uns;have hm : i ∈ List.range n:=List.mem_range.2 hi;generalize List.range n = l at hm
  induction l with
  | nil => cases hm
  | cons a l ih =>
    by_cases e : a = i
    · subst e
      have:=uns_le seen a l;(have h1 : (seen.push a).contains a = true:=by rw [push_contains];simp);simp only [List.filter_cons,h1,hs,Bool.not_true,Bool.not_false,Bool.false_eq_true,if_false,if_true,List.length_cons]
      omega
    · have:=ih ((List.mem_cons.1 hm).resolve_left (fun h => e h.symm))
      (have h1 : (seen.push i).contains a = seen.contains a:=by rw [push_contains];simp [e]);simp only [List.filter_cons,h1]
      split
      · simp only [List.length_cons];omega
      · exact this
theorem uns_nil (n : Nat) : uns n #[] = n:=by
  unfold uns;rw [List.filter_eq_self.2 (fun a _ => by simp),List.length_range]
/-- The least open entry among those that have been. -/
def Bst (L : List (Int × (Int × Int))) (dn : Int → Bool) (seen : Array Nat) (at_ : Int) : Prop:=
  (at_ = -1 ∧ ∀ (i : Nat) x p,L[i]? = some (x,p) → seen.contains i = true → dn x = true) ∨
  (0 ≤ at_ ∧ ∃ p0,lk L at_ = some p0 ∧ dn at_ = false ∧ ∀ (i : Nat) x p,L[i]? = some (x,p) → seen.contains i = true → dn x = false → wt p0 ≤ wt p)
section
variable {L : List (Int × (Int × Int))} {dn : Int → Bool} {seen : Array Nat} {at_ x : Int} {i : Nat} {p : Int × Int}
theorem Bst.nil : Bst L dn #[] (-1):=.inl ⟨rfl,fun i x p _ h => by simp at h⟩
theorem Bst.done (h : Bst L dn seen at_) (hi : L[i]? = some (x,p)) (hd : dn x = true) : Bst L dn (seen.push i) at_:=by
  rcases h with ⟨e,h⟩ | ⟨h0,p0,h1,h2,h⟩
  · refine .inl ⟨e,fun j y q hj hs => ?_⟩
    rw [push_contains] at hs;by_cases e2 : j = i
    · subst e2;rw [hi] at hj;cases hj;exact hd
    · exact h j y q hj (by simpa [e2] using hs)
  · refine .inr ⟨h0,p0,h1,h2,fun j y q hj hs hy => ?_⟩
    rw [push_contains] at hs;by_cases e2 : j = i
    · subst e2;rw [hi] at hj;cases hj;rw [hd] at hy;cases hy
    · exact h j y q hj (by simpa [e2] using hs) hy
theorem Bst.first (hN : Nd L) (h : Bst L dn seen at_) (hneg : at_ < 0) (hi : L[i]? = some (x,p)) (hx : 0 ≤ x) (hd : dn x = false) : Bst L dn (seen.push i) x:=by
  rcases h with ⟨e,h⟩ | ⟨h0,_⟩
  · refine .inr ⟨hx,p,hN.lk hi,hd,fun j y q hj hs hy => ?_⟩
    rw [push_contains] at hs;by_cases e2 : j = i
    · subst e2;rw [hi] at hj;cases hj;exact Int.le_refl _
    · have:=h j y q hj (by simpa [e2] using hs)
      rw [this] at hy;cases hy
  · omega
theorem Bst.less (hN : Nd L) (h : Bst L dn seen at_) {p0 : Int × Int} (h0 : 0 ≤ at_) (hp : lk L at_ = some p0) (hi : L[i]? = some (x,p)) (hx : 0 ≤ x) (hd : dn x = false) (hl : wt p < wt p0) : Bst L dn (seen.push i) x:=by
  rcases h with ⟨e,h⟩ | ⟨_,p1,h1,h2,h⟩
  · omega
  · rw [hp] at h1
    cases h1
    refine .inr ⟨hx,p,hN.lk hi,hd,fun j y q hj hs hy => ?_⟩;rw [push_contains] at hs;by_cases e2 : j = i
    · subst e2;rw [hi] at hj;cases hj;exact Int.le_refl _
    · have:=h j y q hj (by simpa [e2] using hs) hy
      omega
theorem Bst.stay (h : Bst L dn seen at_) {p0 : Int × Int} (h0 : 0 ≤ at_) (hp : lk L at_ = some p0) (hi : L[i]? = some (x,p)) (hl : ¬ wt p < wt p0) : Bst L dn (seen.push i) at_:=by
  rcases h with ⟨e,h⟩ | ⟨_,p1,h1,h2,h⟩
  · omega
  · rw [hp] at h1
    cases h1
    refine .inr ⟨h0,p0,hp,h2,fun j y q hj hs hy => ?_⟩;rw [push_contains] at hs;by_cases e2 : j = i
    · subst e2;rw [hi] at hj;cases hj;omega
    · exact h j y q hj (by simpa [e2] using hs) hy
/-- All have been. -/
theorem Bst.all (h : Bst L dn seen at_) (hall : ∀ i,i < L.length → seen.contains i = true) : (at_ = -1 ∧ ∀ x p,lk L x = some p → dn x = true) ∨ (0 ≤ at_ ∧ ∃ p0,lk L at_ = some p0 ∧ dn at_ = false ∧ ∀ x p,lk L x = some p → dn x = false → wt p0 ≤ wt p):=by
  rcases h with ⟨e,h⟩ | ⟨h0,p0,h1,h2,h⟩
  · refine .inl ⟨e,fun x p hp => ?_⟩
    obtain ⟨i,hi⟩:=get_lk hp;exact h i x p hi (hall i (List.getElem?_eq_some_iff.1 hi).1)
  · refine .inr ⟨h0,p0,h1,h2,fun x p hp hx => ?_⟩
    obtain ⟨i,hi⟩:=get_lk hp;exact h i x p hi (hall i (List.getElem?_eq_some_iff.1 hi).1) hx
end
/-- One neighbour told: the map's table. -/
theorem lk_rel1 (L : List (Int × (Int × Int))) (p : Int × Int) (n : Int) (q : Int × Int) : (match lk L n with
    | none => lk (put L n (p.1 + q.1,p.2 + q.2))
    | some o => if wt (p.1 + q.1,p.2 + q.2) < wt o then lk (put L n (p.1 + q.1,p.2 + q.2)) else lk L) = rel1 p (lk L) (n,q):=by
  unfold rel1
  simp only
  cases h : lk L n with
  | none => dsimp only;funext y;rw [lk_put]
  | some o =>
    dsimp only
    split
    · funext y;rw [lk_put]
    (rfl)
end Go.Proofs.Ytjcmlggdaajicaa.Mp
