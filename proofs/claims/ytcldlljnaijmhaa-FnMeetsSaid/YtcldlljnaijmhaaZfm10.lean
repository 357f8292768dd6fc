-- Joined and pruned by wip/tools/prune.py out of this session's own texts (Pr26, PurePlan, HdPlan, Prd5, Pr22, MpEv, HMay, HAlone)
import Derived.Test.YtcldlljnaijmhaaZfm9
import Derived.Outline
namespace Go.Proofs.Ytcldlljnaijmhaa.Pr
open Go.RowKit Go.Proofs.YtcldlljnaijmhaaW.PrintWords Go.Proofs.YtcldlljnaijmhaaW.PrintLast Go.Proofs.YtcldlljnaijmhaaW.PrintMore
attribute [local go_sem] max2_int min2_int max_two min_two max_three min_three max_four min_four
set_option linter.unusedVariables false
set_option linter.unusedSimpArgs false

set_option maxHeartbeats 8000000 in
set_option maxRecDepth 100000 in
theorem spec_PlanCrowd.calls (k : Nat) (a0_0 : Int) (z6 : Option Addr) (c0_1 : Nat) (z2 : List Int) (A1 : Option Addr) (c1 : Nat) (l1 : List (S49)) (a2 : Int) (r1 : List (List Int)) (r2 : Bool) (w : World) (hr0_1 : Kd.C (Kd.int .i64) w z6 z2.length z2) (hc0_1 : z2.length ≤ c0_1) (hr1 : Kd.C k49 w A1 l1.length l1) (hc1 : l1.length ≤ c1) (h : spec_PlanCrowd.f k a0_0 z2 l1 a2 = some (r1,r2)) :
   Calls Try.prog 38 #[.agg #[.int .i64 a0_0,.slice z6 z2.length c0_1],.slice A1 l1.length c1,.int .i64 a2] w fun e w' => ∃ v0_ : Value,e = .returned (.tuple #[v0_,.bool r2]) ∧ Kd.S (Kd.slice 3 (Kd.int .i64)) 22 w' w.heap.size (fun _ => True) v0_ r1 ∧ Below w.heap.size w w':=by
  have ze5:=Try.underlying39;have ze6:=Try.underlying49;have r0:=Aside0.mk hr0_1;have r3:=Aside0.mk hc0_1;clear hr0_1 hc0_1;have HR1:=Aside0.mk hr1;have HC1:=Aside0.mk hc1;clear hr1 hc1;have HB:=ak (Below.refl w.heap.size w);have H : ((spec_GoodTrips.f k a0_0 z2 l1).bind fun r9 => (if r9 = true then (if a2 < 0 then (spec_PlanCrowd.j0 k l1 a2 true a0_0 z2) else (spec_PlanCrowd.j0 k l1 a2 (decide (a2 > 20)) a0_0 z2)) else (spec_PlanCrowd.j0 k l1 a2 true a0_0 z2))) = some (r1,r2):=h;clear h;have HC4:=Aside0.mk H;clear H;go_enter Try.func38,Try.ntmps38
  go_upto_region 1 with (first | ((with_reducible refine gate_dst (N:=3) rfl ?_);refine box_event ?hg (N:=3) ?hd (cs:=#[.int .i64 a0_0,.slice z6 z2.length c0_1]) (t:=39) ?hr ?_;(case hd => rfl);(case hg => rfl);(case hr => first | (go_simp;done) | (go_simp;rfl));intro z3 hg w5 hbox hb;have z0:=ak (hbox);have zd7 : Aside0 (w.heap.size ≤ z3):=gz_;have zd8 : Aside0 (w.heap.size ≤ z3):=gz_;replace HB:=ak (below_step hb_ hb);clear hb hbox hg))
  (try simp only [Act.put,List.setIfInBounds_toArray,List.set_cons_zero,List.set_cons_succ])
  go_cut [24] (fun v24 wc => ∃ (kq : Nat) (r6 : Bool),v24 = .bool r6 ∧ Aside0 (spec_PlanCrowd.j0 kq l1 a2 r6 a0_0 z2 = some (r1,r2)) ∧ Aside0 (kq ≤ k) ∧ Aside0 (wc.heap[z3]? = some (.cells #[.int .i64 a0_0,(.slice z6 z2.length c0_1)] 39 (0,0))) ∧ Aside0 (Below w.heap.size w wc))
  case first =>
   have H:=HC4.out;clear HC4;replace H:=Option.bind_eq_some_iff.mp H;obtain ⟨r9,A60,H⟩:=H;replace H : (if r9 = true then (if a2 < 0 then (spec_PlanCrowd.j0 k l1 a2 true a0_0 z2) else (spec_PlanCrowd.j0 k l1 a2 (decide (a2 > 20)) a0_0 z2)) else (spec_PlanCrowd.j0 k l1 a2 true a0_0 z2)) = some (r1,r2):=H;have A6:=Aside0.mk A60;clear A60;by_cases c7 : r9 = true
   ·subst c7
    rw [if_pos rfl] at H;by_cases c8 : a2 < 0
    ·rw [if_pos c8] at H
     have r7 : decide (a2 < 0) = true:=decide_eq_true c8;clear c8;(first | rw [r7] | (simp only [i64_w,i32_w];rw [r7]) | skip);have H':=Aside0.mk H;clear H;have zd3:=b20 z0;have zd4:=b21 z0;have zd5:=blk_frozen z0.out 0;have zd6:=blk_frozen z0.out 1;go_wp2_with (first | ((with_reducible refine gate_callee (f:=25) rfl ?_);refine goesL_ (some 15) rfl rfl Try.func25 (by kernel_rfl) rfl #[.agg #[.int .i64 a0_0,.slice z6 z2.length c0_1],.slice A1 l1.length c1] rfl ls_ ?_;(with_reducible refine (spec_GoodTrips.calls k a0_0 _ _ z2 _ _ l1 true _ ?j0 ?j1 ?j2 ?j3 A6.out).mono ?_);(case j0 => exact cb_ r0.out);(case j1 => exact r3.out);(case j2 => exact cb_ HR1.out);(case j3 => exact HC1.out);rintro e w10 ⟨rfl,hb⟩;refine ⟨_,rfl,?_⟩;replace z0:=bb_ z0 hb;replace HB:=ak (below_step hb_ hb);(try clear hb);(try clear hb2);(try clear hk);(try clear hi)));go_meet
     case rel => exact ⟨_,(true),es_,H',⟨by first | omega | exact Nat.le_refl _⟩,⟨bk_ z0.out⟩,⟨hb_⟩⟩
    ·rw [if_neg c8] at H
     have r7 : decide (a2 < 0) = false:=decide_eq_false c8;clear c8;(first | rw [r7] | (simp only [i64_w,i32_w];rw [r7]) | skip);have H':=Aside0.mk H;clear H;have za9:=b20 z0;have zb0:=b21 z0;have zb1:=blk_frozen z0.out 0;have zb2:=blk_frozen z0.out 1;go_wp2_with (first | ((with_reducible refine gate_callee (f:=25) rfl ?_);refine goesL_ (some 15) rfl rfl Try.func25 (by kernel_rfl) rfl #[.agg #[.int .i64 a0_0,.slice z6 z2.length c0_1],.slice A1 l1.length c1] rfl ls_ ?_;(with_reducible refine (spec_GoodTrips.calls k a0_0 _ _ z2 _ _ l1 true _ ?j0 ?j1 ?j2 ?j3 A6.out).mono ?_);(case j0 => exact cb_ r0.out);(case j1 => exact r3.out);(case j2 => exact cb_ HR1.out);(case j3 => exact HC1.out);rintro e w12 ⟨rfl,hb⟩;refine ⟨_,rfl,?_⟩;replace z0:=bb_ z0 hb;replace HB:=ak (below_step hb_ hb);(try clear hb);(try clear hb2);(try clear hk);(try clear hi)));go_meet
     case rel => exact ⟨_,(decide (a2 > 20)),es_,H',⟨by first | omega | exact Nat.le_refl _⟩,⟨bk_ z0.out⟩,⟨hb_⟩⟩
   ·replace c7:=Bool.eq_false_iff.mpr c7
    subst c7;rw [if_neg (show ¬ (false = true) by decide)] at H;have H':=Aside0.mk H;clear H;have zb3:=b20 z0;have zb4:=b21 z0;have zb5:=blk_frozen z0.out 0;have zb6:=blk_frozen z0.out 1;go_wp2_with (first | ((with_reducible refine gate_callee (f:=25) rfl ?_);refine goesL_ (some 15) rfl rfl Try.func25 (by kernel_rfl) rfl #[.agg #[.int .i64 a0_0,.slice z6 z2.length c0_1],.slice A1 l1.length c1] rfl ls_ ?_;(with_reducible refine (spec_GoodTrips.calls k a0_0 _ _ z2 _ _ l1 false _ ?j0 ?j1 ?j2 ?j3 A6.out).mono ?_);(case j0 => exact cb_ r0.out);(case j1 => exact r3.out);(case j2 => exact cb_ HR1.out);(case j3 => exact HC1.out);rintro e w14 ⟨rfl,hb⟩;refine ⟨_,rfl,?_⟩;replace z0:=bb_ z0 hb;replace HB:=ak (below_step hb_ hb);(try clear hb);(try clear hb2);(try clear hk);(try clear hi)));go_meet
    case rel => exact ⟨_,(true),es_,H',⟨by first | omega | exact Nat.le_refl _⟩,⟨bk_ z0.out⟩,⟨hb_⟩⟩
  case rest =>
   clear HC4;obtain ⟨kq,r6,rfl,HA,HJ3,z0,HB⟩:=hcut
   cases kq with
   | zero => exact absurd HA.out (by simp [spec_PlanCrowd.j0])
   | succ kj3 =>
    have H:=HA.out;clear HA;simp only [spec_PlanCrowd.j0] at H;by_cases c15 : r6 = true
    ·subst c15
     rw [if_pos rfl] at H;simp only [Option.some.injEq,Prod.mk.injEq] at H;obtain ⟨rfl,rfl⟩:=H;go_wp2
     go_ret2
     exact ⟨_,er_,by first | exact Kd.S_nil _ _ _ _ _ | exact Kd.N_nil _ _ _ _ _ | exact Kd.V_nil _ _ _ _ _ | exact Kd.Q_nil _ _ _ _ _ | exact Kd.R_nil _ _ _ _ _,hb_⟩
    ·replace c15:=Bool.eq_false_iff.mpr c15
     subst c15;rw [if_neg (show ¬ (false = true) by decide)] at H;have H':=Aside0.mk H;clear H;go_wp2
     go_loopg [8,27] kj3 (fun kq v8 v27 w' => ∃ (z8 : List (List Int)) (z1 : Int),v27 = .int .i64 z1 ∧ Aside0 (spec_PlanCrowd.l0 kq a2 z8 l1 (l1.length : Int) z1 a0_0 z2 = some (r1,r2)) ∧ Aside0 (kq ≤ kj3) ∧ Aside0 (Kd.S (Kd.slice 3 (Kd.int .i64)) 22 w' w.heap.size (fun _ => True) v8 z8) ∧ Aside0 (w'.heap[z3]? = some (.cells #[.int .i64 a0_0,(.slice z6 z2.length c0_1)] 39 (0,0))) ∧ Aside0 (Below w.heap.size w w'))
     case atStart => exact ⟨(([] : List (List Int))),(0),es_,H',⟨Nat.le_refl _⟩,⟨by first | exact Kd.S_nil _ _ _ _ _ | exact Kd.N_nil _ _ _ _ _ | exact Kd.V_nil _ _ _ _ _ | exact Kd.Q_nil _ _ _ _ _ | exact Kd.R_nil _ _ _ _ _⟩,⟨bk_ z0.out⟩,⟨hb_⟩⟩
     case round =>
      clear H';obtain ⟨z8,z1,rfl,HA,HK2,z7,z0,HB⟩:=hrel
      cases gk with
      | zero => exact absurd HA.out (by simp [spec_PlanCrowd.l0])
      | succ k2 =>
       have H:=HA.out;clear HA;simp only [spec_PlanCrowd.l0] at H;by_cases c16 : z1 < (l1.length : Int)
       ·rw [if_pos c16] at H
        have m7 : decide (z1 < (l1.length : Int)) = true:=decide_eq_true c16;clear c16;by_cases c17 : 0 ≤ z1
        ·rw [if_pos c17] at H
         have zd9 : decide (0 ≤ z1) = true:=decide_eq_true c17;clear c17;by_cases c18 : z1 < (l1.length : Int)
         ·rw [if_pos c18] at H
          have ze0 : decide (z1 < (l1.length : Int)) = true:=decide_eq_true c18;clear c18;replace H:=Option.bind_eq_some_iff.mp H;obtain ⟨⟨j7,m1⟩,m2,H⟩:=H;replace H : (if m1 = true then (if z8.length < 5864062014805 then (spec_PlanCrowd.l0 k2 a2 (z8 ++ [j7]) l1 (l1.length : Int) (wrap64 (z1 + 1)) a0_0 z2) else (none)) else (some (([] : List (List Int)),false))) = some (r1,r2):=H;have A19:=Aside0.mk m2;clear m2;by_cases c20 : m1 = true
          ·subst c20
           rw [if_pos rfl] at H;by_cases c21 : z8.length < 5864062014805
           ·rw [if_pos c21] at H
            have m8:=Aside0.mk c21;clear c21;obtain ⟨m3,r4⟩ : ∃ y_ : List (List Int),y_ = (z8 ++ [j7]):=⟨_,rfl⟩;(replace H : (spec_PlanCrowd.l0 k2 a2 m3 l1 (l1.length : Int) (wrap64 (z1 + 1)) a0_0 z2) = some (r1,r2):=by first | (rw [r4];with_reducible exact H) | (have H2_:=(Option.bind_some _ _).symm.trans H;rw [r4];with_reducible exact H2_) | (have H2_:=(Option.bind_some _ _).symm.trans H;with_reducible exact H2_) | with_reducible exact H | (rw [r4];exact H) | exact H);have m9:=Aside0.mk r4;clear r4;have H':=Aside0.mk H;clear H;have j8 : 0 ≤ (z1 : Int):=of_decide_eq_true as_;have j9 : z1 < (l1.length : Int):=of_decide_eq_true as_;obtain ⟨za0,e490,j4,j5⟩:=at_T49 HR1.out z1 j8 j9;cases e490;replace j4:=hc_ HB j4;replace j5:=hc_ HB j5;replace j8:=eq_true j8;replace j9:=eq_true j9;go_wp2_with (first | ((with_reducible refine gate_dst (N:=10) rfl ?_);refine box_event ?hg (N:=10) ?hd (cs:=#[.int .i64 0,.int .i64 0]) (t:=49) ?hr ?_;(case hd => rfl);(case hg => rfl);(case hr => first | (go_simp;done) | (go_simp;rfl));intro z4 hg w22 hbox hb;replace z7:=ak (Kd.S_below (sa_ z7.out) hb);have z5:=ak (hbox);have za1 : Aside0 (w.heap.size ≤ z4):=gz_;have za2 : Aside0 (w.heap.size ≤ z4):=gz_;have z9:=ak ((by rw [hg];exact Nat.ne_of_lt (blk_lt (g:=z3) (o:=.cells #[.int .i64 a0_0,.slice z6 z2.length c0_1] 39 (0,0)) (bk_ z0.out)) : z3 ≠ z4));have j6:=ak ((by rw [hg];exact Nat.ne_of_gt (blk_lt (g:=z3) (o:=.cells #[.int .i64 a0_0,.slice z6 z2.length c0_1] 39 (0,0)) (bk_ z0.out)) : z4 ≠ z3));replace z0:=bb_ z0 hb;replace HB:=ak (below_step hb_ hb);clear hb hbox hg;have ze1:=j6.out;have ze2:=z9.out;have zb7:=b20 z5;have zb8:=b21 z5;have zb9:=blk_frozen z5.out 0;have zc0:=blk_frozen z5.out 1;have zc1:=b20 z0;have zc2:=b21 z0;have zc3:=blk_frozen z0.out 0;have zc4:=blk_frozen z0.out 1;obtain ⟨m0,r8,za4⟩:=Kd.S_slice z7.out;subst za4) | ((with_reducible refine gate_callee (f:=60) rfl ?_);refine goesL_ (some 36) rfl rfl Try.func60 (by kernel_rfl) rfl #[.agg #[.int .i64 a0_0,.slice z6 z2.length c0_1],.agg #[.int .i64 ((rd_T49 l1 z1).f0),.int .i64 ((rd_T49 l1 z1).f1)],.slice m0 z8.length r8,.int .i64 a2] rfl ls_ ?_;(with_reducible refine (spec_l20Path.calls k2 a0_0 _ _ z2 ((rd_T49 l1 z1).f0) ((rd_T49 l1 z1).f1) _ _ z8 a2 j7 true _ ?j0 ?j1 ?j2 ?j3 A19.out).mono ?_);(case j0 => exact Kd.C_below r0.out hb_);(case j1 => exact r3.out);(case j2 => refine (Kd.S_reads' (e:=22) (base:=w.heap.size) (ok:=fun k_ => True) (n:=z8.length) (c:=r8) ?_).2.2;exact (by (with_reducible repeat (first | apply Kd.S_alloc | apply Kd.S_drewN | apply Kd.S_drew));exact (Kd.S_mono (Kd.S_far (p:=⟨z4,1,none⟩) (Kd.S_far (p:=⟨z4,0,none⟩) (Kd.S_types z7.out z5.out (by decide)) (fun _ hk => hk.2) (.int .i64 ((rd_T49 l1 z1).f0))) (fun _ hk => hk.2) (.int .i64 ((rd_T49 l1 z1).f1))) (fun _ h_ => h_.1))));(case j3 => exact (Kd.S_reads' z7.out).2.1);rintro e w27 ⟨za5,rfl,ho0,hb⟩;refine ⟨_,rfl,?_⟩;replace z7:=ak (Kd.S_elder' (by (with_reducible repeat (first | apply Kd.S_alloc | apply Kd.S_drewN | apply Kd.S_drew));exact (Kd.S_mono (Kd.S_far (p:=⟨z4,1,none⟩) (Kd.S_far (p:=⟨z4,0,none⟩) (Kd.S_types z7.out z5.out (by decide)) (fun _ hk => hk.2) (.int .i64 ((rd_T49 l1 z1).f0))) (fun _ hk => hk.2) (.int .i64 ((rd_T49 l1 z1).f1))) (fun _ h_ => h_.1))) (Kd.R_base ho0) hb);have r5:=ak (Kd.R_lower ho0 (below_size hb_));replace z0:=ak (blk_below (g:=z3) (o:=.cells #[.int .i64 a0_0,.slice z6 z2.length c0_1] 39 (0,0)) (by (with_reducible repeat (first | refine blk_drewN ?_ _ | refine blk_drew ?_ | refine blk_alloc ?_ _));refine blk_far ?_ z9.out _;(with_reducible repeat (first | refine blk_drewN ?_ _ | refine blk_drew ?_ | refine blk_alloc ?_ _));refine blk_far ?_ z9.out _;exact bk_ z0.out) hb);replace z5:=ak (blk_below (g:=z4) (o:=.cells #[.int .i64 ((rd_T49 l1 z1).f0),.int .i64 ((rd_T49 l1 z1).f1)] 49 (0,0)) (by (with_reducible repeat (first | refine blk_drewN ?_ _ | refine blk_drew ?_ | refine blk_alloc ?_ _));refine blk_put (cs:=#[.int .i64 ((rd_T49 l1 z1).f0),.int .i64 0]) ?_ 1 _ rfl;(with_reducible repeat (first | refine blk_drewN ?_ _ | refine blk_drew ?_ | refine blk_alloc ?_ _));refine blk_put (cs:=#[.int .i64 0,.int .i64 0]) ?_ 0 _ rfl;exact bk_ z5.out) hb);replace HB:=ak (below_step hb_ hb);(try clear hb);(try clear hb2);(try clear hk);(try clear hi);(try clear ho0);obtain ⟨m4,m5,za6⟩:=Kd.R_slice r5.out;subst za6) | ((with_reducible refine gate_builtin (b:=.append) (xs:=#[.tmp 41,.tmp 43]) rfl ?_);at_builtin;refine Kd.S_append (Kd.slice 3 (Kd.int .i64)) (w0:=w) w.heap.size rfl (.tmp 41) (.tmp 43) 27 22 (.slice none 0 0) 24 rfl Try.underlying27 info22 rfl (by decide) (by omega) (.slice m0 z8.length r8) z8 j7 [.slice m4 j7.length m5] (fun _ => True) (fun k_ => some k_ = (.slice m4 j7.length m5 : Value).ownBlock) rfl rfl ?aP (fun k_ hk_ => ((Kd.R_mono (ok':=fun k_ => ((fun _ => True)) k_ ∧ some k_ ≠ (.slice m0 z8.length r8 : Value).ownBlock) (Kd.R_apart' (r5.out) (Kd.S_typed z7.out) (by decide)) (fun k_ hk => ⟨trivial,hk.2⟩))).1 k_ hk_.symm) ?aF ?aO ?aB ?aS ?aL ?_;(case aP => exact Kd.M_row (Kd.R_mono (Kd.R_tight rfl (Kd.R_mono (ok':=fun k_ => ((fun _ => True)) k_ ∧ some k_ ≠ (.slice m0 z8.length r8 : Value).ownBlock) (Kd.R_apart' (r5.out) (Kd.S_typed z7.out) (by decide)) (fun k_ hk => ⟨trivial,hk.2⟩))) (fun _ h_ => h_)));(case aB => exact hb_);(case aF => exact (fun _ _ => trivial));(case aO => exact (by (with_reducible repeat (first | apply Kd.S_alloc | apply Kd.S_drewN | apply Kd.S_drew));exact Kd.S_mono z7.out (fun k_ hk => ⟨trivial,fun e_ => hk.2 e_⟩)));(case aS => exact (below_size hb_));(case aL => have:=m8.out;omega);intro ze7 w28 ho hb hg hat;rw [← m9.out] at ho;replace z0:=ak (blk_grown (g:=z3) (o:=.cells #[.int .i64 a0_0,.slice z6 z2.length c0_1] 39 (0,0)) (bk_ z0.out) hg (Kd.S_ne z7.out z0.out (by decide)));replace z5:=ak (blk_grown (g:=z4) (o:=.cells #[.int .i64 ((rd_T49 l1 z1).f0),.int .i64 ((rd_T49 l1 z1).f1)] 49 (0,0)) (bk_ z5.out) hg (Kd.S_ne z7.out z5.out (by decide)));have za3:=ak (ho);replace HB:=ak (hb);clear z7 r5;clear ho hb hg hat))
            go_roundg k2
            case measure => have:=HJ3.out;have:=HK2.out;omega
            case rel => exact ⟨(m3),(wrap64 (z1 + 1)),es_,H',⟨by have:=HJ3.out;have:=HK2.out;omega⟩,⟨sa_ za3.out⟩,⟨bk_ z0.out⟩,⟨hb_⟩⟩
           ·rw [if_neg c21] at H
            exact absurd H (by simp)
          ·replace c20:=Bool.eq_false_iff.mpr c20
           subst c20;rw [if_neg (show ¬ (false = true) by decide)] at H;simp only [Option.some.injEq,Prod.mk.injEq] at H;obtain ⟨rfl,rfl⟩:=H;have j8 : 0 ≤ (z1 : Int):=of_decide_eq_true as_;have j9 : z1 < (l1.length : Int):=of_decide_eq_true as_;obtain ⟨za0,e490,j4,j5⟩:=at_T49 HR1.out z1 j8 j9;cases e490;replace j4:=hc_ HB j4;replace j5:=hc_ HB j5;replace j8:=eq_true j8;replace j9:=eq_true j9;go_wp2_with (first | ((with_reducible refine gate_dst (N:=10) rfl ?_);refine box_event ?hg (N:=10) ?hd (cs:=#[.int .i64 0,.int .i64 0]) (t:=49) ?hr ?_;(case hd => rfl);(case hg => rfl);(case hr => first | (go_simp;done) | (go_simp;rfl));intro z4 hg w30 hbox hb;replace z7:=ak (Kd.S_below (sa_ z7.out) hb);have z5:=ak (hbox);have za1 : Aside0 (w.heap.size ≤ z4):=gz_;have za2 : Aside0 (w.heap.size ≤ z4):=gz_;have z9:=ak ((by rw [hg];exact Nat.ne_of_lt (blk_lt (g:=z3) (o:=.cells #[.int .i64 a0_0,.slice z6 z2.length c0_1] 39 (0,0)) (bk_ z0.out)) : z3 ≠ z4));have j6:=ak ((by rw [hg];exact Nat.ne_of_gt (blk_lt (g:=z3) (o:=.cells #[.int .i64 a0_0,.slice z6 z2.length c0_1] 39 (0,0)) (bk_ z0.out)) : z4 ≠ z3));replace z0:=bb_ z0 hb;replace HB:=ak (below_step hb_ hb);clear hb hbox hg;have ze3:=j6.out;have ze4:=z9.out;have zc5:=b20 z5;have zc6:=b21 z5;have zc7:=blk_frozen z5.out 0;have zc8:=blk_frozen z5.out 1;have zc9:=b20 z0;have zd0:=b21 z0;have zd1:=blk_frozen z0.out 0;have zd2:=blk_frozen z0.out 1;obtain ⟨za7,m6,za8⟩:=Kd.S_slice z7.out;subst za8) | ((with_reducible refine gate_callee (f:=60) rfl ?_);refine goesL_ (some 36) rfl rfl Try.func60 (by kernel_rfl) rfl #[.agg #[.int .i64 a0_0,.slice z6 z2.length c0_1],.agg #[.int .i64 ((rd_T49 l1 z1).f0),.int .i64 ((rd_T49 l1 z1).f1)],.slice za7 z8.length m6,.int .i64 a2] rfl ls_ ?_;(with_reducible refine (spec_l20Path.calls k2 a0_0 _ _ z2 ((rd_T49 l1 z1).f0) ((rd_T49 l1 z1).f1) _ _ z8 a2 j7 false _ ?j0 ?j1 ?j2 ?j3 A19.out).mono ?_);(case j0 => exact Kd.C_below r0.out hb_);(case j1 => exact r3.out);(case j2 => refine (Kd.S_reads' (e:=22) (base:=w.heap.size) (ok:=fun k_ => True) (n:=z8.length) (c:=m6) ?_).2.2;exact (by (with_reducible repeat (first | apply Kd.S_alloc | apply Kd.S_drewN | apply Kd.S_drew));exact (Kd.S_mono (Kd.S_far (p:=⟨z4,1,none⟩) (Kd.S_far (p:=⟨z4,0,none⟩) (Kd.S_types z7.out z5.out (by decide)) (fun _ hk => hk.2) (.int .i64 ((rd_T49 l1 z1).f0))) (fun _ hk => hk.2) (.int .i64 ((rd_T49 l1 z1).f1))) (fun _ h_ => h_.1))));(case j3 => exact (Kd.S_reads' z7.out).2.1);rintro e w35 ⟨za5,rfl,ho0,hb⟩;refine ⟨_,rfl,?_⟩;replace z7:=ak (Kd.S_elder' (by (with_reducible repeat (first | apply Kd.S_alloc | apply Kd.S_drewN | apply Kd.S_drew));exact (Kd.S_mono (Kd.S_far (p:=⟨z4,1,none⟩) (Kd.S_far (p:=⟨z4,0,none⟩) (Kd.S_types z7.out z5.out (by decide)) (fun _ hk => hk.2) (.int .i64 ((rd_T49 l1 z1).f0))) (fun _ hk => hk.2) (.int .i64 ((rd_T49 l1 z1).f1))) (fun _ h_ => h_.1))) (Kd.R_base ho0) hb);have r5:=ak (Kd.R_lower ho0 (below_size hb_));replace z0:=ak (blk_below (g:=z3) (o:=.cells #[.int .i64 a0_0,.slice z6 z2.length c0_1] 39 (0,0)) (by (with_reducible repeat (first | refine blk_drewN ?_ _ | refine blk_drew ?_ | refine blk_alloc ?_ _));refine blk_far ?_ z9.out _;(with_reducible repeat (first | refine blk_drewN ?_ _ | refine blk_drew ?_ | refine blk_alloc ?_ _));refine blk_far ?_ z9.out _;exact bk_ z0.out) hb);replace z5:=ak (blk_below (g:=z4) (o:=.cells #[.int .i64 ((rd_T49 l1 z1).f0),.int .i64 ((rd_T49 l1 z1).f1)] 49 (0,0)) (by (with_reducible repeat (first | refine blk_drewN ?_ _ | refine blk_drew ?_ | refine blk_alloc ?_ _));refine blk_put (cs:=#[.int .i64 ((rd_T49 l1 z1).f0),.int .i64 0]) ?_ 1 _ rfl;(with_reducible repeat (first | refine blk_drewN ?_ _ | refine blk_drew ?_ | refine blk_alloc ?_ _));refine blk_put (cs:=#[.int .i64 0,.int .i64 0]) ?_ 0 _ rfl;exact bk_ z5.out) hb);replace HB:=ak (below_step hb_ hb);(try clear hb);(try clear hb2);(try clear hk);(try clear hi);(try clear ho0)))
           go_ret2
           exact ⟨_,er_,by first | exact Kd.S_nil _ _ _ _ _ | exact Kd.N_nil _ _ _ _ _ | exact Kd.V_nil _ _ _ _ _ | exact Kd.Q_nil _ _ _ _ _ | exact Kd.R_nil _ _ _ _ _,hb_⟩
         ·rw [if_neg c18] at H
          exact absurd H (by simp)
        ·rw [if_neg c17] at H
         exact absurd H (by simp)
       ·rw [if_neg c16] at H
        have m7 : decide (z1 < (l1.length : Int)) = false:=decide_eq_false c16;clear c16;simp only [Option.some.injEq,Prod.mk.injEq] at H;obtain ⟨rfl,rfl⟩:=H;go_wp2
        go_ret2
        exact ⟨_,er_,by (with_reducible repeat (first | apply Kd.S_alloc | apply Kd.S_drewN | apply Kd.S_drew));exact z7.out,hb_⟩

end Go.Proofs.Ytcldlljnaijmhaa.Pr
/-
Own text: a plan beside others: the program's search (from an arrival on all stands still) and the reference's (the arrival is the end) find the same path.
-/
namespace Go.Proofs.Ytcldlljnaijmhaa.Pure
open Go.RowKit Go.Proofs.YtcldlljnaijmhaaW.PrintWords Go.Proofs.YtcldlljnaijmhaaW.PrintLast Go.Proofs.Ytcldlljnaijmhaa.Pr Go.Proofs.Ytcldlljnaijmhaa.EvKit
open Classical

def PA (p : List Int) (k : Nat) : Int:=p.getD k 0
/-- One who goes from a to b at the tick k meets the path p. -/
def Hits (p : List Int) (k : Nat) (a b : Int) : Prop:=PA p k = b ∨ (0 < k ∧ PA p (k - 1) = b ∧ PA p k = a)
def May (P : List (List Int)) (k : Nat) (a b : Int) : Prop:=∀ p ∈ P,¬ Hits p k a b
/-- Nobody is at T at the tick k. -/
def Clear (P : List (List Int)) (T : Int) (k : Nat) : Prop:=∀ p ∈ P,¬ PA p k = T
theorem may_stay {P : List (List Int)} {T : Int} {k : Nat} : May P k T T ↔ Clear P T k:=
  ⟨fun h p hp e => h p hp (.inl e),fun h p hp e => e.elim (h p hp) (fun e => h p hp e.2.2)⟩
section
variable (w : Int) (c : List Int) (P : List (List Int)) (T : Int)
/-- In so many ticks, from the cell x at the tick k, one comes to T. -/
def reach : Nat → Nat → Int → Prop
  | 0,_,x => x = T
  | n + 1,k,x => Fr c x ∧ ∃ y ∈ Gos w c x,reach n (k + 1) y ∧ May P (k + 1) x y
/-- .. and stands there from the tick a on. -/
def still (a : Nat) : Nat → Nat → Int → Prop
  | 0,_,x => x = T
  | n + 1,k,x => Fr c x ∧ ¬ (a ≤ k ∧ ¬ x = T) ∧ ∃ y ∈ Gos w c x,still a n (k + 1) y ∧ May P (k + 1) x y
variable {w c P T}
theorem self_mem {x : Int} (h : Fr c x) : x ∈ Gos w c x:=by
  unfold Gos
  simp [h]
/-- From a on: T alone, if nobody comes by. -/
theorem still_at (hT : Fr c T) {a : Nat} (n : Nat) : ∀ (k : Nat) (x : Int),a ≤ k → (still w c P T a n k x ↔ x = T ∧ ∀ j,k < j → j ≤ k + n → Clear P T j):=by
  induction n with
  | zero =>
    intro k x _;simp only [still];exact ⟨fun h => ⟨h,fun j h1 h2 => by omega⟩,fun h => h.1⟩
  | succ n ih =>
    intro k x hk;simp only [still]
    constructor
    · rintro ⟨_,h2,y,_,h4,h5⟩
      (have hx : x = T:=Classical.byContradiction fun h => h2 ⟨hk,h⟩);obtain ⟨hy,hcl⟩:=(ih (k + 1) y (by omega)).1 h4;subst hx;rw [hy] at h5;refine ⟨rfl,fun j h1 h2 => ?_⟩;by_cases e : j = k + 1
      · subst e
        exact may_stay.1 h5
      · exact hcl j (by omega) (by omega)
    · rintro ⟨rfl,hcl⟩
      exact ⟨hT,fun h => h.2 rfl,x,self_mem hT,(ih (k + 1) x (by omega)).2 ⟨rfl,fun j h1 h2 => hcl j (by omega) (by omega)⟩,may_stay.2 (hcl (k + 1) (by omega) (by omega))⟩
/-- Up to a: as the reference has it. -/
theorem still_reach (hT : Fr c T) {a N : Nat} (hcl : ∀ j,a < j → j ≤ N → Clear P T j) (d : Nat) : ∀ k,k + d = a → a ≤ N → ∀ x,(still w c P T a (N - k) k x ↔ reach w c P T (a - k) k x):=by
  induction d with
  | zero =>
    intro k hk ha x
    obtain rfl : k = a:=by omega
    rw [still_at hT (N - k) k x (Nat.le_refl _),Nat.sub_self];simp only [reach];exact ⟨fun h => h.1,fun h => ⟨h,fun j h1 h2 => hcl j h1 (by omega)⟩⟩
  | succ d ih =>
    intro k hk ha x;obtain ⟨n,hn⟩ : ∃ n,N - k = n + 1:=⟨N - k - 1,by omega⟩;obtain ⟨m,hm⟩ : ∃ m,a - k = m + 1:=⟨a - k - 1,by omega⟩;rw [hn,hm];simp only [still,reach];(have e1 : n = N - (k + 1):=by omega);(have e2 : m = a - (k + 1):=by omega);rw [e1,e2]
    constructor
    · rintro ⟨h1,_,y,h3,h4,h5⟩
      exact ⟨h1,y,h3,(ih (k + 1) (by omega) ha y).1 h4,h5⟩
    · rintro ⟨h1,y,h3,h4,h5⟩
      exact ⟨h1,fun h => by omega,y,h3,(ih (k + 1) (by omega) ha y).2 h4,h5⟩
theorem still_clear (hT : Fr c T) {a N : Nat} (d : Nat) : ∀ k x,k + d = a → a ≤ N → still w c P T a (N - k) k x → ∀ j,a < j → j ≤ N → Clear P T j:=by
  induction d with
  | zero =>
    intro k x hk ha h
    obtain rfl : k = a:=by omega
    have:=((still_at hT (N - k) k x (Nat.le_refl _)).1 h).2;intro j h1 h2;exact this j h1 (by omega)
  | succ d ih =>
    intro k x hk ha h;obtain ⟨n,hn⟩ : ∃ n,N - k = n + 1:=⟨N - k - 1,by omega⟩;rw [hn] at h;simp only [still] at h;obtain ⟨_,_,y,_,h4,_⟩:=h;(have e1 : n = N - (k + 1):=by omega);rw [e1] at h4;exact ih (k + 1) y (by omega) ha h4
/-- Who comes to T by a step finds nobody there. -/
theorem reach_clear (n : Nat) : ∀ k x,reach w c P T (n + 1) k x → Clear P T (k + n + 1):=by
  induction n with
  | zero =>
    intro k x h;obtain ⟨_,y,_,h3,h4⟩:=h;simp only [reach] at h3;subst h3;(exact fun p hp e => h4 p hp (.inl e))
  | succ n ih =>
    intro k x h;obtain ⟨_,y,_,h3,_⟩:=h;have:=ih (k + 1) y h3;rw [show k + (n + 1) + 1 = k + 1 + n + 1 by omega];exact this
/-- All is free from s on. -/
def Stay (P : List (List Int)) (T : Int) (N s : Nat) : Prop:=∀ j,s ≤ j → j ≤ N → Clear P T j
theorem still_iff (hT : Fr c T) {S : Int} {a N : Nat} (ha : a ≤ N) (hS : ∀ p ∈ P,¬ PA p 0 = S) : still w c P T a N 0 S ↔ Stay P T N a ∧ reach w c P T a 0 S:=by
  constructor
  · intro h
    have hcl:=still_clear hT a 0 S (by omega) ha h;have hr:=(still_reach hT hcl a 0 (by omega) ha S).1 h;refine ⟨fun j h1 h2 => ?_,hr⟩;by_cases e : j = a
    · subst e
      cases j with
      | zero =>
        simp only [Nat.sub_self,reach] at hr;subst hr;exact hS
      | succ n =>
        have:=reach_clear n 0 S hr;rw [Nat.zero_add] at this;exact this
    · exact hcl j (by omega) h2
  · rintro ⟨h1,h2⟩
    exact (still_reach hT (fun j h3 h4 => h1 j (by omega) h4) a 0 (by omega) ha S).2 h2
end

section
variable (w : Int) (c : List Int) (P : List (List Int)) (S T : Int)
/-- The next cell, the first that is good. -/
noncomputable def good (C : Nat → Int → Prop) (k : Nat) (x : Int) : Option Int:=(Gos w c x).find? fun y => decide (C k y ∧ May P k x y)
/-- Where one is at the tick k. -/
noncomputable def gst (C : Nat → Int → Prop) : Nat → Int
  | 0 => S
  | k + 1 => (good w c P C (k + 1) (gst C k)).getD T
/-- The program's plan. -/
noncomputable def planI (N : Nat) : Option (List Int):=
  if ∃ p ∈ P,PA p 0 = S then none else
  ((List.range (N + 1)).find? fun a => decide (still w c P T a N 0 S)).map fun a => (List.range (N + 1)).map (gst w c P S T fun k x => still w c P T a (N - k) k x)
/-- The reference's. -/
noncomputable def planS (N : Nat) : Option (List Int):=
  if ∃ p ∈ P,PA p 0 = S then none else
  ((List.range (N + 1)).find? fun e => decide (Stay P T N e ∧ reach w c P T e 0 S)).map fun e => (List.range (N + 1)).map fun k => if k ≤ e then gst w c P S T (fun k x => reach w c P T (e - k) k x) k else T
variable {w c P S T}
theorem find_congr {α : Type} (l : List α) (p q : α → Bool) (h : ∀ x ∈ l,p x = q x) : l.find? p = l.find? q:=by
  induction l with
  | nil => rfl
  | cons a l ih =>
    rw [List.find?_cons,List.find?_cons,h a (.head _),ih (fun x hx => h x (.tail _ hx))]
theorem good_congr {C C' : Nat → Int → Prop} {k : Nat} (h : ∀ y,C k y ↔ C' k y) (x : Int) : good w c P C k x = good w c P C' k x:=by
  unfold good;refine find_congr _ _ _ (fun y _ => ?_);rw [decide_eq_decide,h y]
theorem gst_eq (hT : Fr c T) {a N : Nat} (ha : a ≤ N) (hst : Stay P T N a) (hr : reach w c P T a 0 S) : ∀ k,k ≤ N → gst w c P S T (fun k x => still w c P T a (N - k) k x) k = if k ≤ a then gst w c P S T (fun k x => reach w c P T (a - k) k x) k else T:=by
  (have hcl : ∀ j,a < j → j ≤ N → Clear P T j:=fun j h1 h2 => hst j (by omega) h2)
  -- at the tick a one is at T
  have low : ∀ k,k ≤ a → gst w c P S T (fun k x => still w c P T a (N - k) k x) k = gst w c P S T (fun k x => reach w c P T (a - k) k x) k:=by
    intro k
    induction k with
    | zero => intro _;rfl
    | succ k ih =>
      intro hk;simp only [gst];rw [ih (by omega),good_congr (C:=fun k x => still w c P T a (N - k) k x) (C':=fun k x => reach w c P T (a - k) k x) (fun y => still_reach hT hcl (a - (k + 1)) (k + 1) (by omega) ha y)]
  have inv : ∀ k,k ≤ a → reach w c P T (a - k) k (gst w c P S T (fun k x => reach w c P T (a - k) k x) k):=by
    intro k
    induction k with
    | zero => intro _;exact hr
    | succ k ih =>
      intro hk;have h:=ih (by omega);obtain ⟨m,hm⟩ : ∃ m,a - k = m + 1:=⟨a - k - 1,by omega⟩;rw [hm] at h;simp only [reach] at h;obtain ⟨_,y,h3,h4,h5⟩:=h;rw [show m = a - (k + 1) by omega] at h4;simp only [gst];generalize hx : gst w c P S T (fun k x => reach w c P T (a - k) k x) k = x at h3 h5 ⊢
      have hsome : (good w c P (fun k x => reach w c P T (a - k) k x) (k + 1) x).isSome:=by
        unfold good;rw [List.find?_isSome];exact ⟨y,h3,by simpa using ⟨h4,h5⟩⟩
      cases hg : good w c P (fun k x => reach w c P T (a - k) k x) (k + 1) x with
      | none => rw [hg] at hsome;cases hsome
      | some z =>
        unfold good at hg;have:=List.find?_some hg;simp only [decide_eq_true_eq] at this;exact this.1
  have atA : gst w c P S T (fun k x => reach w c P T (a - k) k x) a = T:=by
    have:=inv a (Nat.le_refl _);rw [Nat.sub_self] at this;exact this
  intro k
  induction k with
  | zero => intro _;rw [if_pos (by omega)];rfl
  | succ k ih =>
    intro hk;by_cases hka : k + 1 ≤ a
    · rw [if_pos hka]
      exact low _ hka
    · rw [if_neg hka]
      have hx : gst w c P S T (fun k x => still w c P T a (N - k) k x) k = T:=by
        rw [ih (by omega)]
        split
        · rename_i h
          obtain rfl : k = a:=by omega
          exact atA
        (rfl)
      simp only [gst];rw [hx]
      cases hg : good w c P (fun k x => still w c P T a (N - k) k x) (k + 1) T with
      | none => rfl
      | some z =>
        unfold good at hg;have:=List.find?_some hg;simp only [decide_eq_true_eq] at this;exact ((still_at hT _ _ _ (by omega)).1 this.1).1
theorem plan_both (hT : Fr c T) (N : Nat) : planI w c P S T N = planS w c P S T N:=by
  unfold planI planS
  split
  (rfl)
  · rename_i hS
    (have hS' : ∀ p ∈ P,¬ PA p 0 = S:=fun p hp e => hS ⟨p,hp,e⟩)
    have h1 : (List.range (N + 1)).find? (fun a => decide (still w c P T a N 0 S)) = (List.range (N + 1)).find? (fun e => decide (Stay P T N e ∧ reach w c P T e 0 S)):=by
      refine find_congr _ _ _ (fun a ha => ?_);rw [decide_eq_decide];exact still_iff hT (by have:=List.mem_range.1 ha;omega) hS'
    rw [h1]
    cases hf : (List.range (N + 1)).find? (fun e => decide (Stay P T N e ∧ reach w c P T e 0 S)) with
    | none => rfl
    | some a =>
      have h2:=List.find?_some hf;simp only [decide_eq_true_eq] at h2;have h3:=List.mem_range.1 (List.mem_of_find?_eq_some hf);simp only [Option.map_some]
      congr 1
      refine List.map_congr_left (fun k hk => ?_);exact gst_eq hT (by omega) h2.1 h2.2 k (by have:=List.mem_range.1 hk;omega)
end
end Go.Proofs.Ytcldlljnaijmhaa.Pure
/-
Own text,by hand: what (Cells).plan comes to.
-/
namespace Go.Proofs.Ytcldlljnaijmhaa.Pr
open Go.RowKit Go.Proofs.YtcldlljnaijmhaaW.PrintWords Go.Proofs.YtcldlljnaijmhaaW.PrintLast
/-- The paths ahead, all as long as the plan. -/
def planOk (a0_0 : Int) (l0_1 : List Int) (a1_0 : Int) (a1_1 : Int) (a2 : Int) (l3 : List (List Int)) : Prop:=
  Pure.Cl a0_0 l0_1 ∧ Pure.Fr l0_1 a1_0 ∧ Pure.Fr l0_1 a1_1 ∧ 0 ≤ a2 ∧ a2 ≤ 20 ∧ l3.length ≤ 5 ∧ ∀ p ∈ l3,p.length = a2.toNat + 1
open Classical in
noncomputable def impl_Cells_plan.f (a0_0 : Int) (l0_1 : List Int) (a1_0 : Int) (a1_1 : Int) (a2 : Int) (l3 : List (List Int)) : Option (List Int × Bool):=
  if planOk a0_0 l0_1 a1_0 a1_1 a2 l3 then some ((Pure.planI a0_0 l0_1 l3 a1_0 a1_1 a2.toNat).getD [],(Pure.planI a0_0 l0_1 l3 a1_0 a1_1 a2.toNat).isSome) else none
end Go.Proofs.Ytcldlljnaijmhaa.Pr
namespace Go.Proofs.Ytcldlljnaijmhaa.Pr
open Go.RowKit Go.Proofs.YtcldlljnaijmhaaW.PrintWords Go.Proofs.YtcldlljnaijmhaaW.PrintLast Go.Proofs.YtcldlljnaijmhaaW.PrintMore
attribute [local go_sem] max2_int min2_int max_two min_two max_three min_three max_four min_four
set_option linter.unusedVariables false
set_option linter.unusedSimpArgs false

/-! ### impl_PlanCrowd: function 39 -/
mutual
noncomputable def impl_PlanCrowd.j0 : Nat → List (S49) → Int → Bool → Int → List Int → Option ((List (List Int)) × Bool)
  | 0,_,_,_,_,_ => none
  | k + 1,x1,x2,x24,x500000,x500001 => if x24 = true then (some (([] : List (List Int)),false)) else (impl_PlanCrowd.l0 k x2 ([] : List (List Int)) x1 (x1.length : Int) 0 x500000 x500001)
noncomputable def impl_PlanCrowd.l0 : Nat → Int → List (List Int) → List (S49) → Int → Int → Int → List Int → Option ((List (List Int)) × Bool)
  | 0,_,_,_,_,_,_,_ => none
  | k + 1,x2,x8,x25,x26,x27,x500000,x500001 => if x27 < x26 then (if 0 ≤ x27 then (if x27 < (x25.length : Int) then ((impl_Cells_plan.f x500000 x500001 ((rd_T49 x25 x27).f0) ((rd_T49 x25 x27).f1) x2 x8).bind fun bt503 => (if bt503.2 = true then (if x8.length < 5864062014805 then (impl_PlanCrowd.l0 k x2 (x8 ++ [bt503.1]) x25 x26 (wrap64 (x27 + 1)) x500000 x500001) else (none)) else (some (([] : List (List Int)),false)))) else (none)) else (none)) else (some (x8,true))
end
noncomputable def impl_PlanCrowd.f (k : Nat) (a0_0 : Int) (l0_1 : List Int) (l1 : List (S49)) (a2 : Int) : Option ((List (List Int)) × Bool):=(impl_GoodTrips.f k a0_0 l0_1 l1).bind fun t500 => (if t500 = true then (if a2 < 0 then (impl_PlanCrowd.j0 k l1 a2 true a0_0 l0_1) else (impl_PlanCrowd.j0 k l1 a2 (decide (a2 > 20)) a0_0 l0_1)) else (impl_PlanCrowd.j0 k l1 a2 true a0_0 l0_1))
/-! ### laws_markIntS: function 16 -/
/-! ### laws_markCells: function 40 -/
/-! ### laws_markTripS: function 41 -/
/-! ### laws_heldIntS: function 17 -/
/-! ### laws_heldIntSS: function 43 -/
/-! ### impl_WaitRing: function 14 -/
mutual
def impl_WaitRing.l0 : Nat → List Int → Int → List Int → Int → Int → Option (List Int)
  | 0,_,_,_,_,_ => none
  | k + 1,x0,x3,x14,x15,x16 => if x16 < x15 then (if 0 ≤ x16 then (if x16 < (x14.length : Int) then (if (rd x14 x16) < (-1) then (some ([] : List Int)) else (if (rd x14 x16) ≥ x3 then (some ([] : List Int)) else (impl_WaitRing.l0 k x0 x3 x14 x15 (wrap64 (x16 + 1))))) else (none)) else (none)) else (impl_WaitRing.l1 k x0 x3 ([] : List Int) (x0.length : Int) 0)
def impl_WaitRing.l1 : Nat → List Int → Int → List Int → Int → Int → Option (List Int)
  | 0,_,_,_,_,_ => none
  | k + 1,x0,x3,x6,x29,x30 => if x30 < x29 then (if 0 ≤ x30 then (if x30 < (x0.length : Int) then (impl_WaitRing.l2 k x0 x3 x6 x30 (rd x0 x30) 0 x29 x30) else (none)) else (none)) else (some x6)
def impl_WaitRing.l2 : Nat → List Int → Int → List Int → Int → Int → Int → Int → Int → Option (List Int)
  | 0,_,_,_,_,_,_,_,_ => none
  | k + 1,x0,x3,x6,x7,x8,x9,x29,x30 => if x9 < x3 then (if x8 ≥ 0 then (if x8 = x7 then (if x6.length < 17592186044416 then (impl_WaitRing.l1 k x0 x3 (x6 ++ [x7]) x29 (wrap64 (x30 + 1))) else (none)) else (if 0 ≤ x8 then (if x8 < (x0.length : Int) then (impl_WaitRing.l2 k x0 x3 x6 x7 (rd x0 x8) (wrap64 (x9 + 1)) x29 x30) else (none)) else (none))) else (if x8 = x7 then (if x6.length < 17592186044416 then (impl_WaitRing.l1 k x0 x3 (x6 ++ [x7]) x29 (wrap64 (x30 + 1))) else (none)) else (impl_WaitRing.l1 k x0 x3 x6 x29 (wrap64 (x30 + 1))))) else (if x8 = x7 then (if x6.length < 17592186044416 then (impl_WaitRing.l1 k x0 x3 (x6 ++ [x7]) x29 (wrap64 (x30 + 1))) else (none)) else (impl_WaitRing.l1 k x0 x3 x6 x29 (wrap64 (x30 + 1))))
end
def impl_WaitRing.f (k : Nat) (l0 : List Int) : Option (List Int):=if (l0.length : Int) > 5 then (some ([] : List Int)) else (impl_WaitRing.l0 k l0 (l0.length : Int) l0 (l0.length : Int) 0)
/-- A state of type 89 at block g of W; what its slices lead to came in by w0. -/
def IsS89 (w0 W : World) (g : Nat) (f0 : List Int) (f1 : Int) (f2 : Int) : Prop:=∃ A0 c0,W.heap[g]? = some (.cells #[.slice A0 f0.length c0,.int .i64 f1,.int .u64 f2] 89 (0,0)) ∧ w0.heap.size ≤ g ∧ Kd.C (Kd.int .u8) w0 A0 f0.length f0
theorem IsS89.grown {w0 W : World} {g : Nat} {f0 : List Int} {f1 : Int} {f2 : Int} {W1 : World} {row : Option Nat} (h : IsS89 w0 W g f0 f1 f2) (hw : W.grownBy W1 row) (hne : some g ≠ row) : IsS89 w0 W1 g f0 f1 f2:=by
  obtain ⟨A0,c0,hb,hg,hr0⟩:=h;exact ⟨A0,c0,blk_grown hb hw hne,hg,hr0⟩
theorem IsS89.kept {w0 W : World} {g : Nat} {f0 : List Int} {f1 : Int} {f2 : Int} {W1 : World} {S : Nat → Prop} (h : IsS89 w0 W g f0 f1 f2) (hk : Kept W W1 S) (hne : ¬ S g) : IsS89 w0 W1 g f0 f1 f2:=by
  obtain ⟨A0,c0,hb,hg,hr0⟩:=h;exact ⟨A0,c0,blk_kept hb hk hne,hg,hr0⟩
theorem IsS89.below {w0 W : World} {g : Nat} {f0 : List Int} {f1 : Int} {f2 : Int} {W1 : World} (h : IsS89 w0 W g f0 f1 f2) (hw : Below W.heap.size W W1) : IsS89 w0 W1 g f0 f1 f2:=h.grown (grown_of_below hw none) (by simp)
theorem IsS89.alloc {w0 W : World} {g : Nat} {f0 : List Int} {f1 : Int} {f2 : Int} (h : IsS89 w0 W g f0 f1 f2) (o : Obj) : IsS89 w0 (W.alloc o) g f0 f1 f2:=h.below (below_alloc (Below.refl _ _) o)
theorem IsS89.drewN {w0 W : World} {g : Nat} {f0 : List Int} {f1 : Int} {f2 : Int} (h : IsS89 w0 W g f0 f1 f2) (m : Nat) : IsS89 w0 (W.drewN m) g f0 f1 f2:=h
theorem IsS89.drew {w0 W : World} {g : Nat} {f0 : List Int} {f1 : Int} {f2 : Int} (h : IsS89 w0 W g f0 f1 f2) : IsS89 w0 W.drew g f0 f1 f2:=h
theorem IsS89.at_ {w0 W : World} {g : Nat} {f0 : List Int} {f1 : Int} {f2 : Int} {w' : World} {m : Nat} (hq : W.drewN m = w') (h : IsS89 w0 W g f0 f1 f2) : IsS89 w0 w' g f0 f1 f2:=by subst hq;exact IsS89.drewN h m
theorem IsS89.apart {w0 W : World} {g : Nat} {f0 : List Int} {f1 : Int} {f2 : Int} {α : Type} {d : Kd α} {e : Nat} {base : Nat} {ok : Nat → Prop} {v : Value} {xs : List α} (h : IsS89 w0 W g f0 f1 f2) (ho : d.R e W base ok v xs) (ht : ∀ q,q ∈ e :: d.E → q ≠ 89) : d.R e W base (fun k => ok k ∧ k ≠ g) v xs:=by
  obtain ⟨A0,c0,hb,hg,hr0⟩:=h;exact Kd.R_types ho hb ht
theorem IsS89.own_ne {w0 W : World} {g : Nat} {f0 : List Int} {f1 : Int} {f2 : Int} {α : Type} {d : Kd α} {e : Nat} {base : Nat} {ok : Nat → Prop} {v : Value} {xs : List α} (h : IsS89 w0 W g f0 f1 f2) (ho : d.R e W base ok v xs) (ht : e ≠ 89) : some g ≠ v.ownBlock:=by
  obtain ⟨A0,c0,hb,hg,hr0⟩:=h;exact Kd.R_ne ho hb ht
theorem IsS89.lt {w0 W : World} {g : Nat} {f0 : List Int} {f1 : Int} {f2 : Int} (h : IsS89 w0 W g f0 f1 f2) : g < W.heap.size:=by
  obtain ⟨A0,c0,hb,hg,hr0⟩:=h;exact blk_lt hb
theorem IsS89.ge {w0 W : World} {g : Nat} {f0 : List Int} {f1 : Int} {f2 : Int} (h : IsS89 w0 W g f0 f1 f2) : w0.heap.size ≤ g:=by
  obtain ⟨A0,c0,hb,hg,hr0⟩:=h;exact hg
theorem IsS89.far {w0 W : World} {g : Nat} {f0 : List Int} {f1 : Int} {f2 : Int} {p : Addr} (h : IsS89 w0 W g f0 f1 f2) (hne : g ≠ p.block) (u : Value) : IsS89 w0 (W.setCell p u) g f0 f1 f2:=by
  obtain ⟨A0,c0,hb,hg,hr0⟩:=h;exact ⟨A0,c0,blk_far hb hne u,hg,hr0⟩
theorem cellS89_0 {W : World} {g : Nat} {A0 : Option Addr} {c0 : Nat} {f0 : List Int} {f1 : Int} {f2 : Int} (h : W.heap[g]? = some (.cells #[.slice A0 f0.length c0,.int .i64 f1,.int .u64 f2] 89 (0,0))) : W.cell? ⟨g,0,none⟩ = some (.slice A0 f0.length c0):=(blk_cell h 0).trans rfl
theorem cellS89_1 {W : World} {g : Nat} {A0 : Option Addr} {c0 : Nat} {f0 : List Int} {f1 : Int} {f2 : Int} (h : W.heap[g]? = some (.cells #[.slice A0 f0.length c0,.int .i64 f1,.int .u64 f2] 89 (0,0))) : W.cell? ⟨g,1,none⟩ = some (.int .i64 f1):=(blk_cell h 1).trans rfl
theorem IsS89.set_1 {w0 W : World} {g : Nat} {f0 : List Int} {f1 : Int} {f2 : Int} (h : IsS89 w0 W g f0 f1 f2) (x : Int) : IsS89 w0 (W.setCell ⟨g,1,none⟩ (.int .i64 x)) g f0 x f2:=by
  obtain ⟨A0,c0,hb,hg,hr0⟩:=h;exact ⟨A0,c0,by simpa using blk_set hb 1 (.int .i64 x),hg,hr0⟩
theorem cellS89_2 {W : World} {g : Nat} {A0 : Option Addr} {c0 : Nat} {f0 : List Int} {f1 : Int} {f2 : Int} (h : W.heap[g]? = some (.cells #[.slice A0 f0.length c0,.int .i64 f1,.int .u64 f2] 89 (0,0))) : W.cell? ⟨g,2,none⟩ = some (.int .u64 f2):=(blk_cell h 2).trans rfl
theorem IsS89.set_2 {w0 W : World} {g : Nat} {f0 : List Int} {f1 : Int} {f2 : Int} (h : IsS89 w0 W g f0 f1 f2) (x : Int) : IsS89 w0 (W.setCell ⟨g,2,none⟩ (.int .u64 x)) g f0 f1 x:=by
  obtain ⟨A0,c0,hb,hg,hr0⟩:=h;exact ⟨A0,c0,by simpa using blk_set hb 2 (.int .u64 x),hg,hr0⟩
theorem IsS89.new (w0 W : World) (A0 : Option Addr) (c0 : Nat) (f0 : List Int) (f1 : Int) (f2 : Int) (hB : Below w0.heap.size w0 W) (hr0 : Kd.C (Kd.int .u8) w0 A0 f0.length f0) : IsS89 w0 (W.alloc (.cells #[.slice A0 f0.length c0,.int .i64 f1,.int .u64 f2] 89)) W.heap.size f0 f1 f2:=⟨A0,c0,by simpa using heap_alloc_new W _,hB.size,hr0⟩

/-! ### spec_l1Cur_next: function 74 -/
def spec_l1Cur_next.f (s0_0 : List Int) (s0_1 : Int) (s0_2 : Int) : Option (Int × Int × Int):=if s0_1 < (s0_0.length : Int) then (if 0 ≤ s0_1 then (if (wrap64 (s0_1 + 1)) ≤ (s0_0.length : Int) then (some (wrap64 (rd s0_0 s0_1),wrap64 (s0_1 + 1),IntKind.u64.wrap ((IntKind.u64.wrap ((IntKind.u64.wrap (s0_2 * 6364136223846793005)) + (IntKind.u64.wrap (wrap64 (rd s0_0 s0_1))))) + 1442695040888963407))) else (some (wrap64 (Go.bits .and .u64 ((IntKind.u64.wrap ((IntKind.u64.wrap ((IntKind.u64.wrap (s0_2 * 6364136223846793005)) + (IntKind.u64.wrap (wrap64 (rd s0_0 s0_1))))) + 1442695040888963407)) / 1099511627776) 255),wrap64 (s0_1 + 1),IntKind.u64.wrap ((IntKind.u64.wrap ((IntKind.u64.wrap (s0_2 * 6364136223846793005)) + (IntKind.u64.wrap (wrap64 (rd s0_0 s0_1))))) + 1442695040888963407)))) else (none)) else (if (wrap64 (s0_1 + 1)) ≤ (s0_0.length : Int) then (some (0,wrap64 (s0_1 + 1),IntKind.u64.wrap ((IntKind.u64.wrap ((IntKind.u64.wrap (s0_2 * 6364136223846793005)) + 0)) + 1442695040888963407))) else (some (wrap64 (Go.bits .and .u64 ((IntKind.u64.wrap ((IntKind.u64.wrap ((IntKind.u64.wrap (s0_2 * 6364136223846793005)) + 0)) + 1442695040888963407)) / 1099511627776) 255),wrap64 (s0_1 + 1),IntKind.u64.wrap ((IntKind.u64.wrap ((IntKind.u64.wrap (s0_2 * 6364136223846793005)) + 0)) + 1442695040888963407))))

/-! ### spec_l1Cur_pick: function 63 -/
def spec_l1Cur_pick.f (s0_0 : List Int) (s0_1 : Int) (s0_2 : Int) (a1 : Int) : Option (Int × Int × Int):=if a1 ≤ 1 then (some (0,s0_1,s0_2)) else ((spec_l1Cur_next.f s0_0 s0_1 s0_2).bind fun bt574 => (if a1 > 200 then ((spec_l1Cur_next.f s0_0 bt574.2.1 bt574.2.2).bind fun bt577 => (if a1 = 0 then (none) else (some (Int.tmod (wrap64 ((wrap64 (bt574.1 * 256)) + bt577.1)) a1,bt577.2.1,bt577.2.2)))) else (if a1 = 0 then (none) else (some (Int.tmod bt574.1 a1,bt574.2.1,bt574.2.2)))))

/-! ### spec_l1Cur_one: function 64 -/
def spec_l1Cur_one.f (s0_0 : List Int) (s0_1 : Int) (s0_2 : Int) (a1 : Int) : Option (Bool × Int × Int):=(spec_l1Cur_pick.f s0_0 s0_1 s0_2 a1).bind fun bt580 => (some ((bt580.1 == 0),bt580.2.1,bt580.2.2))

/-! ### spec_l1Cur_among: function 65 -/
def spec_l1Cur_among.f (s0_0 : List Int) (s0_1 : Int) (s0_2 : Int) (l1 : List Int) : Option (Int × Int × Int):=(spec_l1Cur_pick.f s0_0 s0_1 s0_2 (l1.length : Int)).bind fun bt583 => (if 0 ≤ bt583.1 then (if bt583.1 < (l1.length : Int) then (some (rd l1 bt583.1,bt583.2.1,bt583.2.2)) else (none)) else (none))

/-! ### spec_l1Cur_extent: function 78 -/
def spec_l1Cur_extent.f (s0_0 : List Int) (s0_1 : Int) (s0_2 : Int) : Option (Int × Int × Int × Int):=(spec_l1Cur_one.f s0_0 s0_1 s0_2 12).bind fun bt587 => (if bt587.1 = true then ((spec_l1Cur_among.f s0_0 bt587.2.1 bt587.2.2 (([16,1,17,0] : List Int))).bind fun bt593 => ((spec_l1Cur_among.f s0_0 bt593.2.1 bt593.2.2 (([16,1,0,17] : List Int))).bind fun bt599 => (some (bt593.1,bt599.1,bt599.2.1,bt599.2.2)))) else ((spec_l1Cur_pick.f s0_0 bt587.2.1 bt587.2.2 6).bind fun bt602 => ((spec_l1Cur_pick.f s0_0 bt602.2.1 bt602.2.2 6).bind fun bt605 => (some (wrap64 (1 + bt602.1),wrap64 (1 + bt605.1),bt605.2.1,bt605.2.2)))))

/-! ### spec_l1Cur_cells: function 73 -/
mutual
def spec_l1Cur_cells.l0 : Nat → Int → Int → Int → Int → List Int → Int → Int → Int → List Int → Option (Int × List Int × Int × Int)
  | 0,_,_,_,_,_,_,_,_,_ => none
  | k + 1,x3,x4,x6,x7,x1000,x1001,x1002,x614000,x614001 => if x7 < (wrap64 (x3 * x4)) then ((spec_l1Cur_pick.f x1000 x1001 x1002 10).bind fun bt617 => (if bt617.1 < x6 then ((spec_l1Cur_one.f x1000 bt617.2.1 bt617.2.2 20).bind fun bt620 => (if bt620.1 = true then (if x614001.length < 17592186044416 then (spec_l1Cur_cells.l0 k x3 x4 x6 (wrap64 (x7 + 1)) x1000 bt620.2.1 bt620.2.2 x614000 (x614001 ++ [2])) else (none)) else (if x614001.length < 17592186044416 then (spec_l1Cur_cells.l0 k x3 x4 x6 (wrap64 (x7 + 1)) x1000 bt620.2.1 bt620.2.2 x614000 (x614001 ++ [1])) else (none)))) else ((spec_l1Cur_one.f x1000 bt617.2.1 bt617.2.2 20).bind fun bt629 => (if bt629.1 = true then (if x614001.length < 17592186044416 then (spec_l1Cur_cells.l0 k x3 x4 x6 (wrap64 (x7 + 1)) x1000 bt629.2.1 bt629.2.2 x614000 (x614001 ++ [2])) else (none)) else (if x614001.length < 17592186044416 then (spec_l1Cur_cells.l0 k x3 x4 x6 (wrap64 (x7 + 1)) x1000 bt629.2.1 bt629.2.2 x614000 (x614001 ++ [0])) else (none)))))) else ((spec_l1Cur_one.f x1000 x1001 x1002 24).bind fun bt638 => (if bt638.1 = true then (spec_l1Cur_cells.j1 k (decide ((x614001.length : Int) > 0)) x1000 bt638.2.1 bt638.2.2 x614000 x614001) else (spec_l1Cur_cells.j1 k false x1000 bt638.2.1 bt638.2.2 x614000 x614001)))
def spec_l1Cur_cells.j1 : Nat → Bool → List Int → Int → Int → Int → List Int → Option (Int × List Int × Int × Int)
  | 0,_,_,_,_,_,_ => none
  | k + 1,x44,x1000,x1001,x1002,x614000,x614001 => if x44 = true then ((spec_l1Cur_among.f x1000 x1001 x1002 (([(-1),3] : List Int))).bind fun bt644 => (if 0 < (x614001.length : Int) then ((some (x614001.set (0 : Int).toNat bt644.1 : List Int)).bind fun y647 => ((spec_l1Cur_one.f x1000 bt644.2.1 bt644.2.2 30).bind fun bt648 => (if bt648.1 = true then (if y647.length < 17592186044416 then (some (x614000,(y647 ++ [0]),bt648.2.1,bt648.2.2)) else (none)) else (some (x614000,y647,bt648.2.1,bt648.2.2))))) else (none))) else ((spec_l1Cur_one.f x1000 x1001 x1002 30).bind fun bt654 => (if bt654.1 = true then (if x614001.length < 17592186044416 then (some (x614000,(x614001 ++ [0]),bt654.2.1,bt654.2.2)) else (none)) else (some (x614000,x614001,bt654.2.1,bt654.2.2))))
end
def spec_l1Cur_cells.f (k : Nat) (s0_0 : List Int) (s0_1 : Int) (s0_2 : Int) : Option (Int × List Int × Int × Int):=(spec_l1Cur_extent.f s0_0 s0_1 s0_2).bind fun bt609 => ((spec_l1Cur_pick.f s0_0 bt609.2.2.1 bt609.2.2.2 5).bind fun bt614 => (spec_l1Cur_cells.l0 k bt609.1 bt609.2.1 bt614.1 0 s0_0 bt614.2.1 bt614.2.2 bt609.1 ([] : List Int)))
/-! ### spec_l1Cur_yard: function 62 -/
def spec_l1Cur_yard.l0 : Nat → Int → Int → List Int → Int → Int → Int → List Int → Option (Int × List Int × Int × Int)
  | 0,_,_,_,_,_,_,_ => none
  | k + 1,x4,x5,x1000,x1001,x1002,x674000,x674001 => if x5 < (wrap64 (x674000 * x4)) then ((spec_l1Cur_one.f x1000 x1001 x1002 6).bind fun bt677 => (if bt677.1 = true then (if x674001.length < 17592186044416 then (spec_l1Cur_yard.l0 k x4 (wrap64 (x5 + 1)) x1000 bt677.2.1 bt677.2.2 x674000 (x674001 ++ [1])) else (none)) else (if x674001.length < 17592186044416 then (spec_l1Cur_yard.l0 k x4 (wrap64 (x5 + 1)) x1000 bt677.2.1 bt677.2.2 x674000 (x674001 ++ [0])) else (none)))) else (some (x674000,x674001,x1001,x1002))
def spec_l1Cur_yard.f (k : Nat) (s0_0 : List Int) (s0_1 : Int) (s0_2 : Int) : Option (Int × List Int × Int × Int):=(spec_l1Cur_one.f s0_0 s0_1 s0_2 20).bind fun bt661 => (if bt661.1 = true then ((spec_l1Cur_cells.f k s0_0 bt661.2.1 bt661.2.2).bind fun bt664 => (some (bt664.1,bt664.2.1,bt664.2.2.1,bt664.2.2.2))) else ((spec_l1Cur_pick.f s0_0 bt661.2.1 bt661.2.2 4).bind fun bt670 => ((spec_l1Cur_pick.f s0_0 bt670.2.1 bt670.2.2 4).bind fun bt674 => (spec_l1Cur_yard.l0 k (wrap64 (1 + bt674.1)) 0 s0_0 bt674.2.1 bt674.2.2 (wrap64 (2 + bt670.1)) ([] : List Int)))))
/-! ### spec_AllPlaces: function 75 -/
def spec_AllPlaces.l0 : Nat → List Int → Int → Int → Int → List Int → Option (List Int)
  | 0,_,_,_,_,_ => none
  | k + 1,x3,x10,x11,x687000,x687001 => if x11 < x10 then (if 0 ≤ x11 then (if x11 < (x687001.length : Int) then (if (rd x687001 x11) = 0 then (if x3.length < 17592186044416 then (spec_AllPlaces.l0 k (x3 ++ [x11]) x10 (wrap64 (x11 + 1)) x687000 x687001) else (none)) else (spec_AllPlaces.l0 k x3 x10 (wrap64 (x11 + 1)) x687000 x687001)) else (none)) else (none)) else (some x3)
def spec_AllPlaces.f (k : Nat) (a0_0 : Int) (l0_1 : List Int) : Option (List Int):=(spec_GoodCells.f k a0_0 l0_1).bind fun t687 => (if t687 = true then (spec_AllPlaces.l0 k ([] : List Int) (l0_1.length : Int) 0 a0_0 l0_1) else (some ([] : List Int)))
/-! ### spec_l1Cur_trips: function 66 -/
mutual
def spec_l1Cur_trips.j0 : Nat → List Int → List (S49) → Int → List Int → Int → Int → Option ((List (S49)) × Int × Int)
  | 0,_,_,_,_,_,_ => none
  | k + 1,x5,x6,x7,x1000,x1001,x1002 => spec_l1Cur_trips.l0 k x5 x6 x7 x1000 x1001 x1002
def spec_l1Cur_trips.l0 : Nat → List Int → List (S49) → Int → List Int → Int → Int → Option ((List (S49)) × Int × Int)
  | 0,_,_,_,_,_,_ => none
  | k + 1,x5,x6,x7,x1000,x1001,x1002 => if x7 > 0 then (spec_l1Cur_trips.j2 k x5 x6 x7 (decide ((x5.length : Int) > 0)) x1000 x1001 x1002) else (spec_l1Cur_trips.j2 k x5 x6 x7 false x1000 x1001 x1002)
def spec_l1Cur_trips.j2 : Nat → List Int → List (S49) → Int → Bool → List Int → Int → Int → Option ((List (S49)) × Int × Int)
  | 0,_,_,_,_,_,_,_ => none
  | k + 1,x5,x6,x7,x27,x1000,x1001,x1002 => if x27 = true then ((spec_l1Cur_pick.f x1000 x1001 x1002 (x5.length : Int)).bind fun bt705 => (if 0 ≤ bt705.1 then (if bt705.1 < (x5.length : Int) then ((spec_l1Cur_pick.f x1000 bt705.2.1 bt705.2.2 (x5.length : Int)).bind fun bt709 => (if 0 ≤ bt709.1 then (if bt709.1 < (x5.length : Int) then (spec_l1Cur_trips.l1 k x5 x6 x7 false x6 (x6.length : Int) 0 x1000 bt709.2.1 bt709.2.2 (rd x5 bt705.1) (rd x5 bt709.1)) else (none)) else (none))) else (none)) else (none))) else (some (x6,x1001,x1002))
def spec_l1Cur_trips.l1 : Nat → List Int → List (S49) → Int → Bool → List (S49) → Int → Int → List Int → Int → Int → Int → Int → Option ((List (S49)) × Int × Int)
  | 0,_,_,_,_,_,_,_,_,_,_,_,_ => none
  | k + 1,x5,x6,x7,x9,x45,x46,x47,x1000,x1001,x1002,x714000,x714001 => if x47 < x46 then (if 0 ≤ x47 then (if x47 < (x45.length : Int) then (if x9 = true then (spec_l1Cur_trips.l1 k x5 x6 x7 true x45 x46 (wrap64 (x47 + 1)) x1000 x1001 x1002 x714000 x714001) else (if ((rd_T49 x45 x47).f0) = x714000 then (spec_l1Cur_trips.l1 k x5 x6 x7 true x45 x46 (wrap64 (x47 + 1)) x1000 x1001 x1002 x714000 x714001) else (spec_l1Cur_trips.l1 k x5 x6 x7 (((rd_T49 x45 x47).f1) == x714001) x45 x46 (wrap64 (x47 + 1)) x1000 x1001 x1002 x714000 x714001))) else (none)) else (none)) else (if x9 = true then ((spec_l1Cur_one.f x1000 x1001 x1002 24).bind fun bt716 => (if bt716.1 = true then (if x6.length < 8796093022208 then (spec_l1Cur_trips.l0 k x5 (x6 ++ [(⟨x714000,x714001⟩ : S49)]) (wrap64 (x7 - 1)) x1000 bt716.2.1 bt716.2.2) else (none)) else (spec_l1Cur_trips.l0 k x5 x6 (wrap64 (x7 - 1)) x1000 bt716.2.1 bt716.2.2))) else (if x6.length < 8796093022208 then (spec_l1Cur_trips.l0 k x5 (x6 ++ [(⟨x714000,x714001⟩ : S49)]) (wrap64 (x7 - 1)) x1000 x1001 x1002) else (none)))
end
def spec_l1Cur_trips.f (k : Nat) (s0_0 : List Int) (s0_1 : Int) (s0_2 : Int) (a1_0 : Int) (l1_1 : List Int) : Option ((List (S49)) × Int × Int):=(spec_AllPlaces.f k a1_0 l1_1).bind fun t693 => ((spec_l1Cur_pick.f s0_0 s0_1 s0_2 3).bind fun bt696 => ((spec_l1Cur_one.f s0_0 bt696.2.1 bt696.2.2 12).bind fun bt699 => (if bt699.1 = true then ((spec_l1Cur_pick.f s0_0 bt699.2.1 bt699.2.2 7).bind fun bt702 => (spec_l1Cur_trips.j0 k t693 ([] : List (S49)) bt702.1 s0_0 bt702.2.1 bt702.2.2)) else (spec_l1Cur_trips.j0 k t693 ([] : List (S49)) (wrap64 (1 + bt696.1)) s0_0 bt699.2.1 bt699.2.2))))
/-! ### spec_DrawPlanCrowd: function 44 -/
def spec_DrawPlanCrowd.f (k : Nat) (l0 : List Int) : Option (Int × List Int × (List (S49)) × Int):=(spec_l1Cur_yard.f k l0 0 0).bind fun bt727 => ((spec_l1Cur_pick.f l0 bt727.2.2.1 bt727.2.2.2 9).bind fun bt734 => ((spec_l1Cur_one.f l0 bt734.2.1 bt734.2.2 12).bind fun bt737 => (if bt737.1 = true then ((spec_l1Cur_among.f l0 bt737.2.1 bt737.2.2 (([(-1),0,1,20,21] : List Int))).bind fun bt743 => ((spec_l1Cur_trips.f k l0 bt743.2.1 bt743.2.2 bt727.1 bt727.2.1).bind fun bt746 => (some (bt727.1,bt727.2.1,bt746.1,bt743.1)))) else ((spec_l1Cur_trips.f k l0 bt737.2.1 bt737.2.2 bt727.1 bt727.2.1).bind fun bt751 => (some (bt727.1,bt727.2.1,bt751.1,wrap64 (4 + bt734.1)))))))
/-! ### spec_DrawWaitRing: function 45 -/
mutual
def spec_DrawWaitRing.j0 : Nat → Int → List Int → Int → Int → Option (List Int)
  | 0,_,_,_,_ => none
  | k + 1,x4,x757000,x757001,x757002 => spec_DrawWaitRing.l0 k x4 ([] : List Int) 0 x757000 x757001 x757002
def spec_DrawWaitRing.l0 : Nat → Int → List Int → Int → List Int → Int → Int → Option (List Int)
  | 0,_,_,_,_,_,_ => none
  | k + 1,x4,x5,x6,x757000,x757001,x757002 => if x6 < x4 then ((spec_l1Cur_pick.f x757000 x757001 x757002 (wrap64 (x4 + 1))).bind fun bt763 => (if x5.length < 17592186044416 then (spec_DrawWaitRing.l0 k x4 (x5 ++ [wrap64 (bt763.1 - 1)]) (wrap64 (x6 + 1)) x757000 bt763.2.1 bt763.2.2) else (none))) else ((spec_l1Cur_one.f x757000 x757001 x757002 20).bind fun bt769 => (if bt769.1 = true then (if x4 > 0 then (if 0 < (x5.length : Int) then (some (x5.set (0 : Int).toNat x4)) else (none)) else (some x5)) else (some x5)))
end
def spec_DrawWaitRing.f (k : Nat) (l0 : List Int) : Option (List Int):=(spec_l1Cur_pick.f l0 0 0 6).bind fun bt757 => ((spec_l1Cur_one.f l0 bt757.2.1 bt757.2.2 20).bind fun bt760 => (if bt760.1 = true then (spec_DrawWaitRing.j0 k (wrap64 (bt757.1 + 1)) l0 bt760.2.1 bt760.2.2) else (spec_DrawWaitRing.j0 k bt757.1 l0 bt760.2.1 bt760.2.2)))
/-! ### laws_zBack: function 46 -/
def laws_zBack.l0 : Nat → List Int → Int → Int → Int → Int → Option (Bool)
  | 0,_,_,_,_,_ => none
  | k + 1,x0,x1,x5,x11,x12 => if x12 < x11 then (if x5 = x1 then (some (x5 == x1)) else (if x5 < 0 then (some (x5 == x1)) else (if 0 ≤ x5 then (if x5 < (x0.length : Int) then (laws_zBack.l0 k x0 x1 (rd x0 x5) x11 (wrap64 (x12 + 1))) else (none)) else (none)))) else (some (x5 == x1))
def laws_zBack.f (k : Nat) (l0 : List Int) (a1 : Int) : Option (Bool):=if 0 ≤ a1 then (if a1 < (l0.length : Int) then (laws_zBack.l0 k l0 a1 (rd l0 a1) (l0.length : Int) 0) else (none)) else (none)
/-! ### laws_zIn: function 47 -/
def laws_zIn.l0 : Nat → Int → List Int → Int → Int → Option (Bool)
  | 0,_,_,_,_ => none
  | k + 1,x1,x7,x8,x9 => if x9 < x8 then (if 0 ≤ x9 then (if x9 < (x7.length : Int) then (if (rd x7 x9) = x1 then (some true) else (laws_zIn.l0 k x1 x7 x8 (wrap64 (x9 + 1)))) else (none)) else (none)) else (some false)
def laws_zIn.f (k : Nat) (l0 : List Int) (a1 : Int) : Option (Bool):=laws_zIn.l0 k a1 l0 (l0.length : Int) 0
/-! ### laws_zRising: function 48 -/
def laws_zRising.l0 : Nat → List Int → Int → Option (Bool)
  | 0,_,_ => none
  | k + 1,x0,x3 => if x3 < (x0.length : Int) then (if 0 ≤ x3 then (if 0 ≤ (wrap64 (x3 - 1)) then (if (wrap64 (x3 - 1)) < (x0.length : Int) then (if (rd x0 x3) ≤ (rd x0 (wrap64 (x3 - 1))) then (some false) else (laws_zRising.l0 k x0 (wrap64 (x3 + 1)))) else (none)) else (none)) else (none)) else (some true)
def laws_zRising.f (k : Nat) (l0 : List Int) : Option (Bool):=laws_zRising.l0 k l0 1
/-! ### laws_FnMeets: function 10 -/
mutual
noncomputable def laws_FnMeets.j0 : Nat → List Int → List Int → Bool → Option (Bool)
  | 0,_,_,_ => none
  | k + 1,x0,x1,x24 => if x24 = true then (some true) else ((spec_DrawPlanCrowd.f k x0).bind fun bt778 => ((impl_PlanCrowd.f k bt778.1 bt778.2.1 bt778.2.2.1 bt778.2.2.2).bind fun bt787 => ((spec_PlanCrowd.f k bt778.1 bt778.2.1 bt778.2.2.1 bt778.2.2.2).bind fun bt791 => (if (bt787.2 != bt791.2) = true then (some false) else (if bt787.2 = true then ((impl_FirstMeet.f k bt787.1).bind fun t795 => (if t795 = (-1) then ((impl_GoodPaths.f k bt778.1 bt778.2.1 bt778.2.2.1 bt787.1).bind fun t796 => (laws_FnMeets.j1 k x1 (!t796))) else (laws_FnMeets.j1 k x1 true))) else (laws_FnMeets.j1 k x1 false))))))
noncomputable def laws_FnMeets.j1 : Nat → List Int → Bool → Option (Bool)
  | 0,_,_ => none
  | k + 1,x1,x60 => if x60 = true then (some false) else ((spec_DrawWaitRing.f k x1).bind fun t797 => ((impl_WaitRing.f k t797).bind fun t800 => (if (t797.length : Int) > 5 then (some ((t800.length : Int) == 0)) else (laws_FnMeets.l0 k t797 t800 t797 (t797.length : Int) 0))))
noncomputable def laws_FnMeets.l0 : Nat → List Int → List Int → List Int → Int → Int → Option (Bool)
  | 0,_,_,_,_,_ => none
  | k + 1,x12,x13,x71,x72,x73 => if x73 < x72 then (if 0 ≤ x73 then (if x73 < (x71.length : Int) then (if (rd x71 x73) < (-1) then (some ((x13.length : Int) == 0)) else (if (rd x71 x73) ≥ (x12.length : Int) then (some ((x13.length : Int) == 0)) else (laws_FnMeets.l0 k x12 x13 x71 x72 (wrap64 (x73 + 1))))) else (none)) else (none)) else (laws_FnMeets.l1 k x12 x13 (x12.length : Int) 0)
noncomputable def laws_FnMeets.l1 : Nat → List Int → List Int → Int → Int → Option (Bool)
  | 0,_,_,_,_ => none
  | k + 1,x12,x13,x90,x91 => if x91 < x90 then ((laws_zBack.f k x12 x91).bind fun t805 => ((laws_zIn.f k x13 x91).bind fun t806 => (if (t805 != t806) = true then (some false) else (laws_FnMeets.l1 k x12 x13 x90 (wrap64 (x91 + 1)))))) else ((laws_zRising.f k x13).bind fun t804 => (some t804))
end
noncomputable def laws_FnMeets.f (k : Nat) (l0 : List Int) (l1 : List Int) : Option (Bool):=if (l0.length : Int) > 1048576 then (laws_FnMeets.j0 k l0 l1 true) else (laws_FnMeets.j0 k l0 l1 (decide ((l1.length : Int) > 1048576)))
/-! ### spec_ThereAtLast: function 49 -/
/-! ### laws_FnCrowd: function 11 -/
end Go.Proofs.Ytcldlljnaijmhaa.Pr
namespace Go.Proofs.Ytcldlljnaijmhaa.Pr
open Go.RowKit Go.Proofs.YtcldlljnaijmhaaW.PrintWords Go.Proofs.YtcldlljnaijmhaaW.PrintLast Go.Proofs.YtcldlljnaijmhaaW.PrintMore
attribute [local go_sem] max2_int min2_int max_two min_two max_three min_three max_four min_four
set_option linter.unusedVariables false
set_option linter.unusedSimpArgs false

set_option maxHeartbeats 8000000 in
set_option maxRecDepth 100000 in
theorem impl_meets.calls (a0 : Int) (a1 : Int) (a2 : Int) (a3 : Int) (r : Bool) (w : World) (h : impl_meets.f a0 a1 a2 a3 = some r) :
   Calls Try.prog 59 #[.int .i64 a0,.int .i64 a1,.int .i64 a2,.int .i64 a3] w fun e w' => e = .returned (.bool r) ∧ Drawn0 w w':=by
  have H : (if a1 = a3 then (some true) else (if a0 = a3 then (some (a1 == a2)) else (some false))) = some r:=h;clear h;by_cases c5 : a1 = a3
  ·rw [if_pos c5] at H
   have z0 : (a1 == a3) = true:=beq_iff_eq.mpr c5;have z1 : (a1 != a3) = false:=bne_eq_false_iff_eq.mpr c5;clear c5
   obtain rfl:=Option.some.inj H
   go_enter Try.func59,Try.ntmps59;go_wp2;go_ret;exact ⟨es_,by repeat (first | exact Drawn0.refl _ | apply Drawn0.step)⟩
  ·rw [if_neg c5] at H
   have z0 : (a1 == a3) = false:=beq_eq_false_iff_ne.mpr c5;have z1 : (a1 != a3) = true:=bne_iff_ne.mpr c5;by_cases c6 : a0 = a3
   ·rw [if_pos c6] at H
    have z2 : (a0 == a3) = true:=beq_iff_eq.mpr c6;have z3 : (a0 != a3) = false:=bne_eq_false_iff_eq.mpr c6;clear c6
    obtain rfl:=Option.some.inj H
    go_enter Try.func59,Try.ntmps59;go_wp2;go_ret;exact ⟨es_,by repeat (first | exact Drawn0.refl _ | apply Drawn0.step)⟩
   ·rw [if_neg c6] at H
    have z2 : (a0 == a3) = false:=beq_eq_false_iff_ne.mpr c6;have z3 : (a0 != a3) = true:=bne_iff_ne.mpr c6
    obtain rfl:=Option.some.inj H
    go_enter Try.func59,Try.ntmps59;go_wp2;go_ret;exact ⟨es_,by repeat (first | exact Drawn0.refl _ | apply Drawn0.step)⟩

end Go.Proofs.Ytcldlljnaijmhaa.Pr
/-
Own text: maps at the operations: one that is made,one that is written;a queue's first element taken off.
-/
namespace Go.Proofs.Ytcldlljnaijmhaa.Mp
open Go.RowKit Go.Proofs.YtcldlljnaijmhaaW.PrintWords Go.Proofs.YtcldlljnaijmhaaW.PrintLast Go.Proofs.YtcldlljnaijmhaaW.PrintMore
open Go.MapKept Go.ChangeMaps
set_option linter.unusedVariables false

theorem kept_block {w : World} {b : Nat} {o' : Obj} : Kept w (setBlock w b o') (fun k => k = b):=
  ⟨by simp [setBlock],fun i hi hn => by simp [setBlock,Ne.symm hn]⟩
theorem below_block {B : Nat} {w W : World} {b : Nat} {o' : Obj} (h : Below B w W) (hb : B ≤ b) : Below B w (setBlock W b o'):=
  ⟨h.os,h.tape,h.output,by simpa [setBlock] using h.size,fun i hi => by rw [← h.block i hi];simp [setBlock,show ¬ b = i by omega]⟩
section
variable {P : Program} {ops : Array Oper} {rest : List Oper} {o : Oper} {a : Act} {Q : Exit → Act → World → Prop}
variable {α β : Type} {ek : α → Value} {ev : β → Value}
/-- make(map[K]V). -/
theorem make_event {W : World} (hgd : o.guard = none) {N : Tmp} (_hd : o.dst = some N) {t : TypeId} (ho : o.op = .makeMap t none) (ek : α → Value) (ev : β → Value)
    (h : ∀ g,g = W.heap.size → ∀ w1,w1.heap[g]? = some (mobj ek ev []) → Below W.heap.size W w1 → wpList P ops Q rest (a.put o.dst (.map (some g))) w1) : wpList P ops Q (o :: rest) a W:=by
  refine Kd.event_run (w1:=W.alloc (.map #[] 0)) (v:=.map (some W.heap.size)) hgd ?_ (h _ rfl _ (blk_new W _) (below_alloc (Below.refl _ _) _));unfold execOp;rw [ho]
  simp [Instr.makeMap,Result.andThen]
variable [DecidableEq α]
/-- m[x] = v. -/
theorem put_event {W : World} {w0 : World} {B : Nat} (hgd : o.guard = none) (hN : o.dst = none) {t kt e : TypeId} {m x v : Operand} (ho : o.op = .mapUpdate t m x v ∨ o.op = .insert t m x v) (K : Key P kt ek) (ht : P.underlying t = some (.map kt e))
    {g : Nat} {L : List (α × β)} (hb : W.heap[g]? = some (mobj ek ev L)) (key : α) (val : β) (hm : a.eval m = .map (some g)) (hx : a.eval x = ek key) (hv : a.eval v = ev val) (HB : Below B w0 W) (hBg : B ≤ g)
    (h : ∀ w1,w1.heap[g]? = some (mobj ek ev (put L key val)) → Kept W w1 (fun k => k = g) → Below B w0 w1 → wpList P ops Q rest a w1) : wpList P ops Q (o :: rest) a W:=by
  have hrun:=run_put K ht hb key val;(refine wpList_plain hgd fun K' hK' => ?_)
  have he : (execOp a.eval o).run P W = .ok .skip (setBlock W g (mobj ek ev (put L key val))):=by
    unfold execOp
    rcases ho with ho | ho <;> rw [ho] <;> simp [hm,hx,hv,hrun,Result.andThen]
  unfold Oper.wp;rw [he]
  show K' (a.put o.dst undef) _
  rw [hN];exact hK' _ _ (h _ (setBlock_at hb _) kept_block (below_block HB hBg))
end
theorem gate_mapUpdate {P : Program} {ops : Array Oper} {rest : List Oper} {o : Oper} {a : Act} {Q : Exit → Act → World → Prop} {W : World} {t : TypeId} {m x v : Operand} (_ho : o.op = .mapUpdate t m x v) (h : wpList P ops Q (o :: rest) a W) : wpList P ops Q (o :: rest) a W:=h
theorem gate_insert {P : Program} {ops : Array Oper} {rest : List Oper} {o : Oper} {a : Act} {Q : Exit → Act → World → Prop} {W : World} {t : TypeId} {m x v : Operand} (_ho : o.op = .insert t m x v) (h : wpList P ops Q (o :: rest) a W) : wpList P ops Q (o :: rest) a W:=h
theorem cells_map {α β : Type} {ek : α → Value} {ev : β → Value} {L : List (α × β)} {w : World} {g gm t : Nat} {cs : Array Value} (h : w.heap[g]? = some (.cells cs t (0,0))) (hm : w.heap[gm]? = some (mobj ek ev L)) : ¬ g = gm:=fun e => by
  rw [e,hm] at h
  cases h
end Go.Proofs.Ytcldlljnaijmhaa.Mp
/-
Own text,by hand: the closure of (Cells).plan: may one go so?
-/
namespace Go.Proofs.Ytcldlljnaijmhaa.Pr
open Go.RowKit Go.Proofs.YtcldlljnaijmhaaW.PrintWords Go.Proofs.YtcldlljnaijmhaaW.PrintLast Go.Proofs.YtcldlljnaijmhaaW.PrintMore Go.Proofs.Ytcldlljnaijmhaa.Mp
set_option linter.unusedVariables false
set_option linter.unusedSimpArgs false

open Classical in
/-- The program's own test of a meeting. -/
theorem meets_hits (p : List Int) (k : Nat) (hk : 0 < k) (a b : Int) : impl_meets.f a b (Pure.PA p (k - 1)) (Pure.PA p k) = some (decide (Pure.Hits p k a b)):=by
  have hh : Pure.Hits p k a b ↔ (Pure.PA p k = b ∨ (0 < k ∧ Pure.PA p (k - 1) = b ∧ Pure.PA p k = a)):=Iff.rfl;unfold impl_meets.f;by_cases h1 : b = Pure.PA p k
  · rw [if_pos h1,decide_eq_true (hh.2 (.inl h1.symm))]
  · rw [if_neg h1]
    by_cases h2 : a = Pure.PA p k
    · rw [if_pos h2]
      by_cases h3 : b = Pure.PA p (k - 1)
      · rw [decide_eq_true (hh.2 (.inr ⟨hk,h3.symm,h2.symm⟩)),beq_iff_eq.2 h3]
      · rw [decide_eq_false (fun h => h3 ((hh.1 h).resolve_left (Ne.symm h1)).2.1.symm),beq_eq_false_iff_ne.2 h3]
    · rw [if_neg h2,decide_eq_false (fun h => h2 ((hh.1 h).resolve_left (Ne.symm h1)).2.2.symm)]
open Classical in
set_option maxHeartbeats 4000000 in
set_option maxRecDepth 100000 in
theorem may_calls (A3 : Option Addr) (c3 : Nat) (P : List (List Int)) (gA k N : Nat) (a b : Int) (rb : Bool) (w : World) (hbox : w.heap[gA]? = some (.cells #[.slice A3 P.length c3] 27 (0,0))) (hr3 : Kd.C (Kd.slice 3 (Kd.int .i64)) w A3 P.length P)
    (hLen : ∀ p ∈ P,p.length = N + 1) (hk0 : 0 < k) (hk : k ≤ N) (hN : N ≤ 1000) (hPn : P.length ≤ 5) (hrb : decide (Pure.May P k a b) = rb) :
    Calls Try.prog 72 #[.int .i64 k,.int .i64 a,.int .i64 b,.pointer (some ⟨gA,0,none⟩)] w fun e w' => e = .returned (.bool rb) ∧ Drawn0 w w':=by
  have zA : w.cell? ⟨gA,0,none⟩ = some (.slice A3 P.length c3):=(blk_cell hbox 0).trans rfl;have HR3:=Aside0.mk hr3;have HLn:=Aside0.mk hLen;have HRb:=Aside0.mk (show decide (Pure.May (P.drop 0) k a b) = rb from hrb);have hk1 : True:=trivial;obtain ⟨q,hq⟩ : ∃ q : Int,q = (k : Int) - 1:=⟨_,rfl⟩;(have hwk : IntKind.i64.wrap ((k : Int) - 1) = q:=by rw [IntWalk.i64_in _ (by omega),hq]);have HWk:=Aside0.mk hwk;have HQ:=Aside0.mk hq;have HPn:=Aside0.mk hPn;have HN:=Aside0.mk hN;have HK:=Aside0.mk hk;have HK0:=Aside0.mk hk0;clear hbox hr3 hLen hrb hPn hN hk hk0 hwk hq hk1;go_enter Try.func72,Try.ntmps72;go_wp2
  go_loopg [12] P.length (fun g v12 w' => ∃ i : Nat,v12 = .int .i64 i ∧ Aside0 (i + g = P.length) ∧ Aside0 (decide (Pure.May (P.drop i) k a b) = rb) ∧ Drawn0 w w')
  case atStart => exact ⟨0,rfl,⟨Nat.zero_add _⟩,HRb,Drawn0.refl _⟩
  case round =>
   clear HRb;obtain ⟨i,rfl,HI,HRb,⟨m,rfl⟩⟩:=hrel;by_cases ci : i < P.length
   ·have cib : decide ((i : Int) < (P.length : Int)) = true:=decide_eq_true (by omega)
    have cic : decide (i < P.length) = true:=decide_eq_true ci;have CI:=Aside0.mk ci;obtain ⟨ad,Ai,cI,e_,hx,hl_,hi_⟩:=at_L1 HR3.out (i : Int) (by omega) (by omega)
    cases e_
    rw [Int.toNat_natCast] at hx
    have hdr : P.drop i = rd_L1 P (i : Int) :: P.drop (i + 1):=by
      rw [List.drop_eq_getElem_cons ci]
      congr 1
      unfold rd_L1
      simp [List.getD_eq_getElem?_getD,List.getElem?_eq_getElem ci]
    have hpl : (rd_L1 P (i : Int)).length = N + 1:=HLn.out _ (by unfold rd_L1;exact EvKit.getD_mem P i [] ci);have hrb:=HRb.out;rw [hdr] at hrb;generalize rd_L1 P (i : Int) = p at hx hl_ hi_ hpl hrb;obtain ⟨ad2,e2,hy1⟩:=Kd.at_int hi_ q (by have:=HQ.out;have:=HK0.out;omega) (by have:=HQ.out;have:=HK.out;omega);cases e2;obtain ⟨ad3,e3,hy2⟩:=Kd.at_int hi_ (k : Int) (by omega) (by have:=HK.out;omega)
    injection e3 with e3
    subst e3;(have ex1 : rd p q = Pure.PA p (k - 1):=by unfold rd Pure.PA;rw [show q.toNat = k - 1 by have:=HQ.out;omega]);have ex2 : rd p (k : Int) = Pure.PA p k:=rfl;rw [ex1] at hy1;rw [ex2] at hy2;have hmf:=meets_hits p k HK0.out a b;generalize Pure.PA p (k - 1) = x1 at hy1 hmf;generalize Pure.PA p k = x2 at hy2 hmf;rw [Int.toNat_natCast] at hy2;have hin1 : (q < (p.length : Int)) = True:=eq_true (by have:=HQ.out;have:=HK.out;omega);have hin2 : ((k : Int) < (p.length : Int)) = True:=eq_true (by have:=HK.out;omega);have hin3 : ((0 : Int) ≤ q) = True:=eq_true (by have:=HQ.out;have:=HK0.out;omega);(have hw_ : wrap64 ((i : Int) + 1) = ((i + 1 : Nat) : Int):=by rw [EvKit.wrap64_id (by have:=HPn.out;omega) (by have:=HPn.out;omega)];omega);have HW:=Aside0.mk hw_;have HL_:=Aside0.mk hl_;have HI_:=Aside0.mk hi_;have hct:=eq_true ci;clear hw_ ci hdr hi_ hl_ hpl ex1 ex2;by_cases hh : Pure.Hits p k a b
    ·rw [decide_eq_true hh] at hmf
     have HMf:=Aside0.mk hmf
     have hrf : rb = false:=by
       rw [← hrb];exact decide_eq_false (fun h => h p (.head _) hh)
     subst hrf;clear hh hmf hrb;have hwk:=HWk.out;go_wp2_with fail
     go_quiet (first | (go_at_call 59;(with_reducible refine (impl_meets.calls a b x1 x2 true _ HMf.out).mono ?_);rintro e w' ⟨rfl,⟨nd,rfl⟩⟩;(try first | exact ⟨rfl,_,World.drewN_drewN _ _ _⟩ | exact ⟨rfl,_,Eq.trans (World.drewN_drewN _ _ _) (congrArg (World.drewN _) (Nat.add_assoc _ _ _))⟩)))
     (try go_wp2);go_ret;exact ⟨es_,by repeat (first | exact Drawn0.refl _ | apply Drawn0.step)⟩
    ·rw [decide_eq_false hh] at hmf
     have HMf:=Aside0.mk hmf
     have hrb2 : decide (Pure.May (P.drop (i + 1)) k a b) = rb:=by
       rw [← hrb,decide_eq_decide];exact ⟨fun h q hq => (List.mem_cons.1 hq).elim (fun e => e ▸ hh) (h q),fun h q hq => h q (.tail _ hq)⟩
     have HRb2:=Aside0.mk hrb2;clear hh hmf hrb hrb2;have hwk:=HWk.out;go_wp2_with fail
     go_quiet (first | (go_at_call 59;(with_reducible refine (impl_meets.calls a b x1 x2 false _ HMf.out).mono ?_);rintro e w' ⟨rfl,⟨nd,rfl⟩⟩;(try first | exact ⟨rfl,_,World.drewN_drewN _ _ _⟩ | exact ⟨rfl,_,Eq.trans (World.drewN_drewN _ _ _) (congrArg (World.drewN _) (Nat.add_assoc _ _ _))⟩)))
     (try go_wp2);rw [HW.out];go_roundg (gk - 1)
     case measure => have:=HI.out;have:=CI.out;omega
     case rel => exact ⟨i + 1,rfl,⟨by have:=HI.out;have:=CI.out;omega⟩,HRb2,by repeat (first | exact Drawn0.refl _ | apply Drawn0.step)⟩
   ·have cib : decide ((i : Int) < (P.length : Int)) = false:=decide_eq_false (by omega)
    have cic : decide (i < P.length) = false:=decide_eq_false ci
    have hrt : rb = true:=by
      rw [← HRb.out,List.drop_eq_nil_of_le (by omega)];exact decide_eq_true (show Pure.May [] k a b from fun p hp => by cases hp)
    subst hrt;clear ci;go_wp2;go_ret;exact ⟨es_,by repeat (first | exact Drawn0.refl _ | apply Drawn0.step)⟩
end Go.Proofs.Ytcldlljnaijmhaa.Pr
/-
Own text,by hand: the walk of AloneTicks (gen-alone.py).
-/
namespace Go.Proofs.Ytcldlljnaijmhaa.Pr
open Go.RowKit Go.Proofs.YtcldlljnaijmhaaW.PrintWords Go.Proofs.YtcldlljnaijmhaaW.PrintLast Go.Proofs.YtcldlljnaijmhaaW.PrintMore Go.Proofs.Ytcldlljnaijmhaa.Mp
open Bfs (Run relax open_)
set_option linter.unusedVariables false
set_option linter.unusedSimpArgs false

theorem keyI : Key Try.prog 3 (Value.int .i64):=Key.int Try.underlying3
end Go.Proofs.Ytcldlljnaijmhaa.Pr
