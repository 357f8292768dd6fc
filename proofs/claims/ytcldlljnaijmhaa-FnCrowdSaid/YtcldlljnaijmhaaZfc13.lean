-- Joined and pruned by wip/tools/prune.py out of this session's own texts (Pr26, PurePlan, HdPlan, Prd5, Pr22, MpEv, HMay, HAlone)
import Derived.Test.YtcldlljnaijmhaaZfc12
import Derived.Outline
namespace Go.Proofs.Ytcldlljnaijmhaa.Pr
open Go.RowKit Go.Proofs.YtcldlljnaijmhaaW.PrintWords Go.Proofs.YtcldlljnaijmhaaW.PrintLast Go.Proofs.YtcldlljnaijmhaaW.PrintMore
attribute [local go_sem] max2_int min2_int max_two min_two max_three min_three max_four min_four
set_option linter.unusedVariables false
set_option linter.unusedSimpArgs false

set_option maxHeartbeats 8000000 in
set_option maxRecDepth 100000 in
theorem spec_PlanCrowd.calls (k : Nat) (a0_0 : Int) (z6 : Option Addr) (c0_1 : Nat) (z2 : List Int) (A1 : Option Addr) (c1 : Nat) (l1 : List (S49)) (a2 : Int) (r1 : List (List Int)) (r2 : Bool) (w : World) (hr0_1 : Kd.C (Kd.int .i64) w z6 z2.length z2) (hc0_1 : z2.length ≤ c0_1) (hr1 : Kd.C k49 w A1 l1.length l1) (hc1 : l1.length ≤ c1) (h : spec_PlanCrowd.f k a0_0 z2 l1 a2 = some (r1,r2)) :
   Calls Try.prog 38 #[.agg #[.int .i64 a0_0,.slice z6 z2.length c0_1],.slice A1 l1.length c1,.int .i64 a2] w fun e w' => ∃ v0_ : Value,e = .returned (.tuple #[v0_,.bool r2]) ∧ Kd.S (Kd.slice 3 (Kd.int .i64)) 22 w' w.heap.size (fun _ => True) v0_ r1 ∧ Below w.heap.size w w':=by
  have ze5:=Try.underlying39;have ze6:=Try.underlying49;have r0:=Aside0.mk hr0_1;have r3:=Aside0.mk hc0_1;clear hr0_1 hc0_1;have HR1:=Aside0.mk hr1;have HC1:=Aside0.mk hc1;clear hr1 hc1;have HB:=ak (Below.refl w.heap.size w);have H : ((spec_GoodTrips.f k a0_0 z2 l1).bind fun r9 => (if r9 = true then (if a2 < 0 then (spec_PlanCrowd.j0 k l1 a2 true a0_0 z2) else (spec_PlanCrowd.j0 k l1 a2 (decide (a2 > 20)) a0_0 z2)) else (spec_PlanCrowd.j0 k l1 a2 true a0_0 z2))) = some (r1,r2):=h;clear h;have HC4:=Aside0.mk H;clear H;go_enter Try.func38,Try.ntmps38
  go_upto_region 1 with (first | ((with_reducible refine gate_dst (N:=3) rfl ?_);refine box_event ?hg (N:=3) ?hd (cs:=#[.int .i64 a0_0,.slice z6 z2.length c0_1]) (t:=39) ?hr ?_;(case hd => rfl);(case hg => rfl);(case hr => first | (go_simp;done) | (go_simp;rfl));intro z3 hg w5 hbox hb;have z0:=ak (hbox);have zd7 : Aside0 (w.heap.size ≤ z3):=gz_;have zd8 : Aside0 (w.heap.size ≤ z3):=gz_;replace HB:=ak (below_step hb_ hb);clear hb hbox hg))
  (try simp only [Act.put,aS,aZ,aN])
  go_cut [24] (fun v24 wc => ∃ (kq : Nat) (r6 : Bool),v24 = .bool r6 ∧ Aside0 (spec_PlanCrowd.j0 kq l1 a2 r6 a0_0 z2 = some (r1,r2)) ∧ Aside0 (kq ≤ k) ∧ Aside0 (wc.heap[z3]? = some (.cells #[.int .i64 a0_0,(.slice z6 z2.length c0_1)] 39 (0,0))) ∧ Aside0 (Below w.heap.size w wc))
  case first =>
   have H:=HC4.out;clear HC4;replace H:=Option.bind_eq_some_iff.mp H;obtain ⟨r9,A60,H⟩:=H;replace H : (if r9 = true then (if a2 < 0 then (spec_PlanCrowd.j0 k l1 a2 true a0_0 z2) else (spec_PlanCrowd.j0 k l1 a2 (decide (a2 > 20)) a0_0 z2)) else (spec_PlanCrowd.j0 k l1 a2 true a0_0 z2)) = some (r1,r2):=H;have A6:=Aside0.mk A60;clear A60;by_cases c7 : r9 = true
   ·subst c7
    rw [if_pos rfl] at H;by_cases c8 : a2 < 0
    ·rw [if_pos c8] at H
     have r7 : decide (a2 < 0) = true:=decide_eq_true c8;clear c8;(first | rw [r7] | (simp only [i64_w,i32_w];rw [r7]) | skip);have H':=Aside0.mk H;clear H;have zd3:=b20 z0;have zd4:=b21 z0;have zd5:=blk_frozen z0.out 0;have zd6:=blk_frozen z0.out 1;go_wp2_with (first | ((with_reducible refine gate_callee (f:=25) rfl ?_);refine goesL_ (some 15) rfl rfl Try.func25 (by kernel_rfl) rfl #[.agg #[.int .i64 a0_0,.slice z6 z2.length c0_1],.slice A1 l1.length c1] rfl ls_ ?_;(with_reducible refine (spec_GoodTrips.calls k a0_0 _ _ z2 _ _ l1 true _ ?j0 ?j1 ?j2 ?j3 A6.out).mono ?_);(case j0 => exact cb_ r0.out);(case j1 => exact r3.out);(case j2 => exact cb_ HR1.out);(case j3 => exact HC1.out);rintro e w10 ⟨rfl,hb⟩;refine ⟨_,rfl,?_⟩;replace z0:=bb_ z0 hb;replace HB:=ak (below_step hb_ hb);(try clear hb);(try clear hb2);(try clear hk);(try clear hi)));go_meet
     case rel => exact ⟨_,(true),es_,H',⟨by first | omega | exact Nat.le_refl _⟩,⟨bk_ z0.out⟩,⟨hb_⟩⟩
    ·rw [if_neg c8] at H
     have r7 : decide (a2 < 0) = false:=decide_eq_false c8;clear c8;(first | rw [r7] | (simp only [i64_w,i32_w];rw [r7]) | skip);have H':=Aside0.mk H;clear H;have za9:=b20 z0;have zb0:=b21 z0;have zb1:=blk_frozen z0.out 0;have zb2:=blk_frozen z0.out 1;go_wp2_with (first | ((with_reducible refine gate_callee (f:=25) rfl ?_);refine goesL_ (some 15) rfl rfl Try.func25 (by kernel_rfl) rfl #[.agg #[.int .i64 a0_0,.slice z6 z2.length c0_1],.slice A1 l1.length c1] rfl ls_ ?_;(with_reducible refine (spec_GoodTrips.calls k a0_0 _ _ z2 _ _ l1 true _ ?j0 ?j1 ?j2 ?j3 A6.out).mono ?_);(case j0 => exact cb_ r0.out);(case j1 => exact r3.out);(case j2 => exact cb_ HR1.out);(case j3 => exact HC1.out);rintro e w12 ⟨rfl,hb⟩;refine ⟨_,rfl,?_⟩;replace z0:=bb_ z0 hb;replace HB:=ak (below_step hb_ hb);(try clear hb);(try clear hb2);(try clear hk);(try clear hi)));go_meet
     case rel => exact ⟨_,(decide (a2 > 20)),es_,H',⟨by first | omega | exact Nat.le_refl _⟩,⟨bk_ z0.out⟩,⟨hb_⟩⟩
   ·replace c7:=Bool.eq_false_iff.mpr c7
    subst c7;rw [if_neg (show ¬ (false = true) by decide)] at H;have H':=Aside0.mk H;clear H;have zb3:=b20 z0;have zb4:=b21 z0;have zb5:=blk_frozen z0.out 0;have zb6:=blk_frozen z0.out 1;go_wp2_with (first | ((with_reducible refine gate_callee (f:=25) rfl ?_);refine goesL_ (some 15) rfl rfl Try.func25 (by kernel_rfl) rfl #[.agg #[.int .i64 a0_0,.slice z6 z2.length c0_1],.slice A1 l1.length c1] rfl ls_ ?_;(with_reducible refine (spec_GoodTrips.calls k a0_0 _ _ z2 _ _ l1 false _ ?j0 ?j1 ?j2 ?j3 A6.out).mono ?_);(case j0 => exact cb_ r0.out);(case j1 => exact r3.out);(case j2 => exact cb_ HR1.out);(case j3 => exact HC1.out);rintro e w14 ⟨rfl,hb⟩;refine ⟨_,rfl,?_⟩;replace z0:=bb_ z0 hb;replace HB:=ak (below_step hb_ hb);(try clear hb);(try clear hb2);(try clear hk);(try clear hi)));go_meet
    case rel => exact ⟨_,(true),es_,H',⟨by first | omega | exact Nat.le_refl _⟩,⟨bk_ z0.out⟩,⟨hb_⟩⟩
  case rest =>
   clear HC4;obtain ⟨kq,r6,rfl,HA,HJ3,z0,HB⟩:=hcut
   cases kq with
   | zero => exact absurd HA.out (by simp [spec_PlanCrowd.j0])
   | succ kj3 =>
    have H:=HA.out;clear HA;simp only [spec_PlanCrowd.j0] at H;by_cases c15 : r6 = true
    ·subst c15
     rw [if_pos rfl] at H;simp only [Option.some.injEq,Prod.mk.injEq] at H;obtain ⟨rfl,rfl⟩:=H;go_wp2
     go_ret2
     exact ⟨_,er_,by first | exact Kd.S_nil _ _ _ _ _ | exact Kd.N_nil _ _ _ _ _ | exact Kd.V_nil _ _ _ _ _ | exact Kd.Q_nil _ _ _ _ _ | exact Kd.R_nil _ _ _ _ _,hb_⟩
    ·replace c15:=Bool.eq_false_iff.mpr c15
     subst c15;rw [if_neg (show ¬ (false = true) by decide)] at H;have H':=Aside0.mk H;clear H;go_wp2
     go_loopg [8,27] kj3 (fun kq v8 v27 w' => ∃ (z8 : List (List Int)) (z1 : Int),v27 = .int .i64 z1 ∧ Aside0 (spec_PlanCrowd.l0 kq a2 z8 l1 (l1.length : Int) z1 a0_0 z2 = some (r1,r2)) ∧ Aside0 (kq ≤ kj3) ∧ Aside0 (Kd.S (Kd.slice 3 (Kd.int .i64)) 22 w' w.heap.size (fun _ => True) v8 z8) ∧ Aside0 (w'.heap[z3]? = some (.cells #[.int .i64 a0_0,(.slice z6 z2.length c0_1)] 39 (0,0))) ∧ Aside0 (Below w.heap.size w w'))
     case atStart => exact ⟨(([] : List (List Int))),(0),es_,H',⟨Nat.le_refl _⟩,⟨by first | exact Kd.S_nil _ _ _ _ _ | exact Kd.N_nil _ _ _ _ _ | exact Kd.V_nil _ _ _ _ _ | exact Kd.Q_nil _ _ _ _ _ | exact Kd.R_nil _ _ _ _ _⟩,⟨bk_ z0.out⟩,⟨hb_⟩⟩
     case round =>
      clear H';obtain ⟨z8,z1,rfl,HA,HK2,z7,z0,HB⟩:=hrel
      cases gk with
      | zero => exact absurd HA.out (by simp [spec_PlanCrowd.l0])
      | succ k2 =>
       have H:=HA.out;clear HA;simp only [spec_PlanCrowd.l0] at H;by_cases c16 : z1 < (l1.length : Int)
       ·rw [if_pos c16] at H
        have m7 : decide (z1 < (l1.length : Int)) = true:=decide_eq_true c16;clear c16;by_cases c17 : 0 ≤ z1
        ·rw [if_pos c17] at H
         have zd9 : decide (0 ≤ z1) = true:=decide_eq_true c17;clear c17;by_cases c18 : z1 < (l1.length : Int)
         ·rw [if_pos c18] at H
          have ze0 : decide (z1 < (l1.length : Int)) = true:=decide_eq_true c18;clear c18;replace H:=Option.bind_eq_some_iff.mp H;obtain ⟨⟨j7,m1⟩,m2,H⟩:=H;replace H : (if m1 = true then (if z8.length < 5864062014805 then (spec_PlanCrowd.l0 k2 a2 (z8 ++ [j7]) l1 (l1.length : Int) (wrap64 (z1 + 1)) a0_0 z2) else (none)) else (some (([] : List (List Int)),false))) = some (r1,r2):=H;have A19:=Aside0.mk m2;clear m2;by_cases c20 : m1 = true
          ·subst c20
           rw [if_pos rfl] at H;by_cases c21 : z8.length < 5864062014805
           ·rw [if_pos c21] at H
            have m8:=Aside0.mk c21;clear c21;obtain ⟨m3,r4⟩ : ∃ y_ : List (List Int),y_ = (z8 ++ [j7]):=⟨_,rfl⟩;(replace H : (spec_PlanCrowd.l0 k2 a2 m3 l1 (l1.length : Int) (wrap64 (z1 + 1)) a0_0 z2) = some (r1,r2):=by first | (rw [r4];with_reducible exact H) | (have H2_:=(Option.bind_some _ _).symm.trans H;rw [r4];with_reducible exact H2_) | (have H2_:=(Option.bind_some _ _).symm.trans H;with_reducible exact H2_) | with_reducible exact H | (rw [r4];exact H) | exact H);have m9:=Aside0.mk r4;clear r4;have H':=Aside0.mk H;clear H;have j8 : 0 ≤ (z1 : Int):=of_decide_eq_true as_;have j9 : z1 < (l1.length : Int):=of_decide_eq_true as_;obtain ⟨za0,e490,j4,j5⟩:=at_T49 HR1.out z1 j8 j9;cases e490;replace j4:=hc_ HB j4;replace j5:=hc_ HB j5;replace j8:=eq_true j8;replace j9:=eq_true j9;go_wp2_with (first | ((with_reducible refine gate_dst (N:=10) rfl ?_);refine box_event ?hg (N:=10) ?hd (cs:=#[.int .i64 0,.int .i64 0]) (t:=49) ?hr ?_;(case hd => rfl);(case hg => rfl);(case hr => first | (go_simp;done) | (go_simp;rfl));intro z4 hg w22 hbox hb;replace z7:=ak (Kd.S_below (sa_ z7.out) hb);have z5:=ak (hbox);have za1 : Aside0 (w.heap.size ≤ z4):=gz_;have za2 : Aside0 (w.heap.size ≤ z4):=gz_;have z9:=ak ((by rw [hg];exact Nat.ne_of_lt (blk_lt (g:=z3) (o:=.cells #[.int .i64 a0_0,.slice z6 z2.length c0_1] 39 (0,0)) (bk_ z0.out)) : z3 ≠ z4));have j6:=ak ((by rw [hg];exact Nat.ne_of_gt (blk_lt (g:=z3) (o:=.cells #[.int .i64 a0_0,.slice z6 z2.length c0_1] 39 (0,0)) (bk_ z0.out)) : z4 ≠ z3));replace z0:=bb_ z0 hb;replace HB:=ak (below_step hb_ hb);clear hb hbox hg;have ze1:=j6.out;have ze2:=z9.out;have zb7:=b20 z5;have zb8:=b21 z5;have zb9:=blk_frozen z5.out 0;have zc0:=blk_frozen z5.out 1;have zc1:=b20 z0;have zc2:=b21 z0;have zc3:=blk_frozen z0.out 0;have zc4:=blk_frozen z0.out 1;obtain ⟨m0,r8,za4⟩:=Kd.S_slice z7.out;subst za4) | ((with_reducible refine gate_callee (f:=60) rfl ?_);refine goesL_ (some 36) rfl rfl Try.func60 (by kernel_rfl) rfl #[.agg #[.int .i64 a0_0,.slice z6 z2.length c0_1],.agg #[.int .i64 ((rd_T49 l1 z1).f0),.int .i64 ((rd_T49 l1 z1).f1)],.slice m0 z8.length r8,.int .i64 a2] rfl ls_ ?_;(with_reducible refine (spec_l20Path.calls k2 a0_0 _ _ z2 ((rd_T49 l1 z1).f0) ((rd_T49 l1 z1).f1) _ _ z8 a2 j7 true _ ?j0 ?j1 ?j2 ?j3 A19.out).mono ?_);(case j0 => exact Kd.C_below r0.out hb_);(case j1 => exact r3.out);(case j2 => refine (Kd.S_reads' (e:=22) (base:=w.heap.size) (ok:=fun k_ => True) (n:=z8.length) (c:=r8) ?_).2.2;exact (by (with_reducible repeat (first | apply Kd.S_alloc | apply Kd.S_drewN | apply Kd.S_drew));exact (Kd.S_mono (Kd.S_far (p:=⟨z4,1,none⟩) (Kd.S_far (p:=⟨z4,0,none⟩) (Kd.S_types z7.out z5.out (by decide)) (fun _ hk => hk.2) (.int .i64 ((rd_T49 l1 z1).f0))) (fun _ hk => hk.2) (.int .i64 ((rd_T49 l1 z1).f1))) (fun _ h_ => h_.1))));(case j3 => exact (Kd.S_reads' z7.out).2.1);rintro e w27 ⟨za5,rfl,ho0,hb⟩;refine ⟨_,rfl,?_⟩;replace z7:=ak (Kd.S_elder' (by (with_reducible repeat (first | apply Kd.S_alloc | apply Kd.S_drewN | apply Kd.S_drew));exact (Kd.S_mono (Kd.S_far (p:=⟨z4,1,none⟩) (Kd.S_far (p:=⟨z4,0,none⟩) (Kd.S_types z7.out z5.out (by decide)) (fun _ hk => hk.2) (.int .i64 ((rd_T49 l1 z1).f0))) (fun _ hk => hk.2) (.int .i64 ((rd_T49 l1 z1).f1))) (fun _ h_ => h_.1))) (Kd.R_base ho0) hb);have r5:=ak (Kd.R_lower ho0 (below_size hb_));replace z0:=ak (blk_below (g:=z3) (o:=.cells #[.int .i64 a0_0,.slice z6 z2.length c0_1] 39 (0,0)) (by (with_reducible repeat (first | refine blk_drewN ?_ _ | refine blk_drew ?_ | refine blk_alloc ?_ _));refine blk_far ?_ z9.out _;(with_reducible repeat (first | refine blk_drewN ?_ _ | refine blk_drew ?_ | refine blk_alloc ?_ _));refine blk_far ?_ z9.out _;exact bk_ z0.out) hb);replace z5:=ak (blk_below (g:=z4) (o:=.cells #[.int .i64 ((rd_T49 l1 z1).f0),.int .i64 ((rd_T49 l1 z1).f1)] 49 (0,0)) (by (with_reducible repeat (first | refine blk_drewN ?_ _ | refine blk_drew ?_ | refine blk_alloc ?_ _));refine blk_put (cs:=#[.int .i64 ((rd_T49 l1 z1).f0),.int .i64 0]) ?_ 1 _ rfl;(with_reducible repeat (first | refine blk_drewN ?_ _ | refine blk_drew ?_ | refine blk_alloc ?_ _));refine blk_put (cs:=#[.int .i64 0,.int .i64 0]) ?_ 0 _ rfl;exact bk_ z5.out) hb);replace HB:=ak (below_step hb_ hb);(try clear hb);(try clear hb2);(try clear hk);(try clear hi);(try clear ho0);obtain ⟨m4,m5,za6⟩:=Kd.R_slice r5.out;subst za6) | ((with_reducible refine gate_builtin (b:=.append) (xs:=#[.tmp 41,.tmp 43]) rfl ?_);at_builtin;refine Kd.S_append (Kd.slice 3 (Kd.int .i64)) (w0:=w) w.heap.size rfl (.tmp 41) (.tmp 43) 27 22 (.slice none 0 0) 24 rfl Try.underlying27 info22 rfl (by decide) (by omega) (.slice m0 z8.length r8) z8 j7 [.slice m4 j7.length m5] (fun _ => True) (fun k_ => some k_ = (.slice m4 j7.length m5 : Value).ownBlock) rfl rfl ?aP (fun k_ hk_ => ((Kd.R_mono (ok':=fun k_ => ((fun _ => True)) k_ ∧ some k_ ≠ (.slice m0 z8.length r8 : Value).ownBlock) (Kd.R_apart' (r5.out) (Kd.S_typed z7.out) (by decide)) (fun k_ hk => ⟨trivial,hk.2⟩))).1 k_ hk_.symm) ?aF ?aO ?aB ?aS ?aL ?_;(case aP => exact Kd.M_row (Kd.R_mono (Kd.R_tight rfl (Kd.R_mono (ok':=fun k_ => ((fun _ => True)) k_ ∧ some k_ ≠ (.slice m0 z8.length r8 : Value).ownBlock) (Kd.R_apart' (r5.out) (Kd.S_typed z7.out) (by decide)) (fun k_ hk => ⟨trivial,hk.2⟩))) (fun _ h_ => h_)));(case aB => exact hb_);(case aF => exact (fun _ _ => trivial));(case aO => exact (by (with_reducible repeat (first | apply Kd.S_alloc | apply Kd.S_drewN | apply Kd.S_drew));exact Kd.S_mono z7.out (fun k_ hk => ⟨trivial,fun e_ => hk.2 e_⟩)));(case aS => exact (below_size hb_));(case aL => have:=m8.out;omega);intro ze7 w28 ho hb hg hat;rw [← m9.out] at ho;replace z0:=ak (blk_grown (g:=z3) (o:=.cells #[.int .i64 a0_0,.slice z6 z2.length c0_1] 39 (0,0)) (bk_ z0.out) hg (Kd.S_ne z7.out z0.out (by decide)));replace z5:=ak (blk_grown (g:=z4) (o:=.cells #[.int .i64 ((rd_T49 l1 z1).f0),.int .i64 ((rd_T49 l1 z1).f1)] 49 (0,0)) (bk_ z5.out) hg (Kd.S_ne z7.out z5.out (by decide)));have za3:=ak (ho);replace HB:=ak (hb);clear z7 r5;clear ho hb hg hat))
            go_roundg k2
            case measure => have:=HJ3.out;have:=HK2.out;omega
            case rel => exact ⟨(m3),(wrap64 (z1 + 1)),es_,H',⟨by have:=HJ3.out;have:=HK2.out;omega⟩,⟨sa_ za3.out⟩,⟨bk_ z0.out⟩,⟨hb_⟩⟩
           ·rw [if_neg c21] at H
            exact absurd H (by simp)
          ·replace c20:=Bool.eq_false_iff.mpr c20
           subst c20;rw [if_neg (show ¬ (false = true) by decide)] at H;simp only [Option.some.injEq,Prod.mk.injEq] at H;obtain ⟨rfl,rfl⟩:=H;have j8 : 0 ≤ (z1 : Int):=of_decide_eq_true as_;have j9 : z1 < (l1.length : Int):=of_decide_eq_true as_;obtain ⟨za0,e490,j4,j5⟩:=at_T49 HR1.out z1 j8 j9;cases e490;replace j4:=hc_ HB j4;replace j5:=hc_ HB j5;replace j8:=eq_true j8;replace j9:=eq_true j9;go_wp2_with (first | ((with_reducible refine gate_dst (N:=10) rfl ?_);refine box_event ?hg (N:=10) ?hd (cs:=#[.int .i64 0,.int .i64 0]) (t:=49) ?hr ?_;(case hd => rfl);(case hg => rfl);(case hr => first | (go_simp;done) | (go_simp;rfl));intro z4 hg w30 hbox hb;replace z7:=ak (Kd.S_below (sa_ z7.out) hb);have z5:=ak (hbox);have za1 : Aside0 (w.heap.size ≤ z4):=gz_;have za2 : Aside0 (w.heap.size ≤ z4):=gz_;have z9:=ak ((by rw [hg];exact Nat.ne_of_lt (blk_lt (g:=z3) (o:=.cells #[.int .i64 a0_0,.slice z6 z2.length c0_1] 39 (0,0)) (bk_ z0.out)) : z3 ≠ z4));have j6:=ak ((by rw [hg];exact Nat.ne_of_gt (blk_lt (g:=z3) (o:=.cells #[.int .i64 a0_0,.slice z6 z2.length c0_1] 39 (0,0)) (bk_ z0.out)) : z4 ≠ z3));replace z0:=bb_ z0 hb;replace HB:=ak (below_step hb_ hb);clear hb hbox hg;have ze3:=j6.out;have ze4:=z9.out;have zc5:=b20 z5;have zc6:=b21 z5;have zc7:=blk_frozen z5.out 0;have zc8:=blk_frozen z5.out 1;have zc9:=b20 z0;have zd0:=b21 z0;have zd1:=blk_frozen z0.out 0;have zd2:=blk_frozen z0.out 1;obtain ⟨za7,m6,za8⟩:=Kd.S_slice z7.out;subst za8) | ((with_reducible refine gate_callee (f:=60) rfl ?_);refine goesL_ (some 36) rfl rfl Try.func60 (by kernel_rfl) rfl #[.agg #[.int .i64 a0_0,.slice z6 z2.length c0_1],.agg #[.int .i64 ((rd_T49 l1 z1).f0),.int .i64 ((rd_T49 l1 z1).f1)],.slice za7 z8.length m6,.int .i64 a2] rfl ls_ ?_;(with_reducible refine (spec_l20Path.calls k2 a0_0 _ _ z2 ((rd_T49 l1 z1).f0) ((rd_T49 l1 z1).f1) _ _ z8 a2 j7 false _ ?j0 ?j1 ?j2 ?j3 A19.out).mono ?_);(case j0 => exact Kd.C_below r0.out hb_);(case j1 => exact r3.out);(case j2 => refine (Kd.S_reads' (e:=22) (base:=w.heap.size) (ok:=fun k_ => True) (n:=z8.length) (c:=m6) ?_).2.2;exact (by (with_reducible repeat (first | apply Kd.S_alloc | apply Kd.S_drewN | apply Kd.S_drew));exact (Kd.S_mono (Kd.S_far (p:=⟨z4,1,none⟩) (Kd.S_far (p:=⟨z4,0,none⟩) (Kd.S_types z7.out z5.out (by decide)) (fun _ hk => hk.2) (.int .i64 ((rd_T49 l1 z1).f0))) (fun _ hk => hk.2) (.int .i64 ((rd_T49 l1 z1).f1))) (fun _ h_ => h_.1))));(case j3 => exact (Kd.S_reads' z7.out).2.1);rintro e w35 ⟨za5,rfl,ho0,hb⟩;refine ⟨_,rfl,?_⟩;replace z7:=ak (Kd.S_elder' (by (with_reducible repeat (first | apply Kd.S_alloc | apply Kd.S_drewN | apply Kd.S_drew));exact (Kd.S_mono (Kd.S_far (p:=⟨z4,1,none⟩) (Kd.S_far (p:=⟨z4,0,none⟩) (Kd.S_types z7.out z5.out (by decide)) (fun _ hk => hk.2) (.int .i64 ((rd_T49 l1 z1).f0))) (fun _ hk => hk.2) (.int .i64 ((rd_T49 l1 z1).f1))) (fun _ h_ => h_.1))) (Kd.R_base ho0) hb);have r5:=ak (Kd.R_lower ho0 (below_size hb_));replace z0:=ak (blk_below (g:=z3) (o:=.cells #[.int .i64 a0_0,.slice z6 z2.length c0_1] 39 (0,0)) (by (with_reducible repeat (first | refine blk_drewN ?_ _ | refine blk_drew ?_ | refine blk_alloc ?_ _));refine blk_far ?_ z9.out _;(with_reducible repeat (first | refine blk_drewN ?_ _ | refine blk_drew ?_ | refine blk_alloc ?_ _));refine blk_far ?_ z9.out _;exact bk_ z0.out) hb);replace z5:=ak (blk_below (g:=z4) (o:=.cells #[.int .i64 ((rd_T49 l1 z1).f0),.int .i64 ((rd_T49 l1 z1).f1)] 49 (0,0)) (by (with_reducible repeat (first | refine blk_drewN ?_ _ | refine blk_drew ?_ | refine blk_alloc ?_ _));refine blk_put (cs:=#[.int .i64 ((rd_T49 l1 z1).f0),.int .i64 0]) ?_ 1 _ rfl;(with_reducible repeat (first | refine blk_drewN ?_ _ | refine blk_drew ?_ | refine blk_alloc ?_ _));refine blk_put (cs:=#[.int .i64 0,.int .i64 0]) ?_ 0 _ rfl;exact bk_ z5.out) hb);replace HB:=ak (below_step hb_ hb);(try clear hb);(try clear hb2);(try clear hk);(try clear hi);(try clear ho0)))
           go_ret2
           exact ⟨_,er_,by first | exact Kd.S_nil _ _ _ _ _ | exact Kd.N_nil _ _ _ _ _ | exact Kd.V_nil _ _ _ _ _ | exact Kd.Q_nil _ _ _ _ _ | exact Kd.R_nil _ _ _ _ _,hb_⟩
         ·rw [if_neg c18] at H
          exact absurd H (by simp)
        ·rw [if_neg c17] at H
         exact absurd H (by simp)
       ·rw [if_neg c16] at H
        have m7 : decide (z1 < (l1.length : Int)) = false:=decide_eq_false c16;clear c16;simp only [Option.some.injEq,Prod.mk.injEq] at H;obtain ⟨rfl,rfl⟩:=H;go_wp2
        go_ret2
        exact ⟨_,er_,by (with_reducible repeat (first | apply Kd.S_alloc | apply Kd.S_drewN | apply Kd.S_drew));exact z7.out,hb_⟩

end Go.Proofs.Ytcldlljnaijmhaa.Pr
/-
Own text: a plan beside others: the program's search (from an arrival on all stands still) and the reference's (the arrival is the end) find the same path.
-/
namespace Go.Proofs.Ytcldlljnaijmhaa.Pure
open Go.RowKit Go.Proofs.YtcldlljnaijmhaaW.PrintWords Go.Proofs.YtcldlljnaijmhaaW.PrintLast Go.Proofs.Ytcldlljnaijmhaa.Pr Go.Proofs.Ytcldlljnaijmhaa.EvKit
open Classical

def PA (p : List Int) (k : Nat) : Int:=p.getD k 0
/-- One who goes from a to b at the tick k meets the path p. -/
def Hits (p : List Int) (k : Nat) (a b : Int) : Prop:=PA p k = b ∨ (0 < k ∧ PA p (k - 1) = b ∧ PA p k = a)
def May (P : List (List Int)) (k : Nat) (a b : Int) : Prop:=∀ p ∈ P,¬ Hits p k a b
/-- Nobody is at T at the tick k. -/
def Clear (P : List (List Int)) (T : Int) (k : Nat) : Prop:=∀ p ∈ P,¬ PA p k = T
theorem may_stay {P : List (List Int)} {T : Int} {k : Nat} : May P k T T ↔ Clear P T k:=
  ⟨fun h p hp e => h p hp (.inl e),fun h p hp e => e.elim (h p hp) (fun e => h p hp e.2.2)⟩
section
variable (w : Int) (c : List Int) (P : List (List Int)) (T : Int)
/-- In so many ticks, from the cell x at the tick k, one comes to T. -/
def reach : Nat → Nat → Int → Prop
  | 0,_,x => x = T
  | n + 1,k,x => Fr c x ∧ ∃ y ∈ Gos w c x,reach n (k + 1) y ∧ May P (k + 1) x y
/-- .. and stands there from the tick a on. -/
def still (a : Nat) : Nat → Nat → Int → Prop
  | 0,_,x => x = T
  | n + 1,k,x => Fr c x ∧ ¬ (a ≤ k ∧ ¬ x = T) ∧ ∃ y ∈ Gos w c x,still a n (k + 1) y ∧ May P (k + 1) x y
variable {w c P T}
theorem self_mem {x : Int} (h : Fr c x) : x ∈ Gos w c x:=by
  unfold Gos
  simp [h]
/-- From a on: T alone, if nobody comes by. -/
theorem still_at (hT : Fr c T) {a : Nat} (n : Nat) : ∀ (k : Nat) (x : Int),a ≤ k → (still w c P T a n k x ↔ x = T ∧ ∀ j,k < j → j ≤ k + n → Clear P T j):=by
  induction n with
  | zero =>
    intro k x _;simp only [still];exact ⟨fun h => ⟨h,fun j h1 h2 => by omega⟩,fun h => h.1⟩
  | succ n ih =>
    intro k x hk;simp only [still]
    constructor
    · rintro ⟨_,h2,y,_,h4,h5⟩
      (have hx : x = T:=Classical.byContradiction fun h => h2 ⟨hk,h⟩);obtain ⟨hy,hcl⟩:=(ih (k + 1) y (by omega)).1 h4;subst hx;rw [hy] at h5;refine ⟨rfl,fun j h1 h2 => ?_⟩;by_cases e : j = k + 1
      · subst e
        exact may_stay.1 h5
      · exact hcl j (by omega) (by omega)
    · rintro ⟨rfl,hcl⟩
      exact ⟨hT,fun h => h.2 rfl,x,self_mem hT,(ih (k + 1) x (by omega)).2 ⟨rfl,fun j h1 h2 => hcl j (by omega) (by omega)⟩,may_stay.2 (hcl (k + 1) (by omega) (by omega))⟩
/-- Up to a: as the reference has it. -/
theorem still_reach (hT : Fr c T) {a N : Nat} (hcl : ∀ j,a < j → j ≤ N → Clear P T j) (d : Nat) : ∀ k,k + d = a → a ≤ N → ∀ x,(still w c P T a (N - k) k x ↔ reach w c P T (a - k) k x):=by
  induction d with
  | zero =>
    intro k hk ha x
    obtain rfl : k = a:=by omega
    rw [still_at hT (N - k) k x (Nat.le_refl _),Nat.sub_self];simp only [reach];exact ⟨fun h => h.1,fun h => ⟨h,fun j h1 h2 => hcl j h1 (by omega)⟩⟩
  | succ d ih =>
    intro k hk ha x;obtain ⟨n,hn⟩ : ∃ n,N - k = n + 1:=⟨N - k - 1,by omega⟩;obtain ⟨m,hm⟩ : ∃ m,a - k = m + 1:=⟨a - k - 1,by omega⟩;rw [hn,hm];simp only [still,reach];(have e1 : n = N - (k + 1):=by omega);(have e2 : m = a - (k + 1):=by omega);rw [e1,e2]
    constructor
    · rintro ⟨h1,_,y,h3,h4,h5⟩
      exact ⟨h1,y,h3,(ih (k + 1) (by omega) ha y).1 h4,h5⟩
    · rintro ⟨h1,y,h3,h4,h5⟩
      exact ⟨h1,fun h => by omega,y,h3,(ih (k + 1) (by omega) ha y).2 h4,h5⟩
theorem still_clear (hT : Fr c T) {a N : Nat} (d : Nat) : ∀ k x,k + d = a → a ≤ N → still w c P T a (N - k) k x → ∀ j,a < j → j ≤ N → Clear P T j:=by
  induction d with
  | zero =>
    intro k x hk ha h
    obtain rfl : k = a:=by omega
    have:=((still_at hT (N - k) k x (Nat.le_refl _)).1 h).2;intro j h1 h2;exact this j h1 (by omega)
  | succ d ih =>
    intro k x hk ha h;obtain ⟨n,hn⟩ : ∃ n,N - k = n + 1:=⟨N - k - 1,by omega⟩;rw [hn] at h;simp only [still] at h;obtain ⟨_,_,y,_,h4,_⟩:=h;(have e1 : n = N - (k + 1):=by omega);rw [e1] at h4;exact ih (k + 1) y (by omega) ha h4
/-- Who comes to T by a step finds nobody there. -/
theorem reach_clear (n : Nat) : ∀ k x,reach w c P T (n + 1) k x → Clear P T (k + n + 1):=by
  induction n with
  | zero =>
    intro k x h;obtain ⟨_,y,_,h3,h4⟩:=h;simp only [reach] at h3;subst h3;(exact fun p hp e => h4 p hp (.inl e))
  | succ n ih =>
    intro k x h;obtain ⟨_,y,_,h3,_⟩:=h;have:=ih (k + 1) y h3;rw [show k + (n + 1) + 1 = k + 1 + n + 1 by omega];exact this
/-- All is free from s on. -/
def Stay (P : List (List Int)) (T : Int) (N s : Nat) : Prop:=∀ j,s ≤ j → j ≤ N → Clear P T j
theorem still_iff (hT : Fr c T) {S : Int} {a N : Nat} (ha : a ≤ N) (hS : ∀ p ∈ P,¬ PA p 0 = S) : still w c P T a N 0 S ↔ Stay P T N a ∧ reach w c P T a 0 S:=by
  constructor
  · intro h
    have hcl:=still_clear hT a 0 S (by omega) ha h;have hr:=(still_reach hT hcl a 0 (by omega) ha S).1 h;refine ⟨fun j h1 h2 => ?_,hr⟩;by_cases e : j = a
    · subst e
      cases j with
      | zero =>
        simp only [Nat.sub_self,reach] at hr;subst hr;exact hS
      | succ n =>
        have:=reach_clear n 0 S hr;rw [Nat.zero_add] at this;exact this
    · exact hcl j (by omega) h2
  · rintro ⟨h1,h2⟩
    exact (still_reach hT (fun j h3 h4 => h1 j (by omega) h4) a 0 (by omega) ha S).2 h2
end

section
variable (w : Int) (c : List Int) (P : List (List Int)) (S T : Int)
/-- The next cell, the first that is good. -/
noncomputable def good (C : Nat → Int → Prop) (k : Nat) (x : Int) : Option Int:=(Gos w c x).find? fun y => decide (C k y ∧ May P k x y)
/-- Where one is at the tick k. -/
noncomputable def gst (C : Nat → Int → Prop) : Nat → Int
  | 0 => S
  | k + 1 => (good w c P C (k + 1) (gst C k)).getD T
/-- The program's plan. -/
noncomputable def planI (N : Nat) : Option (List Int):=
  if ∃ p ∈ P,PA p 0 = S then none else
  ((List.range (N + 1)).find? fun a => decide (still w c P T a N 0 S)).map fun a => (List.range (N + 1)).map (gst w c P S T fun k x => still w c P T a (N - k) k x)
/-- The reference's. -/
noncomputable def planS (N : Nat) : Option (List Int):=
  if ∃ p ∈ P,PA p 0 = S then none else
  ((List.range (N + 1)).find? fun e => decide (Stay P T N e ∧ reach w c P T e 0 S)).map fun e => (List.range (N + 1)).map fun k => if k ≤ e then gst w c P S T (fun k x => reach w c P T (e - k) k x) k else T
variable {w c P S T}
theorem find_congr {α : Type} (l : List α) (p q : α → Bool) (h : ∀ x ∈ l,p x = q x) : l.find? p = l.find? q:=by
  induction l with
  | nil => rfl
  | cons a l ih =>
    rw [List.find?_cons,List.find?_cons,h a (.head _),ih (fun x hx => h x (.tail _ hx))]
theorem good_congr {C C' : Nat → Int → Prop} {k : Nat} (h : ∀ y,C k y ↔ C' k y) (x : Int) : good w c P C k x = good w c P C' k x:=by
  unfold good;refine find_congr _ _ _ (fun y _ => ?_);rw [decide_eq_decide,h y]
theorem gst_eq (hT : Fr c T) {a N : Nat} (ha : a ≤ N) (hst : Stay P T N a) (hr : reach w c P T a 0 S) : ∀ k,k ≤ N → gst w c P S T (fun k x => still w c P T a (N - k) k x) k = if k ≤ a then gst w c P S T (fun k x => reach w c P T (a - k) k x) k else T:=by
  (have hcl : ∀ j,a < j → j ≤ N → Clear P T j:=fun j h1 h2 => hst j (by omega) h2)
  -- at the tick a one is at T
  have low : ∀ k,k ≤ a → gst w c P S T (fun k x => still w c P T a (N - k) k x) k = gst w c P S T (fun k x => reach w c P T (a - k) k x) k:=by
    intro k
    induction k with
    | zero => intro _;rfl
    | succ k ih =>
      intro hk;simp only [gst];rw [ih (by omega),good_congr (C:=fun k x => still w c P T a (N - k) k x) (C':=fun k x => reach w c P T (a - k) k x) (fun y => still_reach hT hcl (a - (k + 1)) (k + 1) (by omega) ha y)]
  have inv : ∀ k,k ≤ a → reach w c P T (a - k) k (gst w c P S T (fun k x => reach w c P T (a - k) k x) k):=by
    intro k
    induction k with
    | zero => intro _;exact hr
    | succ k ih =>
      intro hk;have h:=ih (by omega);obtain ⟨m,hm⟩ : ∃ m,a - k = m + 1:=⟨a - k - 1,by omega⟩;rw [hm] at h;simp only [reach] at h;obtain ⟨_,y,h3,h4,h5⟩:=h;rw [show m = a - (k + 1) by omega] at h4;simp only [gst];generalize hx : gst w c P S T (fun k x => reach w c P T (a - k) k x) k = x at h3 h5 ⊢
      have hsome : (good w c P (fun k x => reach w c P T (a - k) k x) (k + 1) x).isSome:=by
        unfold good;rw [List.find?_isSome];exact ⟨y,h3,by simpa using ⟨h4,h5⟩⟩
      cases hg : good w c P (fun k x => reach w c P T (a - k) k x) (k + 1) x with
      | none => rw [hg] at hsome;cases hsome
      | some z =>
        unfold good at hg;have:=List.find?_some hg;simp only [decide_eq_true_eq] at this;exact this.1
  have atA : gst w c P S T (fun k x => reach w c P T (a - k) k x) a = T:=by
    have:=inv a (Nat.le_refl _);rw [Nat.sub_self] at this;exact this
  intro k
  induction k with
  | zero => intro _;rw [if_pos (by omega)];rfl
  | succ k ih =>
    intro hk;by_cases hka : k + 1 ≤ a
    · rw [if_pos hka]
      exact low _ hka
    · rw [if_neg hka]
      have hx : gst w c P S T (fun k x => still w c P T a (N - k) k x) k = T:=by
        rw [ih (by omega)]
        split
        · rename_i h
          obtain rfl : k = a:=by omega
          exact atA
        (rfl)
      simp only [gst];rw [hx]
      cases hg : good w c P (fun k x => still w c P T a (N - k) k x) (k + 1) T with
      | none => rfl
      | some z =>
        unfold good at hg;have:=List.find?_some hg;simp only [decide_eq_true_eq] at this;exact ((still_at hT _ _ _ (by omega)).1 this.1).1
theorem plan_both (hT : Fr c T) (N : Nat) : planI w c P S T N = planS w c P S T N:=by
  unfold planI planS
  split
  (rfl)
  · rename_i hS
    (have hS' : ∀ p ∈ P,¬ PA p 0 = S:=fun p hp e => hS ⟨p,hp,e⟩)
    have h1 : (List.range (N + 1)).find? (fun a => decide (still w c P T a N 0 S)) = (List.range (N + 1)).find? (fun e => decide (Stay P T N e ∧ reach w c P T e 0 S)):=by
      refine find_congr _ _ _ (fun a ha => ?_);rw [decide_eq_decide];exact still_iff hT (by have:=List.mem_range.1 ha;omega) hS'
    rw [h1]
    cases hf : (List.range (N + 1)).find? (fun e => decide (Stay P T N e ∧ reach w c P T e 0 S)) with
    | none => rfl
    | some a =>
      have h2:=List.find?_some hf;simp only [decide_eq_true_eq] at h2;have h3:=List.mem_range.1 (List.mem_of_find?_eq_some hf);simp only [Option.map_some]
      congr 1
      refine List.map_congr_left (fun k hk => ?_);exact gst_eq hT (by omega) h2.1 h2.2 k (by have:=List.mem_range.1 hk;omega)
end
end Go.Proofs.Ytcldlljnaijmhaa.Pure
/-
Own text,by hand: what (Cells).plan comes to.
-/
namespace Go.Proofs.Ytcldlljnaijmhaa.Pr
open Go.RowKit Go.Proofs.YtcldlljnaijmhaaW.PrintWords Go.Proofs.YtcldlljnaijmhaaW.PrintLast
/-- The paths ahead, all as long as the plan. -/
def planOk (a0_0 : Int) (l0_1 : List Int) (a1_0 : Int) (a1_1 : Int) (a2 : Int) (l3 : List (List Int)) : Prop:=
  Pure.Cl a0_0 l0_1 ∧ Pure.Fr l0_1 a1_0 ∧ Pure.Fr l0_1 a1_1 ∧ 0 ≤ a2 ∧ a2 ≤ 20 ∧ l3.length ≤ 5 ∧ ∀ p ∈ l3,p.length = a2.toNat + 1
open Classical in
noncomputable def impl_Cells_plan.f (a0_0 : Int) (l0_1 : List Int) (a1_0 : Int) (a1_1 : Int) (a2 : Int) (l3 : List (List Int)) : Option (List Int × Bool):=
  if planOk a0_0 l0_1 a1_0 a1_1 a2 l3 then some ((Pure.planI a0_0 l0_1 l3 a1_0 a1_1 a2.toNat).getD [],(Pure.planI a0_0 l0_1 l3 a1_0 a1_1 a2.toNat).isSome) else none
end Go.Proofs.Ytcldlljnaijmhaa.Pr
namespace Go.Proofs.Ytcldlljnaijmhaa.Pr
open Go.RowKit Go.Proofs.YtcldlljnaijmhaaW.PrintWords Go.Proofs.YtcldlljnaijmhaaW.PrintLast Go.Proofs.YtcldlljnaijmhaaW.PrintMore
attribute [local go_sem] max2_int min2_int max_two min_two max_three min_three max_four min_four
set_option linter.unusedVariables false
set_option linter.unusedSimpArgs false

/-! ### impl_PlanCrowd: function 39 -/
mutual
noncomputable def impl_PlanCrowd.j0 : Nat → List (S49) → Int → Bool → Int → List Int → Option ((List (List Int)) × Bool)
  | 0,_,_,_,_,_ => none
  | k + 1,x1,x2,x24,x500000,x500001 => if x24 = true then (some (([] : List (List Int)),false)) else (impl_PlanCrowd.l0 k x2 ([] : List (List Int)) x1 (x1.length : Int) 0 x500000 x500001)
noncomputable def impl_PlanCrowd.l0 : Nat → Int → List (List Int) → List (S49) → Int → Int → Int → List Int → Option ((List (List Int)) × Bool)
  | 0,_,_,_,_,_,_,_ => none
  | k + 1,x2,x8,x25,x26,x27,x500000,x500001 => if x27 < x26 then (if 0 ≤ x27 then (if x27 < (x25.length : Int) then ((impl_Cells_plan.f x500000 x500001 ((rd_T49 x25 x27).f0) ((rd_T49 x25 x27).f1) x2 x8).bind fun bt503 => (if bt503.2 = true then (if x8.length < 5864062014805 then (impl_PlanCrowd.l0 k x2 (x8 ++ [bt503.1]) x25 x26 (wrap64 (x27 + 1)) x500000 x500001) else (none)) else (some (([] : List (List Int)),false)))) else (none)) else (none)) else (some (x8,true))
end
noncomputable def impl_PlanCrowd.f (k : Nat) (a0_0 : Int) (l0_1 : List Int) (l1 : List (S49)) (a2 : Int) : Option ((List (List Int)) × Bool):=(impl_GoodTrips.f k a0_0 l0_1 l1).bind fun t500 => (if t500 = true then (if a2 < 0 then (impl_PlanCrowd.j0 k l1 a2 true a0_0 l0_1) else (impl_PlanCrowd.j0 k l1 a2 (decide (a2 > 20)) a0_0 l0_1)) else (impl_PlanCrowd.j0 k l1 a2 true a0_0 l0_1))
/-! ### laws_markIntS: function 16 -/
/-! ### laws_markCells: function 40 -/
/-! ### laws_markTripS: function 41 -/
/-! ### laws_heldIntS: function 17 -/
/-! ### laws_heldIntSS: function 43 -/
/-! ### impl_WaitRing: function 14 -/
/-- A state of type 89 at block g of W; what its slices lead to came in by w0. -/
def IsS89 (w0 W : World) (g : Nat) (f0 : List Int) (f1 : Int) (f2 : Int) : Prop:=∃ A0 c0,W.heap[g]? = some (.cells #[.slice A0 f0.length c0,.int .i64 f1,.int .u64 f2] 89 (0,0)) ∧ w0.heap.size ≤ g ∧ Kd.C (Kd.int .u8) w0 A0 f0.length f0
theorem IsS89.grown {w0 W : World} {g : Nat} {f0 : List Int} {f1 : Int} {f2 : Int} {W1 : World} {row : Option Nat} (h : IsS89 w0 W g f0 f1 f2) (hw : W.grownBy W1 row) (hne : some g ≠ row) : IsS89 w0 W1 g f0 f1 f2:=by
  obtain ⟨A0,c0,hb,hg,hr0⟩:=h;exact ⟨A0,c0,blk_grown hb hw hne,hg,hr0⟩
theorem IsS89.kept {w0 W : World} {g : Nat} {f0 : List Int} {f1 : Int} {f2 : Int} {W1 : World} {S : Nat → Prop} (h : IsS89 w0 W g f0 f1 f2) (hk : Kept W W1 S) (hne : ¬ S g) : IsS89 w0 W1 g f0 f1 f2:=by
  obtain ⟨A0,c0,hb,hg,hr0⟩:=h;exact ⟨A0,c0,blk_kept hb hk hne,hg,hr0⟩
theorem IsS89.below {w0 W : World} {g : Nat} {f0 : List Int} {f1 : Int} {f2 : Int} {W1 : World} (h : IsS89 w0 W g f0 f1 f2) (hw : Below W.heap.size W W1) : IsS89 w0 W1 g f0 f1 f2:=h.grown (grown_of_below hw none) (by simp)
theorem IsS89.alloc {w0 W : World} {g : Nat} {f0 : List Int} {f1 : Int} {f2 : Int} (h : IsS89 w0 W g f0 f1 f2) (o : Obj) : IsS89 w0 (W.alloc o) g f0 f1 f2:=h.below (below_alloc (Below.refl _ _) o)
theorem IsS89.drewN {w0 W : World} {g : Nat} {f0 : List Int} {f1 : Int} {f2 : Int} (h : IsS89 w0 W g f0 f1 f2) (m : Nat) : IsS89 w0 (W.drewN m) g f0 f1 f2:=h
theorem IsS89.drew {w0 W : World} {g : Nat} {f0 : List Int} {f1 : Int} {f2 : Int} (h : IsS89 w0 W g f0 f1 f2) : IsS89 w0 W.drew g f0 f1 f2:=h
theorem IsS89.at_ {w0 W : World} {g : Nat} {f0 : List Int} {f1 : Int} {f2 : Int} {w' : World} {m : Nat} (hq : W.drewN m = w') (h : IsS89 w0 W g f0 f1 f2) : IsS89 w0 w' g f0 f1 f2:=by subst hq;exact IsS89.drewN h m
theorem IsS89.apart {w0 W : World} {g : Nat} {f0 : List Int} {f1 : Int} {f2 : Int} {α : Type} {d : Kd α} {e : Nat} {base : Nat} {ok : Nat → Prop} {v : Value} {xs : List α} (h : IsS89 w0 W g f0 f1 f2) (ho : d.R e W base ok v xs) (ht : ∀ q,q ∈ e :: d.E → q ≠ 89) : d.R e W base (fun k => ok k ∧ k ≠ g) v xs:=by
  obtain ⟨A0,c0,hb,hg,hr0⟩:=h;exact Kd.R_types ho hb ht
theorem IsS89.own_ne {w0 W : World} {g : Nat} {f0 : List Int} {f1 : Int} {f2 : Int} {α : Type} {d : Kd α} {e : Nat} {base : Nat} {ok : Nat → Prop} {v : Value} {xs : List α} (h : IsS89 w0 W g f0 f1 f2) (ho : d.R e W base ok v xs) (ht : e ≠ 89) : some g ≠ v.ownBlock:=by
  obtain ⟨A0,c0,hb,hg,hr0⟩:=h;exact Kd.R_ne ho hb ht
theorem IsS89.lt {w0 W : World} {g : Nat} {f0 : List Int} {f1 : Int} {f2 : Int} (h : IsS89 w0 W g f0 f1 f2) : g < W.heap.size:=by
  obtain ⟨A0,c0,hb,hg,hr0⟩:=h;exact blk_lt hb
theorem IsS89.ge {w0 W : World} {g : Nat} {f0 : List Int} {f1 : Int} {f2 : Int} (h : IsS89 w0 W g f0 f1 f2) : w0.heap.size ≤ g:=by
  obtain ⟨A0,c0,hb,hg,hr0⟩:=h;exact hg
theorem IsS89.far {w0 W : World} {g : Nat} {f0 : List Int} {f1 : Int} {f2 : Int} {p : Addr} (h : IsS89 w0 W g f0 f1 f2) (hne : g ≠ p.block) (u : Value) : IsS89 w0 (W.setCell p u) g f0 f1 f2:=by
  obtain ⟨A0,c0,hb,hg,hr0⟩:=h;exact ⟨A0,c0,blk_far hb hne u,hg,hr0⟩
theorem cellS89_0 {W : World} {g : Nat} {A0 : Option Addr} {c0 : Nat} {f0 : List Int} {f1 : Int} {f2 : Int} (h : W.heap[g]? = some (.cells #[.slice A0 f0.length c0,.int .i64 f1,.int .u64 f2] 89 (0,0))) : W.cell? ⟨g,0,none⟩ = some (.slice A0 f0.length c0):=(blk_cell h 0).trans rfl
theorem cellS89_1 {W : World} {g : Nat} {A0 : Option Addr} {c0 : Nat} {f0 : List Int} {f1 : Int} {f2 : Int} (h : W.heap[g]? = some (.cells #[.slice A0 f0.length c0,.int .i64 f1,.int .u64 f2] 89 (0,0))) : W.cell? ⟨g,1,none⟩ = some (.int .i64 f1):=(blk_cell h 1).trans rfl
theorem IsS89.set_1 {w0 W : World} {g : Nat} {f0 : List Int} {f1 : Int} {f2 : Int} (h : IsS89 w0 W g f0 f1 f2) (x : Int) : IsS89 w0 (W.setCell ⟨g,1,none⟩ (.int .i64 x)) g f0 x f2:=by
  obtain ⟨A0,c0,hb,hg,hr0⟩:=h;exact ⟨A0,c0,by simpa using blk_set hb 1 (.int .i64 x),hg,hr0⟩
theorem cellS89_2 {W : World} {g : Nat} {A0 : Option Addr} {c0 : Nat} {f0 : List Int} {f1 : Int} {f2 : Int} (h : W.heap[g]? = some (.cells #[.slice A0 f0.length c0,.int .i64 f1,.int .u64 f2] 89 (0,0))) : W.cell? ⟨g,2,none⟩ = some (.int .u64 f2):=(blk_cell h 2).trans rfl
theorem IsS89.set_2 {w0 W : World} {g : Nat} {f0 : List Int} {f1 : Int} {f2 : Int} (h : IsS89 w0 W g f0 f1 f2) (x : Int) : IsS89 w0 (W.setCell ⟨g,2,none⟩ (.int .u64 x)) g f0 f1 x:=by
  obtain ⟨A0,c0,hb,hg,hr0⟩:=h;exact ⟨A0,c0,by simpa using blk_set hb 2 (.int .u64 x),hg,hr0⟩
theorem is_ {w0 W : World} {g : Nat} {f0 : List Int} {f1 : Int} {f2 : Int} (h : IsS89 w0 W g f0 f1 f2 := by repeat (first | (with_reducible first | exact HI0.out | apply IsS89.alloc | apply IsS89.drewN | apply IsS89.drew | apply IsS89.set_1 | apply IsS89.set_2 | refine IsS89.far ?_ (Aside0.out (by assumption)) _) | exact HI0.out)) : IsS89 w0 W g f0 f1 f2 := h
theorem be_ {w W : World} {n : Nat} (h : Below n w W := by repeat (first | (with_reducible first | exact HB.out | apply below_alloc | apply pw_below_drewN | apply below_drew1 | refine below_set ?_ (IsS89.ge HI0.out) | refine below_set ?_ (Aside0.out (by assumption)) | refine below_set ?_ (Nat.le_trans HL.out (Aside0.out (by assumption))) | refine below_set ?_ (IsS89.ge (Aside0.out (by assumption)))) | exact HB.out)) : Below n w W := h
theorem ke_ {w W : World} {g : Nat} {r : Option Nat} (h : KeepBut w W g r := by repeat (first | (with_reducible first | exact HK.out | apply KeepBut.set_ | apply keep_drewN | apply keep_drew | apply keep_alloc | refine keep_far ?_ (Aside0.out (by assumption)) _) | exact HK.out)) : KeepBut w W g r := h
theorem IsS89.new (w0 W : World) (A0 : Option Addr) (c0 : Nat) (f0 : List Int) (f1 : Int) (f2 : Int) (hB : Below w0.heap.size w0 W) (hr0 : Kd.C (Kd.int .u8) w0 A0 f0.length f0) : IsS89 w0 (W.alloc (.cells #[.slice A0 f0.length c0,.int .i64 f1,.int .u64 f2] 89)) W.heap.size f0 f1 f2:=⟨A0,c0,by simpa using heap_alloc_new W _,hB.size,hr0⟩

/-! ### spec_l1Cur_next: function 74 -/
def spec_l1Cur_next.f (s0_0 : List Int) (s0_1 : Int) (s0_2 : Int) : Option (Int × Int × Int):=if s0_1 < (s0_0.length : Int) then (if 0 ≤ s0_1 then (if (wrap64 (s0_1 + 1)) ≤ (s0_0.length : Int) then (some (wrap64 (rd s0_0 s0_1),wrap64 (s0_1 + 1),IntKind.u64.wrap ((IntKind.u64.wrap ((IntKind.u64.wrap (s0_2 * 6364136223846793005)) + (IntKind.u64.wrap (wrap64 (rd s0_0 s0_1))))) + 1442695040888963407))) else (some (wrap64 (Go.bits .and .u64 ((IntKind.u64.wrap ((IntKind.u64.wrap ((IntKind.u64.wrap (s0_2 * 6364136223846793005)) + (IntKind.u64.wrap (wrap64 (rd s0_0 s0_1))))) + 1442695040888963407)) / 1099511627776) 255),wrap64 (s0_1 + 1),IntKind.u64.wrap ((IntKind.u64.wrap ((IntKind.u64.wrap (s0_2 * 6364136223846793005)) + (IntKind.u64.wrap (wrap64 (rd s0_0 s0_1))))) + 1442695040888963407)))) else (none)) else (if (wrap64 (s0_1 + 1)) ≤ (s0_0.length : Int) then (some (0,wrap64 (s0_1 + 1),IntKind.u64.wrap ((IntKind.u64.wrap ((IntKind.u64.wrap (s0_2 * 6364136223846793005)) + 0)) + 1442695040888963407))) else (some (wrap64 (Go.bits .and .u64 ((IntKind.u64.wrap ((IntKind.u64.wrap ((IntKind.u64.wrap (s0_2 * 6364136223846793005)) + 0)) + 1442695040888963407)) / 1099511627776) 255),wrap64 (s0_1 + 1),IntKind.u64.wrap ((IntKind.u64.wrap ((IntKind.u64.wrap (s0_2 * 6364136223846793005)) + 0)) + 1442695040888963407))))

/-! ### spec_l1Cur_pick: function 63 -/
def spec_l1Cur_pick.f (s0_0 : List Int) (s0_1 : Int) (s0_2 : Int) (a1 : Int) : Option (Int × Int × Int):=if a1 ≤ 1 then (some (0,s0_1,s0_2)) else ((spec_l1Cur_next.f s0_0 s0_1 s0_2).bind fun bt574 => (if a1 > 200 then ((spec_l1Cur_next.f s0_0 bt574.2.1 bt574.2.2).bind fun bt577 => (if a1 = 0 then (none) else (some (Int.tmod (wrap64 ((wrap64 (bt574.1 * 256)) + bt577.1)) a1,bt577.2.1,bt577.2.2)))) else (if a1 = 0 then (none) else (some (Int.tmod bt574.1 a1,bt574.2.1,bt574.2.2)))))

/-! ### spec_l1Cur_one: function 64 -/
def spec_l1Cur_one.f (s0_0 : List Int) (s0_1 : Int) (s0_2 : Int) (a1 : Int) : Option (Bool × Int × Int):=(spec_l1Cur_pick.f s0_0 s0_1 s0_2 a1).bind fun bt580 => (some ((bt580.1 == 0),bt580.2.1,bt580.2.2))

/-! ### spec_l1Cur_among: function 65 -/
def spec_l1Cur_among.f (s0_0 : List Int) (s0_1 : Int) (s0_2 : Int) (l1 : List Int) : Option (Int × Int × Int):=(spec_l1Cur_pick.f s0_0 s0_1 s0_2 (l1.length : Int)).bind fun bt583 => (if 0 ≤ bt583.1 then (if bt583.1 < (l1.length : Int) then (some (rd l1 bt583.1,bt583.2.1,bt583.2.2)) else (none)) else (none))

/-! ### spec_l1Cur_extent: function 78 -/
def spec_l1Cur_extent.f (s0_0 : List Int) (s0_1 : Int) (s0_2 : Int) : Option (Int × Int × Int × Int):=(spec_l1Cur_one.f s0_0 s0_1 s0_2 12).bind fun bt587 => (if bt587.1 = true then ((spec_l1Cur_among.f s0_0 bt587.2.1 bt587.2.2 (([16,1,17,0] : List Int))).bind fun bt593 => ((spec_l1Cur_among.f s0_0 bt593.2.1 bt593.2.2 (([16,1,0,17] : List Int))).bind fun bt599 => (some (bt593.1,bt599.1,bt599.2.1,bt599.2.2)))) else ((spec_l1Cur_pick.f s0_0 bt587.2.1 bt587.2.2 6).bind fun bt602 => ((spec_l1Cur_pick.f s0_0 bt602.2.1 bt602.2.2 6).bind fun bt605 => (some (wrap64 (1 + bt602.1),wrap64 (1 + bt605.1),bt605.2.1,bt605.2.2)))))

/-! ### spec_l1Cur_cells: function 73 -/
mutual
def spec_l1Cur_cells.l0 : Nat → Int → Int → Int → Int → List Int → Int → Int → Int → List Int → Option (Int × List Int × Int × Int)
  | 0,_,_,_,_,_,_,_,_,_ => none
  | k + 1,x3,x4,x6,x7,x1000,x1001,x1002,x614000,x614001 => if x7 < (wrap64 (x3 * x4)) then ((spec_l1Cur_pick.f x1000 x1001 x1002 10).bind fun bt617 => (if bt617.1 < x6 then ((spec_l1Cur_one.f x1000 bt617.2.1 bt617.2.2 20).bind fun bt620 => (if bt620.1 = true then (if x614001.length < 17592186044416 then (spec_l1Cur_cells.l0 k x3 x4 x6 (wrap64 (x7 + 1)) x1000 bt620.2.1 bt620.2.2 x614000 (x614001 ++ [2])) else (none)) else (if x614001.length < 17592186044416 then (spec_l1Cur_cells.l0 k x3 x4 x6 (wrap64 (x7 + 1)) x1000 bt620.2.1 bt620.2.2 x614000 (x614001 ++ [1])) else (none)))) else ((spec_l1Cur_one.f x1000 bt617.2.1 bt617.2.2 20).bind fun bt629 => (if bt629.1 = true then (if x614001.length < 17592186044416 then (spec_l1Cur_cells.l0 k x3 x4 x6 (wrap64 (x7 + 1)) x1000 bt629.2.1 bt629.2.2 x614000 (x614001 ++ [2])) else (none)) else (if x614001.length < 17592186044416 then (spec_l1Cur_cells.l0 k x3 x4 x6 (wrap64 (x7 + 1)) x1000 bt629.2.1 bt629.2.2 x614000 (x614001 ++ [0])) else (none)))))) else ((spec_l1Cur_one.f x1000 x1001 x1002 24).bind fun bt638 => (if bt638.1 = true then (spec_l1Cur_cells.j1 k (decide ((x614001.length : Int) > 0)) x1000 bt638.2.1 bt638.2.2 x614000 x614001) else (spec_l1Cur_cells.j1 k false x1000 bt638.2.1 bt638.2.2 x614000 x614001)))
def spec_l1Cur_cells.j1 : Nat → Bool → List Int → Int → Int → Int → List Int → Option (Int × List Int × Int × Int)
  | 0,_,_,_,_,_,_ => none
  | k + 1,x44,x1000,x1001,x1002,x614000,x614001 => if x44 = true then ((spec_l1Cur_among.f x1000 x1001 x1002 (([(-1),3] : List Int))).bind fun bt644 => (if 0 < (x614001.length : Int) then ((some (x614001.set (0 : Int).toNat bt644.1 : List Int)).bind fun y647 => ((spec_l1Cur_one.f x1000 bt644.2.1 bt644.2.2 30).bind fun bt648 => (if bt648.1 = true then (if y647.length < 17592186044416 then (some (x614000,(y647 ++ [0]),bt648.2.1,bt648.2.2)) else (none)) else (some (x614000,y647,bt648.2.1,bt648.2.2))))) else (none))) else ((spec_l1Cur_one.f x1000 x1001 x1002 30).bind fun bt654 => (if bt654.1 = true then (if x614001.length < 17592186044416 then (some (x614000,(x614001 ++ [0]),bt654.2.1,bt654.2.2)) else (none)) else (some (x614000,x614001,bt654.2.1,bt654.2.2))))
end
def spec_l1Cur_cells.f (k : Nat) (s0_0 : List Int) (s0_1 : Int) (s0_2 : Int) : Option (Int × List Int × Int × Int):=(spec_l1Cur_extent.f s0_0 s0_1 s0_2).bind fun bt609 => ((spec_l1Cur_pick.f s0_0 bt609.2.2.1 bt609.2.2.2 5).bind fun bt614 => (spec_l1Cur_cells.l0 k bt609.1 bt609.2.1 bt614.1 0 s0_0 bt614.2.1 bt614.2.2 bt609.1 ([] : List Int)))
/-! ### spec_l1Cur_yard: function 62 -/
def spec_l1Cur_yard.l0 : Nat → Int → Int → List Int → Int → Int → Int → List Int → Option (Int × List Int × Int × Int)
  | 0,_,_,_,_,_,_,_ => none
  | k + 1,x4,x5,x1000,x1001,x1002,x674000,x674001 => if x5 < (wrap64 (x674000 * x4)) then ((spec_l1Cur_one.f x1000 x1001 x1002 6).bind fun bt677 => (if bt677.1 = true then (if x674001.length < 17592186044416 then (spec_l1Cur_yard.l0 k x4 (wrap64 (x5 + 1)) x1000 bt677.2.1 bt677.2.2 x674000 (x674001 ++ [1])) else (none)) else (if x674001.length < 17592186044416 then (spec_l1Cur_yard.l0 k x4 (wrap64 (x5 + 1)) x1000 bt677.2.1 bt677.2.2 x674000 (x674001 ++ [0])) else (none)))) else (some (x674000,x674001,x1001,x1002))
def spec_l1Cur_yard.f (k : Nat) (s0_0 : List Int) (s0_1 : Int) (s0_2 : Int) : Option (Int × List Int × Int × Int):=(spec_l1Cur_one.f s0_0 s0_1 s0_2 20).bind fun bt661 => (if bt661.1 = true then ((spec_l1Cur_cells.f k s0_0 bt661.2.1 bt661.2.2).bind fun bt664 => (some (bt664.1,bt664.2.1,bt664.2.2.1,bt664.2.2.2))) else ((spec_l1Cur_pick.f s0_0 bt661.2.1 bt661.2.2 4).bind fun bt670 => ((spec_l1Cur_pick.f s0_0 bt670.2.1 bt670.2.2 4).bind fun bt674 => (spec_l1Cur_yard.l0 k (wrap64 (1 + bt674.1)) 0 s0_0 bt674.2.1 bt674.2.2 (wrap64 (2 + bt670.1)) ([] : List Int)))))
/-! ### spec_AllPlaces: function 75 -/
def spec_AllPlaces.l0 : Nat → List Int → Int → Int → Int → List Int → Option (List Int)
  | 0,_,_,_,_,_ => none
  | k + 1,x3,x10,x11,x687000,x687001 => if x11 < x10 then (if 0 ≤ x11 then (if x11 < (x687001.length : Int) then (if (rd x687001 x11) = 0 then (if x3.length < 17592186044416 then (spec_AllPlaces.l0 k (x3 ++ [x11]) x10 (wrap64 (x11 + 1)) x687000 x687001) else (none)) else (spec_AllPlaces.l0 k x3 x10 (wrap64 (x11 + 1)) x687000 x687001)) else (none)) else (none)) else (some x3)
def spec_AllPlaces.f (k : Nat) (a0_0 : Int) (l0_1 : List Int) : Option (List Int):=(spec_GoodCells.f k a0_0 l0_1).bind fun t687 => (if t687 = true then (spec_AllPlaces.l0 k ([] : List Int) (l0_1.length : Int) 0 a0_0 l0_1) else (some ([] : List Int)))
/-! ### spec_l1Cur_trips: function 66 -/
mutual
def spec_l1Cur_trips.j0 : Nat → List Int → List (S49) → Int → List Int → Int → Int → Option ((List (S49)) × Int × Int)
  | 0,_,_,_,_,_,_ => none
  | k + 1,x5,x6,x7,x1000,x1001,x1002 => spec_l1Cur_trips.l0 k x5 x6 x7 x1000 x1001 x1002
def spec_l1Cur_trips.l0 : Nat → List Int → List (S49) → Int → List Int → Int → Int → Option ((List (S49)) × Int × Int)
  | 0,_,_,_,_,_,_ => none
  | k + 1,x5,x6,x7,x1000,x1001,x1002 => if x7 > 0 then (spec_l1Cur_trips.j2 k x5 x6 x7 (decide ((x5.length : Int) > 0)) x1000 x1001 x1002) else (spec_l1Cur_trips.j2 k x5 x6 x7 false x1000 x1001 x1002)
def spec_l1Cur_trips.j2 : Nat → List Int → List (S49) → Int → Bool → List Int → Int → Int → Option ((List (S49)) × Int × Int)
  | 0,_,_,_,_,_,_,_ => none
  | k + 1,x5,x6,x7,x27,x1000,x1001,x1002 => if x27 = true then ((spec_l1Cur_pick.f x1000 x1001 x1002 (x5.length : Int)).bind fun bt705 => (if 0 ≤ bt705.1 then (if bt705.1 < (x5.length : Int) then ((spec_l1Cur_pick.f x1000 bt705.2.1 bt705.2.2 (x5.length : Int)).bind fun bt709 => (if 0 ≤ bt709.1 then (if bt709.1 < (x5.length : Int) then (spec_l1Cur_trips.l1 k x5 x6 x7 false x6 (x6.length : Int) 0 x1000 bt709.2.1 bt709.2.2 (rd x5 bt705.1) (rd x5 bt709.1)) else (none)) else (none))) else (none)) else (none))) else (some (x6,x1001,x1002))
def spec_l1Cur_trips.l1 : Nat → List Int → List (S49) → Int → Bool → List (S49) → Int → Int → List Int → Int → Int → Int → Int → Option ((List (S49)) × Int × Int)
  | 0,_,_,_,_,_,_,_,_,_,_,_,_ => none
  | k + 1,x5,x6,x7,x9,x45,x46,x47,x1000,x1001,x1002,x714000,x714001 => if x47 < x46 then (if 0 ≤ x47 then (if x47 < (x45.length : Int) then (if x9 = true then (spec_l1Cur_trips.l1 k x5 x6 x7 true x45 x46 (wrap64 (x47 + 1)) x1000 x1001 x1002 x714000 x714001) else (if ((rd_T49 x45 x47).f0) = x714000 then (spec_l1Cur_trips.l1 k x5 x6 x7 true x45 x46 (wrap64 (x47 + 1)) x1000 x1001 x1002 x714000 x714001) else (spec_l1Cur_trips.l1 k x5 x6 x7 (((rd_T49 x45 x47).f1) == x714001) x45 x46 (wrap64 (x47 + 1)) x1000 x1001 x1002 x714000 x714001))) else (none)) else (none)) else (if x9 = true then ((spec_l1Cur_one.f x1000 x1001 x1002 24).bind fun bt716 => (if bt716.1 = true then (if x6.length < 8796093022208 then (spec_l1Cur_trips.l0 k x5 (x6 ++ [(⟨x714000,x714001⟩ : S49)]) (wrap64 (x7 - 1)) x1000 bt716.2.1 bt716.2.2) else (none)) else (spec_l1Cur_trips.l0 k x5 x6 (wrap64 (x7 - 1)) x1000 bt716.2.1 bt716.2.2))) else (if x6.length < 8796093022208 then (spec_l1Cur_trips.l0 k x5 (x6 ++ [(⟨x714000,x714001⟩ : S49)]) (wrap64 (x7 - 1)) x1000 x1001 x1002) else (none)))
end
def spec_l1Cur_trips.f (k : Nat) (s0_0 : List Int) (s0_1 : Int) (s0_2 : Int) (a1_0 : Int) (l1_1 : List Int) : Option ((List (S49)) × Int × Int):=(spec_AllPlaces.f k a1_0 l1_1).bind fun t693 => ((spec_l1Cur_pick.f s0_0 s0_1 s0_2 3).bind fun bt696 => ((spec_l1Cur_one.f s0_0 bt696.2.1 bt696.2.2 12).bind fun bt699 => (if bt699.1 = true then ((spec_l1Cur_pick.f s0_0 bt699.2.1 bt699.2.2 7).bind fun bt702 => (spec_l1Cur_trips.j0 k t693 ([] : List (S49)) bt702.1 s0_0 bt702.2.1 bt702.2.2)) else (spec_l1Cur_trips.j0 k t693 ([] : List (S49)) (wrap64 (1 + bt696.1)) s0_0 bt699.2.1 bt699.2.2))))
/-! ### spec_DrawPlanCrowd: function 44 -/
def spec_DrawPlanCrowd.f (k : Nat) (l0 : List Int) : Option (Int × List Int × (List (S49)) × Int):=(spec_l1Cur_yard.f k l0 0 0).bind fun bt727 => ((spec_l1Cur_pick.f l0 bt727.2.2.1 bt727.2.2.2 9).bind fun bt734 => ((spec_l1Cur_one.f l0 bt734.2.1 bt734.2.2 12).bind fun bt737 => (if bt737.1 = true then ((spec_l1Cur_among.f l0 bt737.2.1 bt737.2.2 (([(-1),0,1,20,21] : List Int))).bind fun bt743 => ((spec_l1Cur_trips.f k l0 bt743.2.1 bt743.2.2 bt727.1 bt727.2.1).bind fun bt746 => (some (bt727.1,bt727.2.1,bt746.1,bt743.1)))) else ((spec_l1Cur_trips.f k l0 bt737.2.1 bt737.2.2 bt727.1 bt727.2.1).bind fun bt751 => (some (bt727.1,bt727.2.1,bt751.1,wrap64 (4 + bt734.1)))))))
/-! ### spec_DrawWaitRing: function 45 -/
/-! ### laws_zBack: function 46 -/
/-! ### laws_zIn: function 47 -/
/-! ### laws_zRising: function 48 -/
/-! ### laws_FnMeets: function 10 -/
/-! ### spec_ThereAtLast: function 49 -/
def spec_ThereAtLast.l0 : Nat → List Int → Int → Option (Int)
  | 0,_,_ => none
  | k + 1,x0,x3 => if x3 > 0 then (if 0 ≤ (wrap64 (x3 - 1)) then (if (wrap64 (x3 - 1)) < (x0.length : Int) then (if 0 ≤ x3 then (if x3 < (x0.length : Int) then (if (rd x0 (wrap64 (x3 - 1))) = (rd x0 x3) then (spec_ThereAtLast.l0 k x0 (wrap64 (x3 - 1))) else (some x3)) else (none)) else (none)) else (none)) else (none)) else (some x3)
def spec_ThereAtLast.f (k : Nat) (l0 : List Int) : Option (Int):=spec_ThereAtLast.l0 k l0 (wrap64 ((l0.length : Int) - 1))
/-! ### laws_FnCrowd: function 11 -/
mutual
noncomputable def laws_FnCrowd.j0 : Nat → List (S49) → List (List Int) → Bool → Int → List Int → Option (Bool)
  | 0,_,_,_,_,_ => none
  | k + 1,x4,x6,x53,x818000,x818001 => if x53 = true then (some false) else (laws_FnCrowd.l0 k x4 x6 x4 (x4.length : Int) 0 x818000 x818001)
noncomputable def laws_FnCrowd.l0 : Nat → List (S49) → List (List Int) → List (S49) → Int → Int → Int → List Int → Option (Bool)
  | 0,_,_,_,_,_,_,_ => none
  | k + 1,x4,x6,x54,x55,x56,x818000,x818001 => if x56 < x55 then (if 0 ≤ x56 then (if x56 < (x54.length : Int) then ((impl_AloneTicks.f x818000 x818001 ((rd_T49 x54 x56).f0) ((rd_T49 x54 x56).f1)).bind fun t830 => (if t830 < 0 then (some false) else (if x56 < (x6.length : Int) then ((spec_ThereAtLast.f k (rd_L1 x6 x56)).bind fun t832 => (if t830 > t832 then (some false) else (laws_FnCrowd.l0 k x4 x6 x54 x55 (wrap64 (x56 + 1)) x818000 x818001))) else (none)))) else (none)) else (none)) else (if (x4.length : Int) = 2 then (laws_FnCrowd.j2 k x4 x6 (decide ((x818001.length : Int) ≤ 36)) x818000 x818001) else (laws_FnCrowd.j2 k x4 x6 false x818000 x818001))
noncomputable def laws_FnCrowd.j2 : Nat → List (S49) → List (List Int) → Bool → Int → List Int → Option (Bool)
  | 0,_,_,_,_,_ => none
  | k + 1,x4,x6,x84,x818000,x818001 => if x84 = true then (if 0 < (x4.length : Int) then (if 1 < (x4.length : Int) then ((impl_JointTicks.f x818000 x818001 ((rd_T49 x4 0).f0) ((rd_T49 x4 0).f1) ((rd_T49 x4 1).f0) ((rd_T49 x4 1).f1)).bind fun t835 => (if t835 ≥ 0 then (if 0 < (x6.length : Int) then ((spec_ThereAtLast.f k (rd_L1 x6 0)).bind fun t837 => (if t835 ≤ t837 then (some true) else (if 1 < (x6.length : Int) then ((spec_ThereAtLast.f k (rd_L1 x6 1)).bind fun t839 => (some (decide (t835 ≤ t839)))) else (none)))) else (none)) else (some false))) else (none)) else (none)) else (some true)
end
noncomputable def laws_FnCrowd.f (k : Nat) (l0 : List Int) : Option (Bool):=if (l0.length : Int) > 1048576 then (some true) else ((spec_DrawPlanCrowd.f k l0).bind fun bt809 => ((impl_PlanCrowd.f k bt809.1 bt809.2.1 bt809.2.2.1 bt809.2.2.2).bind fun bt818 => ((spec_PlanCrowd.f k bt809.1 bt809.2.1 bt809.2.2.1 bt809.2.2.2).bind fun bt822 => (if (bt818.2 != bt822.2) = true then (some false) else (if bt818.2 = true then ((impl_GoodPaths.f k bt809.1 bt809.2.1 bt809.2.2.1 bt818.1).bind fun t826 => (if t826 = true then ((spec_GoodPaths.f k bt809.1 bt809.2.1 bt809.2.2.1 bt818.1).bind fun t827 => (laws_FnCrowd.j0 k bt809.2.2.1 bt818.1 (!t827) bt809.1 bt809.2.1)) else (laws_FnCrowd.j0 k bt809.2.2.1 bt818.1 true bt809.1 bt809.2.1))) else (some true))))))
end Go.Proofs.Ytcldlljnaijmhaa.Pr
namespace Go.Proofs.Ytcldlljnaijmhaa.Pr
open Go.RowKit Go.Proofs.YtcldlljnaijmhaaW.PrintWords Go.Proofs.YtcldlljnaijmhaaW.PrintLast Go.Proofs.YtcldlljnaijmhaaW.PrintMore
attribute [local go_sem] max2_int min2_int max_two min_two max_three min_three max_four min_four
set_option linter.unusedVariables false
set_option linter.unusedSimpArgs false

set_option maxHeartbeats 8000000 in
set_option maxRecDepth 100000 in
theorem impl_meets.calls (a0 : Int) (a1 : Int) (a2 : Int) (a3 : Int) (r : Bool) (w : World) (h : impl_meets.f a0 a1 a2 a3 = some r) :
   Calls Try.prog 59 #[.int .i64 a0,.int .i64 a1,.int .i64 a2,.int .i64 a3] w fun e w' => e = .returned (.bool r) ∧ Drawn0 w w':=by
  have H : (if a1 = a3 then (some true) else (if a0 = a3 then (some (a1 == a2)) else (some false))) = some r:=h;clear h;by_cases c5 : a1 = a3
  ·rw [if_pos c5] at H
   have z0 : (a1 == a3) = true:=beq_iff_eq.mpr c5;have z1 : (a1 != a3) = false:=bne_eq_false_iff_eq.mpr c5;clear c5
   obtain rfl:=Option.some.inj H
   go_enter Try.func59,Try.ntmps59;go_wp2;go_ret;exact ⟨es_,by repeat (first | exact Drawn0.refl _ | apply Drawn0.step)⟩
  ·rw [if_neg c5] at H
   have z0 : (a1 == a3) = false:=beq_eq_false_iff_ne.mpr c5;have z1 : (a1 != a3) = true:=bne_iff_ne.mpr c5;by_cases c6 : a0 = a3
   ·rw [if_pos c6] at H
    have z2 : (a0 == a3) = true:=beq_iff_eq.mpr c6;have z3 : (a0 != a3) = false:=bne_eq_false_iff_eq.mpr c6;clear c6
    obtain rfl:=Option.some.inj H
    go_enter Try.func59,Try.ntmps59;go_wp2;go_ret;exact ⟨es_,by repeat (first | exact Drawn0.refl _ | apply Drawn0.step)⟩
   ·rw [if_neg c6] at H
    have z2 : (a0 == a3) = false:=beq_eq_false_iff_ne.mpr c6;have z3 : (a0 != a3) = true:=bne_iff_ne.mpr c6
    obtain rfl:=Option.some.inj H
    go_enter Try.func59,Try.ntmps59;go_wp2;go_ret;exact ⟨es_,by repeat (first | exact Drawn0.refl _ | apply Drawn0.step)⟩

end Go.Proofs.Ytcldlljnaijmhaa.Pr
/-
Own text: maps at the operations: one that is made,one that is written;a queue's first element taken off.
-/
namespace Go.Proofs.Ytcldlljnaijmhaa.Mp
open Go.RowKit Go.Proofs.YtcldlljnaijmhaaW.PrintWords Go.Proofs.YtcldlljnaijmhaaW.PrintLast Go.Proofs.YtcldlljnaijmhaaW.PrintMore
open Go.MapKept Go.ChangeMaps
set_option linter.unusedVariables false

theorem kept_block {w : World} {b : Nat} {o' : Obj} : Kept w (setBlock w b o') (fun k => k = b):=
  ⟨by simp [setBlock],fun i hi hn => by simp [setBlock,Ne.symm hn]⟩
theorem below_block {B : Nat} {w W : World} {b : Nat} {o' : Obj} (h : Below B w W) (hb : B ≤ b) : Below B w (setBlock W b o'):=
  ⟨h.os,h.tape,h.output,by simpa [setBlock] using h.size,fun i hi => by rw [← h.block i hi];simp [setBlock,show ¬ b = i by omega]⟩
section
variable {P : Program} {ops : Array Oper} {rest : List Oper} {o : Oper} {a : Act} {Q : Exit → Act → World → Prop}
variable {α β : Type} {ek : α → Value} {ev : β → Value}
/-- make(map[K]V). -/
theorem make_event {W : World} (hgd : o.guard = none) {N : Tmp} (_hd : o.dst = some N) {t : TypeId} (ho : o.op = .makeMap t none) (ek : α → Value) (ev : β → Value)
    (h : ∀ g,g = W.heap.size → ∀ w1,w1.heap[g]? = some (mobj ek ev []) → Below W.heap.size W w1 → wpList P ops Q rest (a.put o.dst (.map (some g))) w1) : wpList P ops Q (o :: rest) a W:=by
  refine Kd.event_run (w1:=W.alloc (.map #[] 0)) (v:=.map (some W.heap.size)) hgd ?_ (h _ rfl _ (blk_new W _) (below_alloc (Below.refl _ _) _));unfold execOp;rw [ho]
  simp [Instr.makeMap,Result.andThen]
variable [DecidableEq α]
/-- m[x] = v. -/
theorem put_event {W : World} {w0 : World} {B : Nat} (hgd : o.guard = none) (hN : o.dst = none) {t kt e : TypeId} {m x v : Operand} (ho : o.op = .mapUpdate t m x v ∨ o.op = .insert t m x v) (K : Key P kt ek) (ht : P.underlying t = some (.map kt e))
    {g : Nat} {L : List (α × β)} (hb : W.heap[g]? = some (mobj ek ev L)) (key : α) (val : β) (hm : a.eval m = .map (some g)) (hx : a.eval x = ek key) (hv : a.eval v = ev val) (HB : Below B w0 W) (hBg : B ≤ g)
    (h : ∀ w1,w1.heap[g]? = some (mobj ek ev (put L key val)) → Kept W w1 (fun k => k = g) → Below B w0 w1 → wpList P ops Q rest a w1) : wpList P ops Q (o :: rest) a W:=by
  have hrun:=run_put K ht hb key val;(refine wpList_plain hgd fun K' hK' => ?_)
  have he : (execOp a.eval o).run P W = .ok .skip (setBlock W g (mobj ek ev (put L key val))):=by
    unfold execOp
    rcases ho with ho | ho <;> rw [ho] <;> simp [hm,hx,hv,hrun,Result.andThen]
  unfold Oper.wp;rw [he]
  show K' (a.put o.dst undef) _
  rw [hN];exact hK' _ _ (h _ (setBlock_at hb _) kept_block (below_block HB hBg))
end
/-- m[x] = v, in a region that draws its order. -/
theorem put_step {P : Program} {ops : Array Oper} {oi : Oper} {a : Act} {Q : Exit → Act → World → Prop} {Kc : Act → World → Prop} {α β : Type} [DecidableEq α] {ek : α → Value} {ev : β → Value} {W : World} (hw : Region.wanted oi (yielded ops a.tmps) = true) (hN : oi.dst = none) {t kt e : TypeId} {m x v : Operand} (ho : oi.op = .mapUpdate t m x v) (K : Key P kt ek) (ht : P.underlying t = some (.map kt e))
    {g : Nat} {L : List (α × β)} (hb : W.heap[g]? = some (mobj ek ev L)) (key : α) (val : β) (hm : a.eval m = .map (some g)) (hx : a.eval x = ek key) (hv : a.eval v = ev val)
    (h : Kc a (setBlock W g (mobj ek ev (put L key val)))) : if Region.wanted oi (yielded ops a.tmps) = true then Oper.wp P oi a W Kc Q else Kc (a.put none undef) W:=by
  have hrun:=run_put K ht hb key val
  have he : (execOp a.eval oi).run P W = .ok .skip (setBlock W g (mobj ek ev (put L key val))):=by
    unfold execOp;rw [ho]
    simp [hm,hx,hv,hrun,Result.andThen]
  exact skip_ hw hN he h
theorem gate_mapUpdate {P : Program} {ops : Array Oper} {rest : List Oper} {o : Oper} {a : Act} {Q : Exit → Act → World → Prop} {W : World} {t : TypeId} {m x v : Operand} (_ho : o.op = .mapUpdate t m x v) (h : wpList P ops Q (o :: rest) a W) : wpList P ops Q (o :: rest) a W:=h
theorem gate_insert {P : Program} {ops : Array Oper} {rest : List Oper} {o : Oper} {a : Act} {Q : Exit → Act → World → Prop} {W : World} {t : TypeId} {m x v : Operand} (_ho : o.op = .insert t m x v) (h : wpList P ops Q (o :: rest) a W) : wpList P ops Q (o :: rest) a W:=h
theorem cells_map {α β : Type} {ek : α → Value} {ev : β → Value} {L : List (α × β)} {w : World} {g gm t : Nat} {cs : Array Value} (h : w.heap[g]? = some (.cells cs t (0,0))) (hm : w.heap[gm]? = some (mobj ek ev L)) : ¬ g = gm:=fun e => by
  rw [e,hm] at h
  cases h
/-- q = q[1:]. -/
theorem Q_pop {P : Program} {α : Type} {d : Kd α} (t e : TypeId) (ht : P.underlying t = some (.slice e)) {z : Value} {bytes : Nat} (hinfo : (P.info? e).map (fun i => (i.zero,i.size,i.bytes)) = some (some z,d.sz,bytes))
    {w : World} {base : Nat} {ok : Nat → Prop} {A : Option Addr} {n c : Nat} {xs : List α} (h : d.Q e w base ok (.slice A n c) xs) (hn : 1 ≤ xs.length) :
    ∃ v,(∀ W : World,(Instr.slice t (.slice A n c) (some (.int .i64 1)) none none).run P W = .ok v W) ∧ d.Q e w base ok v (xs.drop 1):=by
  obtain ⟨i0,hi,hz0,hz1,hz2⟩:=info_parts hinfo;obtain ⟨hl,_,_⟩:=Kd.Q_reads' h;exact ⟨_,cut_from t e .i64 ht hi d.sz hz1 A n c 1 (by omega) (by omega),Kd.Q_drop (k:=1) h hn⟩
end Go.Proofs.Ytcldlljnaijmhaa.Mp
/-
Own text,by hand: the closure of (Cells).plan: may one go so?
-/
namespace Go.Proofs.Ytcldlljnaijmhaa.Pr
open Go.RowKit Go.Proofs.YtcldlljnaijmhaaW.PrintWords Go.Proofs.YtcldlljnaijmhaaW.PrintLast Go.Proofs.YtcldlljnaijmhaaW.PrintMore Go.Proofs.Ytcldlljnaijmhaa.Mp
set_option linter.unusedVariables false
set_option linter.unusedSimpArgs false

open Classical in
/-- The program's own test of a meeting. -/
theorem meets_hits (p : List Int) (k : Nat) (hk : 0 < k) (a b : Int) : impl_meets.f a b (Pure.PA p (k - 1)) (Pure.PA p k) = some (decide (Pure.Hits p k a b)):=by
  have hh : Pure.Hits p k a b ↔ (Pure.PA p k = b ∨ (0 < k ∧ Pure.PA p (k - 1) = b ∧ Pure.PA p k = a)):=Iff.rfl;unfold impl_meets.f;by_cases h1 : b = Pure.PA p k
  · rw [if_pos h1,decide_eq_true (hh.2 (.inl h1.symm))]
  · rw [if_neg h1]
    by_cases h2 : a = Pure.PA p k
    · rw [if_pos h2]
      by_cases h3 : b = Pure.PA p (k - 1)
      · rw [decide_eq_true (hh.2 (.inr ⟨hk,h3.symm,h2.symm⟩)),beq_iff_eq.2 h3]
      · rw [decide_eq_false (fun h => h3 ((hh.1 h).resolve_left (Ne.symm h1)).2.1.symm),beq_eq_false_iff_ne.2 h3]
    · rw [if_neg h2,decide_eq_false (fun h => h2 ((hh.1 h).resolve_left (Ne.symm h1)).2.2.symm)]
open Classical in
set_option maxHeartbeats 4000000 in
set_option maxRecDepth 100000 in
theorem may_calls (A3 : Option Addr) (c3 : Nat) (P : List (List Int)) (gA k N : Nat) (a b : Int) (rb : Bool) (w : World) (hbox : w.heap[gA]? = some (.cells #[.slice A3 P.length c3] 27 (0,0))) (hr3 : Kd.C (Kd.slice 3 (Kd.int .i64)) w A3 P.length P)
    (hLen : ∀ p ∈ P,p.length = N + 1) (hk0 : 0 < k) (hk : k ≤ N) (hN : N ≤ 1000) (hPn : P.length ≤ 5) (hrb : decide (Pure.May P k a b) = rb) :
    Calls Try.prog 72 #[.int .i64 k,.int .i64 a,.int .i64 b,.pointer (some ⟨gA,0,none⟩)] w fun e w' => e = .returned (.bool rb) ∧ Drawn0 w w':=by
  have zA : w.cell? ⟨gA,0,none⟩ = some (.slice A3 P.length c3):=(blk_cell hbox 0).trans rfl;have HR3:=Aside0.mk hr3;have HLn:=Aside0.mk hLen;have HRb:=Aside0.mk (show decide (Pure.May (P.drop 0) k a b) = rb from hrb);have hk1 : True:=trivial;obtain ⟨q,hq⟩ : ∃ q : Int,q = (k : Int) - 1:=⟨_,rfl⟩;(have hwk : IntKind.i64.wrap ((k : Int) - 1) = q:=by rw [IntWalk.i64_in _ (by omega),hq]);have HWk:=Aside0.mk hwk;have HQ:=Aside0.mk hq;have HPn:=Aside0.mk hPn;have HN:=Aside0.mk hN;have HK:=Aside0.mk hk;have HK0:=Aside0.mk hk0;clear hbox hr3 hLen hrb hPn hN hk hk0 hwk hq hk1;go_enter Try.func72,Try.ntmps72;go_wp2
  go_loopg [12] P.length (fun g v12 w' => ∃ i : Nat,v12 = .int .i64 i ∧ Aside0 (i + g = P.length) ∧ Aside0 (decide (Pure.May (P.drop i) k a b) = rb) ∧ Drawn0 w w')
  case atStart => exact ⟨0,rfl,⟨Nat.zero_add _⟩,HRb,Drawn0.refl _⟩
  case round =>
   clear HRb;obtain ⟨i,rfl,HI,HRb,⟨m,rfl⟩⟩:=hrel;by_cases ci : i < P.length
   ·have cib : decide ((i : Int) < (P.length : Int)) = true:=decide_eq_true (by omega)
    have cic : decide (i < P.length) = true:=decide_eq_true ci;have CI:=Aside0.mk ci;obtain ⟨ad,Ai,cI,e_,hx,hl_,hi_⟩:=at_L1 HR3.out (i : Int) (by omega) (by omega)
    cases e_
    rw [Int.toNat_natCast] at hx
    have hdr : P.drop i = rd_L1 P (i : Int) :: P.drop (i + 1):=by
      rw [List.drop_eq_getElem_cons ci]
      congr 1
      unfold rd_L1
      simp [List.getD_eq_getElem?_getD,List.getElem?_eq_getElem ci]
    have hpl : (rd_L1 P (i : Int)).length = N + 1:=HLn.out _ (by unfold rd_L1;exact EvKit.getD_mem P i [] ci);have hrb:=HRb.out;rw [hdr] at hrb;generalize rd_L1 P (i : Int) = p at hx hl_ hi_ hpl hrb;obtain ⟨ad2,e2,hy1⟩:=Kd.at_int hi_ q (by have:=HQ.out;have:=HK0.out;omega) (by have:=HQ.out;have:=HK.out;omega);cases e2;obtain ⟨ad3,e3,hy2⟩:=Kd.at_int hi_ (k : Int) (by omega) (by have:=HK.out;omega)
    injection e3 with e3
    subst e3;(have ex1 : rd p q = Pure.PA p (k - 1):=by unfold rd Pure.PA;rw [show q.toNat = k - 1 by have:=HQ.out;omega]);have ex2 : rd p (k : Int) = Pure.PA p k:=rfl;rw [ex1] at hy1;rw [ex2] at hy2;have hmf:=meets_hits p k HK0.out a b;generalize Pure.PA p (k - 1) = x1 at hy1 hmf;generalize Pure.PA p k = x2 at hy2 hmf;rw [Int.toNat_natCast] at hy2;have hin1 : (q < (p.length : Int)) = True:=eq_true (by have:=HQ.out;have:=HK.out;omega);have hin2 : ((k : Int) < (p.length : Int)) = True:=eq_true (by have:=HK.out;omega);have hin3 : ((0 : Int) ≤ q) = True:=eq_true (by have:=HQ.out;have:=HK0.out;omega);(have hw_ : wrap64 ((i : Int) + 1) = ((i + 1 : Nat) : Int):=by rw [EvKit.wrap64_id (by have:=HPn.out;omega) (by have:=HPn.out;omega)];omega);have HW:=Aside0.mk hw_;have HL_:=Aside0.mk hl_;have HI_:=Aside0.mk hi_;have hct:=eq_true ci;clear hw_ ci hdr hi_ hl_ hpl ex1 ex2;by_cases hh : Pure.Hits p k a b
    ·rw [decide_eq_true hh] at hmf
     have HMf:=Aside0.mk hmf
     have hrf : rb = false:=by
       rw [← hrb];exact decide_eq_false (fun h => h p (.head _) hh)
     subst hrf;clear hh hmf hrb;have hwk:=HWk.out;go_wp2_with fail
     go_quiet (first | (go_at_call 59;(with_reducible refine (impl_meets.calls a b x1 x2 true _ HMf.out).mono ?_);rintro e w' ⟨rfl,⟨nd,rfl⟩⟩;(try first | exact ⟨rfl,_,World.drewN_drewN _ _ _⟩ | exact ⟨rfl,_,Eq.trans (World.drewN_drewN _ _ _) (congrArg (World.drewN _) (Nat.add_assoc _ _ _))⟩)))
     (try go_wp2);go_ret;exact ⟨es_,by repeat (first | exact Drawn0.refl _ | apply Drawn0.step)⟩
    ·rw [decide_eq_false hh] at hmf
     have HMf:=Aside0.mk hmf
     have hrb2 : decide (Pure.May (P.drop (i + 1)) k a b) = rb:=by
       rw [← hrb,decide_eq_decide];exact ⟨fun h q hq => (List.mem_cons.1 hq).elim (fun e => e ▸ hh) (h q),fun h q hq => h q (.tail _ hq)⟩
     have HRb2:=Aside0.mk hrb2;clear hh hmf hrb hrb2;have hwk:=HWk.out;go_wp2_with fail
     go_quiet (first | (go_at_call 59;(with_reducible refine (impl_meets.calls a b x1 x2 false _ HMf.out).mono ?_);rintro e w' ⟨rfl,⟨nd,rfl⟩⟩;(try first | exact ⟨rfl,_,World.drewN_drewN _ _ _⟩ | exact ⟨rfl,_,Eq.trans (World.drewN_drewN _ _ _) (congrArg (World.drewN _) (Nat.add_assoc _ _ _))⟩)))
     (try go_wp2);rw [HW.out];go_roundg (gk - 1)
     case measure => have:=HI.out;have:=CI.out;omega
     case rel => exact ⟨i + 1,rfl,⟨by have:=HI.out;have:=CI.out;omega⟩,HRb2,by repeat (first | exact Drawn0.refl _ | apply Drawn0.step)⟩
   ·have cib : decide ((i : Int) < (P.length : Int)) = false:=decide_eq_false (by omega)
    have cic : decide (i < P.length) = false:=decide_eq_false ci
    have hrt : rb = true:=by
      rw [← HRb.out,List.drop_eq_nil_of_le (by omega)];exact decide_eq_true (show Pure.May [] k a b from fun p hp => by cases hp)
    subst hrt;clear ci;go_wp2;go_ret;exact ⟨es_,by repeat (first | exact Drawn0.refl _ | apply Drawn0.step)⟩
end Go.Proofs.Ytcldlljnaijmhaa.Pr
/-
Own text,by hand: the walk of AloneTicks (gen-alone.py).
-/
namespace Go.Proofs.Ytcldlljnaijmhaa.Pr
open Go.RowKit Go.Proofs.YtcldlljnaijmhaaW.PrintWords Go.Proofs.YtcldlljnaijmhaaW.PrintLast Go.Proofs.YtcldlljnaijmhaaW.PrintMore Go.Proofs.Ytcldlljnaijmhaa.Mp
open Bfs (Run relax open_)
set_option linter.unusedVariables false
set_option linter.unusedSimpArgs false

theorem keyI : Key Try.prog 3 (Value.int .i64):=Key.int Try.underlying3
theorem zeroI (w : World) : (zeroValue 3).run Try.prog w = .ok (.int .i64 0) w:=by kernel_rfl
def Iv (a b k : Nat) : Prop:=a ≤ k ∧ k < b
/-- One round of the search. -/
theorem run_cons {nx : Int → List Int} {g : Nat} {D D' : List (Int × Int)} {Q : List Int} (h : Run nx g D Q D') (hq : 0 < Q.length) : ∃ g' d,g = g' + 1 ∧ lk D (rd Q 0) = some d ∧ Run nx g' (relax d D (Q.drop 1) (nx (rd Q 0))).1 (relax d D (Q.drop 1) (nx (rd Q 0))).2 D':=by
  cases h with
  | done => simp at hq
  | step hd hr => exact ⟨_,_,rfl,hd,hr⟩
theorem run_nil {nx : Int → List Int} {g : Nat} {D D' : List (Int × Int)} {Q : List Int} (h : Run nx g D Q D') (hq : ¬ 0 < Q.length) : D = D':=by
  cases h with
  | done => rfl
  | step hd hr => simp at hq
set_option maxHeartbeats 4000000 in
set_option maxRecDepth 100000 in
theorem alone_good (a0_0 : Int) (A0_1 : Option Addr) (c0_1 : Nat) (l0_1 : List Int) (a1_0 : Int) (a1_1 : Int) (r : Int) (k : Nat) (w : World) (hr0_1 : Kd.C (Kd.int .i64) w A0_1 l0_1.length l0_1) (hc0_1 : l0_1.length ≤ c0_1)
    (hg : impl_GoodTrips.f k a0_0 l0_1 [⟨a1_0,a1_1⟩] = some true) (hG : Pure.Gt a0_0 l0_1 [⟨a1_0,a1_1⟩]) (hr : (lk (Bfs.fin (Pure.Gos a0_0 l0_1) a1_0) a1_1).getD (-1) = r) :
    Calls Try.prog 33 #[.agg #[.int .i64 a0_0,.slice A0_1 l0_1.length c0_1],.agg #[.int .i64 a1_0,.int .i64 a1_1]] w fun e w' => e = .returned (.int .i64 r) ∧ Below w.heap.size w w':=by
  have hu39:=Try.underlying39;have hu49:=Try.underlying49;have hu75:=Try.underlying75;have HR:=Aside0.mk hr0_1;have HC:=Aside0.mk hc0_1;have HG:=Aside0.mk hg;have HRes:=Aside0.mk hr;have hCl : Aside0 (Pure.Cl a0_0 l0_1):=⟨hG.1⟩
  obtain ⟨hFs,hFt⟩ : Aside0 (Pure.Fr l0_1 a1_0) ∧ Aside0 (Pure.Fr l0_1 a1_1):=by
    have hf:=(hG.2.2 0 (Nat.le_refl _) (by simp)).1;exact ⟨⟨hf.1⟩,⟨hf.2⟩⟩
  obtain ⟨n0,hrun⟩:=Bfs.fin_run (nx:=Pure.Gos a0_0 l0_1) (s:=a1_0) (Pure.Us l0_1.length) (Pure.mem_Us.2 ⟨hFs.out.1,hFs.out.2.1⟩) Pure.Gos_in;have HRun:=Aside0.mk hrun;generalize Bfs.fin (Pure.Gos a0_0 l0_1) a1_0 = DF at HRun HRes;clear hr0_1 hc0_1 hg hG hr hrun;have HB:=Aside0.mk (Below.refl w.heap.size w);obtain ⟨y0,hy0⟩ : ∃ y,y = [(⟨a1_0,a1_1⟩ : S49)]:=⟨_,rfl⟩;rw [← hy0] at HG;have Ny:=Aside0.mk hy0;clear hy0;go_enter Try.func33,Try.ntmps33
  go_wp2_with (first
    | ((with_reducible refine gate_dst (N:=2) rfl ?_);refine box_event ?hg (N:=2) ?hd (cs:=#[.int .i64 a0_0,.slice A0_1 l0_1.length c0_1]) (t:=39) ?hr ?_;(case hd => rfl);(case hg => rfl);(case hr => first | (go_simp;done) | (go_simp;rfl));intro g0 hg w1 hbox hb;have B0:=Aside0.mk (hbox);have G0:=Aside0.mk (show w.heap.size ≤ g0 by rw [hg];exact HB.out.size);replace HB:=Aside0.mk (below_step HB.out hb);clear hb hbox hg)
    | ((with_reducible refine gate_dst (N:=3) rfl ?_);refine box_event ?hg (N:=3) ?hd (cs:=#[.int .i64 a1_0,.int .i64 a1_1]) (t:=49) ?hr ?_;(case hd => rfl);(case hg => rfl);(case hr => first | (go_simp;done) | (go_simp;rfl));intro g1 hg w2 hbox hb;replace B0:=Aside0.mk (blk_below B0.out hb);have B1:=Aside0.mk (hbox);have G1:=Aside0.mk (show w.heap.size ≤ g1 by rw [hg];exact HB.out.size);replace HB:=Aside0.mk (below_step HB.out hb);clear hb hbox hg;have zg0_0 : w2.cell? ⟨g0,0,none⟩ = some (.int .i64 a0_0):=(blk_cell B0.out 0).trans rfl;have fzg0_0:=blk_frozen B0.out 0;have zg0_1 : w2.cell? ⟨g0,1,none⟩ = some (.slice A0_1 l0_1.length c0_1):=(blk_cell B0.out 1).trans rfl;have fzg0_1:=blk_frozen B0.out 1;have zg1_0 : w2.cell? ⟨g1,0,none⟩ = some (.int .i64 a1_0):=(blk_cell B1.out 0).trans rfl;have fzg1_0:=blk_frozen B1.out 0;have zg1_1 : w2.cell? ⟨g1,1,none⟩ = some (.int .i64 a1_1):=(blk_cell B1.out 1).trans rfl;have fzg1_1:=blk_frozen B1.out 1)
    | ((with_reducible refine gate_dst (N:=16) rfl ?_);refine Kd.R_lit k49 _ 49 ?hg (N:=16) ?hd (xs:=[(⟨a1_0,a1_1⟩ : S49)]) (inner:=[.int .i64 a1_0,.int .i64 a1_1]) (ok:=fun _ => True) (okp:=fun _ => True) ?hr ?hp (fun _ hk => hk) trivial (Below.refl _ _) (Nat.le_refl _) (by simp) ?_;(case hd => rfl);(case hg => rfl);(case hr => first | (go_simp;done) | (go_simp;rfl));(case hp => exact (Reps.c2 (show Kd.M k49 _ _ _ (⟨a1_0,a1_1⟩ : S49) [.int .i64 a1_0,.int .i64 a1_1] from (k49_mkM _ _ _ (⟨a1_0,a1_1⟩ : S49) )) (Reps.none _ _)));intro v3 w3 ho hb hg_ hnew_;clear hg_ hnew_;rw [← Ny.out] at ho;clear zg0_0 fzg0_0 zg0_1 fzg0_1;clear zg1_0 fzg1_0 zg1_1 fzg1_1;replace B0:=Aside0.mk (blk_below B0.out hb);replace B1:=Aside0.mk (blk_below B1.out hb);replace HB:=Aside0.mk (below_step HB.out hb);clear hb;obtain ⟨A3,c3,e3⟩:=Kd.R_slice ho;subst e3;have HO3:=Aside0.mk ho;clear ho)
    | (go_at_call 28;(with_reducible refine (impl_GoodTrips.calls k a0_0 A0_1 c0_1 l0_1 A3 c3 y0 true _ ?s1 HC.out ?s2 ?s3 HG.out).mono ?_);(case s1 => exact Kd.C_below HR.out HB.out);(case s2 => exact (Kd.R_reads' HO3.out).2.2);(case s3 => exact (Kd.R_reads' HO3.out).2.1);rintro e w4 ⟨rfl,hb⟩;replace B0:=Aside0.mk (blk_below B0.out hb);replace B1:=Aside0.mk (blk_below B1.out hb);replace HB:=Aside0.mk (below_step HB.out hb);clear HO3;clear hb)
    | ((with_reducible refine gate_dst (N:=19) rfl ?_);refine make_event (t:=75) ?hg (N:=19) ?hd ?ho (Value.int .i64) (Value.int .i64) ?_;(case hd => rfl);(case hg => rfl);(case ho => rfl);intro gm hg w5 hbox hb;replace B0:=Aside0.mk (blk_below B0.out hb);replace B1:=Aside0.mk (blk_below B1.out hb);have M:=Aside0.mk (hbox);have GM:=Aside0.mk (show w.heap.size ≤ gm by rw [hg];exact HB.out.size);replace HB:=Aside0.mk (below_step HB.out hb);clear hb hbox hg;have zg1_0 : w5.cell? ⟨g1,0,none⟩ = some (.int .i64 a1_0):=(blk_cell B1.out 0).trans rfl;have fzg1_0:=blk_frozen B1.out 0;have zg1_1 : w5.cell? ⟨g1,1,none⟩ = some (.int .i64 a1_1):=(blk_cell B1.out 1).trans rfl;have fzg1_1:=blk_frozen B1.out 1)
    | ((with_reducible refine gate_insert (t:=75) (m:=.tmp 19) (x:=.tmp 21) rfl ?_);refine put_event (P:=Try.prog) ?hg ?hN (.inr rfl) keyI Try.underlying75 M.out a1_0 0 ?hm ?hx ?hv HB.out GM.out ?_;(case hg => rfl);(case hN => rfl);(case hm => rfl);(case hx => rfl);(case hv => rfl);intro w6 hM hk hb;clear zg1_0 fzg1_0 zg1_1 fzg1_1;replace B0:=Aside0.mk (blk_kept B0.out hk (cells_map B0.out M.out));replace B1:=Aside0.mk (blk_kept B1.out hk (cells_map B1.out M.out));replace M:=Aside0.mk (hM);replace HB:=Aside0.mk (hb);clear hM hk hb;have zg1_0 : w6.cell? ⟨g1,0,none⟩ = some (.int .i64 a1_0):=(blk_cell B1.out 0).trans rfl;have fzg1_0:=blk_frozen B1.out 0;have zg1_1 : w6.cell? ⟨g1,1,none⟩ = some (.int .i64 a1_1):=(blk_cell B1.out 1).trans rfl;have fzg1_1:=blk_frozen B1.out 1)
    | ((with_reducible refine gate_dst (N:=25) rfl ?_);refine Kd.R_lit (Kd.int .i64) w.heap.size 3 ?hg (N:=25) ?hd (xs:=[a1_0]) (inner:=[.int .i64 a1_0]) (ok:=fun k => ¬ k = gm) (okp:=fun _ => False) ?hr ?hp (fun _ hk => hk.elim) (fun e => Nat.ne_of_gt (blk_lt M.out) e) HB.out HB.out.size (by simp) ?_;(case hd => rfl);(case hg => rfl);(case hr => first | (go_simp;done) | (go_simp;rfl));(case hp => exact (Reps.one (show Kd.M (Kd.int .i64) _ _ _ a1_0 [.int .i64 a1_0] from rfl) (Reps.none _ _)));intro v7 w7 ho hb hg_ hnew_;clear hnew_;clear zg1_0 fzg1_0 zg1_1 fzg1_1;replace B0:=Aside0.mk (blk_grown B0.out hg_ (by simp));replace B1:=Aside0.mk (blk_grown B1.out hg_ (by simp));replace M:=Aside0.mk (blk_grown M.out hg_ (by simp));have HQ:=Aside0.mk (Kd.Q_of_R ho);replace HB:=Aside0.mk (hb);clear hb ho hg_)
    | fail)
  have HLen : Aside0 ([a1_0].length + open_ [(a1_0,(0 : Int))] (Pure.Us l0_1.length) ≤ 1000):=⟨by have:=Pure.open_le [(a1_0,(0 : Int))] (Pure.Us l0_1.length);rw [Pure.Us_length] at this;have:=hCl.out.n256;simp only [List.length_singleton];omega⟩
  have HLow : Aside0 (Pure.Low [(a1_0,(0 : Int))] (Pure.Us l0_1.length) 1000):=⟨by
    intro x e hx;have:=Pure.open_le [(a1_0,(0 : Int))] (Pure.Us l0_1.length);rw [Pure.Us_length] at this;have:=hCl.out.n256;simp only [lk] at hx
    split at hx
    · cases hx;omega
    · cases hx⟩
  have HFr : Aside0 (∀ q ∈ [a1_0],Pure.Fr l0_1 q):=⟨fun q hq => by rw [List.mem_singleton.1 hq];exact hFs.out⟩
  go_loopg [6] n0 (fun g v6 w' => ∃ (D : List (Int × Int)) (Q : List Int),Aside0 (Run (Pure.Gos a0_0 l0_1) g D Q DF) ∧ Aside0 (Kd.Q (Kd.int .i64) 3 w' w.heap.size (fun k => ¬ k = gm) v6 Q) ∧ Aside0 (Q.length + open_ D (Pure.Us l0_1.length) ≤ 1000) ∧ Aside0 (Pure.Low D (Pure.Us l0_1.length) 1000) ∧ Aside0 (∀ q ∈ Q,Pure.Fr l0_1 q) ∧ Aside0 (w'.heap[g0]? = some (.cells #[.int .i64 a0_0,.slice A0_1 l0_1.length c0_1] 39 (0,0))) ∧ Aside0 (w'.heap[g1]? = some (.cells #[.int .i64 a1_0,.int .i64 a1_1] 49 (0,0))) ∧ Aside0 (w'.heap[gm]? = some (mobj (Value.int .i64) (Value.int .i64) D)) ∧ Aside0 (Below w.heap.size w w'))
  case atStart => exact ⟨[(a1_0,0)],[a1_0],HRun,HQ,HLen,HLow,HFr,B0,B1,M,HB⟩
  case round =>
   clear HRun HQ HLen HLow HFr B0 B1 M HB Ny HG;obtain ⟨D,Q,HRun,HQ,HLen,HLow,HFr,B0,B1,M,HB⟩:=hrel;obtain ⟨wo,rfl⟩ : ∃ wo : World,wo = wr:=⟨_,rfl⟩;obtain ⟨A6,c6,e6,hc6⟩:=Kd.Q_slice HQ.out;subst e6;by_cases cq : 0 < Q.length
   ·obtain ⟨g',d,hgk,hd,hrun⟩:=run_cons HRun.out cq
    have hfc : Pure.Fr l0_1 (rd Q 0):=HFr.out _ (by unfold rd;exact EvKit.getD_mem Q 0 0 cq);obtain ⟨gq,oq,cap,e6,_,_,_⟩:=Kd.Q_form HQ.out cq
    injection e6 with e6 _ e7
    subst e6 e7;have hcell : wo.cell? ⟨gq,oq,none⟩ = some (.int .i64 (rd Q 0)):=(Kd.Q_cell 0 HQ.out 0 (by omega) (by omega)).1;obtain ⟨v',hcut,hQ'⟩:=Q_pop (P:=Try.prog) 22 3 Try.underlying22 info3 HQ.out cq;have HQ':=Aside0.mk hQ';obtain ⟨k2,hk2⟩:=Ev.rounds (Pure.goes_ev hCl.out hfc).1;generalize rd Q 0 = c at hfc hcell hd hrun hk2;obtain ⟨l,hl⟩ : ∃ l,l = Pure.Gos a0_0 l0_1 c:=⟨_,rfl⟩;rw [← hl] at hk2 hrun;have HLk:=Aside0.mk (show ∀ n ∈ l,Pure.Fr l0_1 n by rw [hl];exact fun n hn => Pure.Gos_free hn);(have hlen:=show l.length ≤ 100 by rw [hl];exact Pure.Gos_len _ _ _);have HL100:=Aside0.mk hlen;obtain ⟨Q0,hQ0⟩ : ∃ Q0,Q0 = Q.drop 1:=⟨_,rfl⟩;rw [← hQ0] at hrun HQ';have HLen' : Aside0 (Q0.length + 1 + open_ D (Pure.Us l0_1.length) ≤ 1000):=⟨by rw [hQ0,List.length_drop];have:=HLen.out;omega⟩;have HFr' : Aside0 (∀ q ∈ Q0,Pure.Fr l0_1 q):=⟨fun q hq => HFr.out q (by rw [hQ0] at hq;exact List.mem_of_mem_drop hq)⟩;obtain ⟨FD,FQ,hfin⟩ : ∃ FD FQ,relax d D Q0 l = (FD,FQ):=⟨_,_,rfl⟩;rw [hfin] at hrun;have HFin:=Aside0.mk hfin;have HRun':=Aside0.mk hrun;have HD:=Aside0.mk hd;have Hfc:=Aside0.mk hfc;have HK2:=Aside0.mk hk2;have HGk:=Aside0.mk hgk;have HD2:=HLow.out c d hd;have hd0 : 0 ≤ d:=HD2.1;(have hd1 : d ≤ 1000:=by omega);have cqb : decide (0 < Q.length) = true:=decide_eq_true cq;have cqc : decide ((0 : Int) < (Q.length : Int)) = true:=decide_eq_true (by omega);have cqt:=eq_true cq;clear hQ' hl hrun hfin hd hfc hk2 hlen hQ0 hgk HD2 HLen HFr HRun HQ cq;have zg0_0 : wo.cell? ⟨g0,0,none⟩ = some (.int .i64 a0_0):=(blk_cell B0.out 0).trans rfl;have fzg0_0:=blk_frozen B0.out 0;have zg0_1 : wo.cell? ⟨g0,1,none⟩ = some (.slice A0_1 l0_1.length c0_1):=(blk_cell B0.out 1).trans rfl;have fzg0_1:=blk_frozen B0.out 1;have HBs:=Aside0.mk HB.out.size
    go_wp2_with (first
      | (go_at_call 58;(with_reducible refine (impl_Cells_goes.calls k2 a0_0 A0_1 c0_1 l0_1 c l _ ?s1 HC.out HK2.out).mono ?_);(case s1 => exact Kd.C_below HR.out HB.out);rintro e w8 ⟨v8,rfl,ho,hb⟩;clear zg0_0 fzg0_0 zg0_1 fzg0_1;clear hcell;have hgm_:=blk_lt M.out;have n9_:=Aside0.mk (Kd.R_mono (Kd.R_bound ho) (fun k hk => (⟨hk.2.1,hk.2.2.1⟩ : Iv wo.heap.size w8.heap.size k)));have n0_:=Aside0.mk (below_step HB.out hb);have n1_:=Aside0.mk (blk_below B0.out hb);have n2_:=Aside0.mk (blk_below B1.out hb);have n3_:=Aside0.mk (blk_below M.out hb);have n4_:=Aside0.mk ((Kd.Q_mono (Kd.Q_below (Kd.Q_bound HQ'.out) hb) (fun k hk => (⟨hk.1,fun h2 => by have:=h2.1;have:=hk.2.2.1;omega⟩ : ¬ k = gm ∧ ¬ Iv wo.heap.size w8.heap.size k))));clear HB B0 B1 M HQ';have HB:=n0_;have B0:=n1_;have B1:=n2_;have M:=n3_;have HQ':=n4_;clear n0_ n1_ n2_ n3_ n4_;have HIv : Aside0 (gm < wo.heap.size ∧ wo.heap.size ≤ w8.heap.size):=⟨⟨hgm_,hb.size⟩⟩;have HN:=Aside0.mk (Kd.R_lower n9_.out (Nat.le_trans HBs.out (Nat.le_refl _)));clear n9_ hb ho hgm_;obtain ⟨A8,c8,e8⟩:=Kd.R_slice HN.out;subst e8)
      | fail)
    go_loopg [6,38] l.length (fun g v6 v38 w' => ∃ (j : Nat) (D1 : List (Int × Int)) (Q1 : List Int),v38 = .int .i64 j ∧ Aside0 (j + g = l.length) ∧ Aside0 (relax d D1 Q1 (l.drop j) = (FD,FQ)) ∧ Aside0 (lk D1 c = some d) ∧ Aside0 (Kd.Q (Kd.int .i64) 3 w' w.heap.size (fun k => ¬ k = gm ∧ ¬ Iv wo.heap.size w8.heap.size k) v6 Q1) ∧ Aside0 (Kd.R (Kd.int .i64) 3 w' w.heap.size (Iv wo.heap.size w8.heap.size) (.slice A8 l.length c8) l) ∧ Aside0 (Q1.length + 1 + open_ D1 (Pure.Us l0_1.length) ≤ 1000) ∧ Aside0 (Pure.Low D1 (Pure.Us l0_1.length) 1000) ∧ Aside0 (∀ q ∈ Q1,Pure.Fr l0_1 q) ∧ Aside0 (w8.heap.size ≤ w'.heap.size) ∧ Aside0 (w'.heap[g0]? = some (.cells #[.int .i64 a0_0,.slice A0_1 l0_1.length c0_1] 39 (0,0))) ∧ Aside0 (w'.heap[g1]? = some (.cells #[.int .i64 a1_0,.int .i64 a1_1] 49 (0,0))) ∧ Aside0 (w'.heap[gm]? = some (mobj (Value.int .i64) (Value.int .i64) D1)) ∧ Aside0 (Below w.heap.size w w'))
    case atStart => exact ⟨0,D,Q0,rfl,⟨Nat.zero_add _⟩,⟨HFin.out⟩,HD,HQ',HN,HLen',HLow,HFr',⟨Nat.le_refl _⟩,B0,B1,M,HB⟩
    case round =>
     clear HFin HD HQ' HN HLen' HLow HFr' B0 B1 M HB;obtain ⟨j,D1,Q1,rfl,HJ,HFin,HD,HQ,HN,HLen,HLow,HFr,HSz,B0,B1,M,HB⟩:=hrel;by_cases cj : j < l.length
     ·have cjb : decide ((j : Int) < (l.length : Int)) = true:=decide_eq_true (by omega)
      have cjc : decide (j < l.length) = true:=decide_eq_true cj;have CJ:=Aside0.mk cj;have hR8:=(Kd.R_reads' HN.out).2.2;obtain ⟨ad,e1,hx⟩:=Kd.at_int hR8 (j : Int) (by omega) (by omega);subst e1;rw [Int.toNat_natCast] at hx
      have hdr : l.drop j = rd l (j : Int) :: l.drop (j + 1):=by
        rw [List.drop_eq_getElem_cons cj]
        congr 1
        unfold rd
        simp [List.getD_eq_getElem?_getD,List.getElem?_eq_getElem cj]
      have hfn : Pure.Fr l0_1 (rd l (j : Int)):=HLk.out _ (by unfold rd;exact EvKit.getD_mem l j 0 cj);have hfin:=HFin.out;rw [hdr] at hfin;generalize rd l (j : Int) = n at hx hfin hfn;have Hfn:=Aside0.mk hfn;have cjt:=eq_true cj;have hw : wrap64 ((j : Int) + 1) = ((j + 1 : Nat) : Int):=Pure.succ_w (by have:=HL100.out;omega);have HW:=Aside0.mk hw;clear hw cj hdr hR8 hfn HFin
      cases hk : lk D1 n with
      | none =>
       have hl0:=run_lk_ok keyI Try.underlying75 (zeroI wr) M.out n;have hl1:=run_lk keyI Try.underlying75 (zeroI wr) M.out c;rw [hk] at hl0;rw [HD.out] at hl1;simp only [Option.map_none,Option.getD_none,Option.isSome_none] at hl0;simp only [Option.map_some,Option.getD_some] at hl1;have HK:=Aside0.mk hk;simp only [relax,hk,if_true] at hfin;have HFin:=Aside0.mk hfin;clear hk hfin
       go_wp2_with (first
         | ((with_reducible refine gate_mapUpdate (t:=75) (m:=.tmp 50) (x:=.tmp 51) rfl ?_);refine put_event (P:=Try.prog) ?hg ?hN (.inl rfl) keyI Try.underlying75 M.out n (d + 1) ?hm ?hx ?hv HB.out GM.out ?_;(case hg => rfl);(case hN => rfl);(case hm => rfl);(case hx => rfl);(case hv => rfl);intro w9 hM hk hb;clear hx hl0 hl1;have hsz:=hk.1;replace B0:=Aside0.mk (blk_kept B0.out hk (cells_map B0.out M.out));replace B1:=Aside0.mk (blk_kept B1.out hk (cells_map B1.out M.out));replace M:=Aside0.mk (hM);replace HQ:=Aside0.mk (Kd.Q_kept HQ.out hk (fun k h1 h2 => h1.1 h2));replace HN:=Aside0.mk (Kd.R_kept HN.out hk (fun k h1 h2 => by have:=h1.1;have:=HIv.out;omega));replace HSz:=Aside0.mk (Nat.le_trans HSz.out hsz);replace HB:=Aside0.mk (hb);clear hM hk hb hsz)
         | ((with_reducible refine gate_builtin (b:=.append) (xs:=#[.tmp 56,.tmp 58]) rfl ?_);at_builtin;refine Kd.Q_append (Kd.int .i64) (w0:=w) w.heap.size rfl (.tmp 56) (.tmp 58) 22 3 (.int .i64 0) 8 rfl Try.underlying22 info3 rfl (by decide) (by omega) _ Q1 n [.int .i64 n] (fun k => ¬ k = gm ∧ ¬ Iv wo.heap.size w8.heap.size k) (fun _ => False) rfl rfl ?aP (fun _ hk => hk.elim) ?aF HQ.out HB.out ?aS ?aL ?_;(case aP => exact rfl);(case aF => exact (fun k hk => ⟨fun e => by have:=blk_lt M.out;omega,fun h => by have:=h.2;have:=HSz.out;omega⟩));(case aS => exact HB.out.size);(case aL => have:=HLen.out;omega);intro v9 w10 hq hb hg hat;replace B0:=Aside0.mk (blk_grown B0.out hg (Kd.Q_ne HQ.out B0.out (by decide)));replace B1:=Aside0.mk (blk_grown B1.out hg (Kd.Q_ne HQ.out B1.out (by decide)));replace M:=Aside0.mk (blk_grown M.out hg (fun e => (HQ.out.1 gm e.symm).1 rfl));replace HN:=Aside0.mk (Kd.R_grown HN.out hg (fun k h1 e => (HQ.out.1 k e.symm).2 h1));replace HSz:=Aside0.mk (Nat.le_trans HSz.out hg.size);replace HB:=Aside0.mk (hb);clear HQ;have HQ:=Aside0.mk hq;clear hq hb hg hat)
         | fail)
       rw [HW.out];go_roundg (gk - 1)
       case measure => have:=HJ.out;have:=CJ.out;omega
       case rel => exact ⟨j + 1,_,_,rfl,⟨by have:=HJ.out;have:=CJ.out;omega⟩,HFin,⟨by rw [lk_put,if_neg (fun e => by have h1:=HD.out;rw [e,HK.out] at h1;cases h1)];exact HD.out⟩,HQ,HN,⟨by have:=(Bfs.open_put (D:=D1) (n:=n) (d + 1) (Pure.Us l0_1.length)).2 (Pure.mem_Us.2 ⟨Hfn.out.1,Hfn.out.2.1⟩) HK.out;have:=HLen.out;simp only [List.length_append,List.length_singleton];omega⟩,⟨HLow.out.put HD.out (Pure.mem_Us.2 ⟨Hfn.out.1,Hfn.out.2.1⟩) HK.out⟩,⟨fun q hq => (List.mem_append.1 hq).elim (HFr.out q) (fun h => by rw [List.mem_singleton.1 h];exact Hfn.out)⟩,HSz,B0,B1,M,HB⟩
      | some e =>
       have hl0:=run_lk_ok keyI Try.underlying75 (zeroI wr) M.out n;rw [hk] at hl0;simp only [Option.map_some,Option.getD_some,Option.isSome_some] at hl0;simp only [relax,hk,reduceCtorEq,if_false] at hfin;have HFin:=Aside0.mk hfin;clear hk hfin;go_wp2_with fail;rw [HW.out];go_roundg (gk - 1)
       case measure => have:=HJ.out;have:=CJ.out;omega
       case rel => exact ⟨j + 1,_,_,rfl,⟨by have:=HJ.out;have:=CJ.out;omega⟩,HFin,HD,HQ,HN,HLen,HLow,HFr,HSz,B0,B1,M,HB⟩
     ·have cjb : decide ((j : Int) < (l.length : Int)) = false:=decide_eq_false (by omega)
      have cjc : decide (j < l.length) = false:=decide_eq_false cj;have hfin:=HFin.out;rw [List.drop_eq_nil_of_le (by omega)] at hfin;simp only [relax,Prod.mk.injEq] at hfin;obtain ⟨rfl,rfl⟩:=hfin;have HQ2:=Aside0.mk (Kd.Q_mono HQ.out (fun k hk => hk.1));clear cj HFin HQ HN;go_wp2_with fail;go_roundg g'
      case measure => have:=HGk.out;omega
      case rel => exact ⟨D1,Q1,HRun',HQ2,⟨by have:=HLen.out;omega⟩,HLow,HFr,B0,B1,M,HB⟩
   ·have hDF:=run_nil HRun.out cq
    subst hDF;have cqb : decide (0 < Q.length) = false:=decide_eq_false cq;have cqc : decide ((0 : Int) < (Q.length : Int)) = false:=decide_eq_false (by omega);clear cq HRun HQ;have zg1_1 : wo.cell? ⟨g1,1,none⟩ = some (.int .i64 a1_1):=(blk_cell B1.out 1).trans rfl;have hl0:=run_lk_ok keyI Try.underlying75 (zeroI wo) M.out a1_1;have hres:=HRes.out
    cases hk : lk D a1_1 with
    | none =>
     rw [hk] at hl0 hres;simp only [Option.map_none,Option.getD_none,Option.isSome_none] at hl0 hres;have HR2:=Aside0.mk hres;clear hk hres HRes;go_wp2_with fail;go_ret;exact ⟨by rw [← HR2.out];rfl,HB.out⟩
    | some e =>
     rw [hk] at hl0 hres;simp only [Option.map_some,Option.getD_some,Option.isSome_some] at hl0 hres;have HR2:=Aside0.mk hres;clear hk hres HRes;go_wp2_with fail;go_ret;exact ⟨by rw [← HR2.out];rfl,HB.out⟩
set_option maxHeartbeats 4000000 in
set_option maxRecDepth 100000 in
theorem alone_bad (a0_0 : Int) (A0_1 : Option Addr) (c0_1 : Nat) (l0_1 : List Int) (a1_0 : Int) (a1_1 : Int) (k : Nat) (w : World) (hr0_1 : Kd.C (Kd.int .i64) w A0_1 l0_1.length l0_1) (hc0_1 : l0_1.length ≤ c0_1)
    (hg : impl_GoodTrips.f k a0_0 l0_1 [⟨a1_0,a1_1⟩] = some false) :
    Calls Try.prog 33 #[.agg #[.int .i64 a0_0,.slice A0_1 l0_1.length c0_1],.agg #[.int .i64 a1_0,.int .i64 a1_1]] w fun e w' => e = .returned (.int .i64 (-1)) ∧ Below w.heap.size w w':=by
  have hu39:=Try.underlying39;have hu49:=Try.underlying49;have HR:=Aside0.mk hr0_1;have HC:=Aside0.mk hc0_1;have HG:=Aside0.mk hg;clear hr0_1 hc0_1 hg;have HB:=Aside0.mk (Below.refl w.heap.size w);obtain ⟨y0,hy0⟩ : ∃ y,y = [(⟨a1_0,a1_1⟩ : S49)]:=⟨_,rfl⟩;rw [← hy0] at HG;have Ny:=Aside0.mk hy0;clear hy0;go_enter Try.func33,Try.ntmps33
  go_wp2_with (first
    | ((with_reducible refine gate_dst (N:=2) rfl ?_);refine box_event ?hg (N:=2) ?hd (cs:=#[.int .i64 a0_0,.slice A0_1 l0_1.length c0_1]) (t:=39) ?hr ?_;(case hd => rfl);(case hg => rfl);(case hr => first | (go_simp;done) | (go_simp;rfl));intro g0 hg w1 hbox hb;have B0:=Aside0.mk (hbox);have G0:=Aside0.mk (show w.heap.size ≤ g0 by rw [hg];exact HB.out.size);replace HB:=Aside0.mk (below_step HB.out hb);clear hb hbox hg)
    | ((with_reducible refine gate_dst (N:=3) rfl ?_);refine box_event ?hg (N:=3) ?hd (cs:=#[.int .i64 a1_0,.int .i64 a1_1]) (t:=49) ?hr ?_;(case hd => rfl);(case hg => rfl);(case hr => first | (go_simp;done) | (go_simp;rfl));intro g1 hg w2 hbox hb;replace B0:=Aside0.mk (blk_below B0.out hb);have B1:=Aside0.mk (hbox);have G1:=Aside0.mk (show w.heap.size ≤ g1 by rw [hg];exact HB.out.size);replace HB:=Aside0.mk (below_step HB.out hb);clear hb hbox hg;have zg0_0 : w2.cell? ⟨g0,0,none⟩ = some (.int .i64 a0_0):=(blk_cell B0.out 0).trans rfl;have fzg0_0:=blk_frozen B0.out 0;have zg0_1 : w2.cell? ⟨g0,1,none⟩ = some (.slice A0_1 l0_1.length c0_1):=(blk_cell B0.out 1).trans rfl;have fzg0_1:=blk_frozen B0.out 1;have zg1_0 : w2.cell? ⟨g1,0,none⟩ = some (.int .i64 a1_0):=(blk_cell B1.out 0).trans rfl;have fzg1_0:=blk_frozen B1.out 0;have zg1_1 : w2.cell? ⟨g1,1,none⟩ = some (.int .i64 a1_1):=(blk_cell B1.out 1).trans rfl;have fzg1_1:=blk_frozen B1.out 1)
    | ((with_reducible refine gate_dst (N:=16) rfl ?_);refine Kd.R_lit k49 _ 49 ?hg (N:=16) ?hd (xs:=[(⟨a1_0,a1_1⟩ : S49)]) (inner:=[.int .i64 a1_0,.int .i64 a1_1]) (ok:=fun _ => True) (okp:=fun _ => True) ?hr ?hp (fun _ hk => hk) trivial (Below.refl _ _) (Nat.le_refl _) (by simp) ?_;(case hd => rfl);(case hg => rfl);(case hr => first | (go_simp;done) | (go_simp;rfl));(case hp => exact (Reps.c2 (show Kd.M k49 _ _ _ (⟨a1_0,a1_1⟩ : S49) [.int .i64 a1_0,.int .i64 a1_1] from (k49_mkM _ _ _ (⟨a1_0,a1_1⟩ : S49) )) (Reps.none _ _)));intro v3 w3 ho hb hg_ hnew_;clear hg_ hnew_;rw [← Ny.out] at ho;clear zg0_0 fzg0_0 zg0_1 fzg0_1;clear zg1_0 fzg1_0 zg1_1 fzg1_1;replace B0:=Aside0.mk (blk_below B0.out hb);replace B1:=Aside0.mk (blk_below B1.out hb);replace HB:=Aside0.mk (below_step HB.out hb);clear hb;obtain ⟨A3,c3,e3⟩:=Kd.R_slice ho;subst e3;have HO3:=Aside0.mk ho;clear ho)
    | (go_at_call 28;(with_reducible refine (impl_GoodTrips.calls k a0_0 A0_1 c0_1 l0_1 A3 c3 y0 false _ ?s1 HC.out ?s2 ?s3 HG.out).mono ?_);(case s1 => exact Kd.C_below HR.out HB.out);(case s2 => exact (Kd.R_reads' HO3.out).2.2);(case s3 => exact (Kd.R_reads' HO3.out).2.1);rintro e w4 ⟨rfl,hb⟩;replace B0:=Aside0.mk (blk_below B0.out hb);replace B1:=Aside0.mk (blk_below B1.out hb);replace HB:=Aside0.mk (below_step HB.out hb);clear HO3;clear hb)
    | fail)
  go_ret;exact ⟨rfl,HB.out⟩
open Classical in
theorem impl_AloneTicks.calls (a0_0 : Int) (z1 : Option Addr) (c0_1 : Nat) (z0 : List Int) (a1_0 : Int) (a1_1 : Int) (r : Int) (w : World) (hr0_1 : Kd.C (Kd.int .i64) w z1 z0.length z0) (hc0_1 : z0.length ≤ c0_1) (h : impl_AloneTicks.f a0_0 z0 a1_0 a1_1 = some r) :
    Calls Try.prog 33 #[.agg #[.int .i64 a0_0,.slice z1 z0.length c0_1],.agg #[.int .i64 a1_0,.int .i64 a1_1]] w fun e w' => e = .returned (.int .i64 r) ∧ Below w.heap.size w w':=by
  unfold impl_AloneTicks.f at h;by_cases hn : z0.length ≤ 35184372088832
  case neg => rw [if_neg hn] at h;cases h
  rw [if_pos hn] at h
  injection h with h
  obtain ⟨k,hk⟩:=Ev.rounds (Pure.goodTrips_both a0_0 z0 [⟨a1_0,a1_1⟩] hn).1;by_cases hG : Pure.Gt a0_0 z0 [⟨a1_0,a1_1⟩]
  · rw [if_pos hG] at h
    rw [decide_eq_true hG] at hk;exact alone_good a0_0 z1 c0_1 z0 a1_0 a1_1 r k w hr0_1 hc0_1 hk hG h
  · rw [if_neg hG] at h
    rw [decide_eq_false hG] at hk;subst h;exact alone_bad a0_0 z1 c0_1 z0 a1_0 a1_1 k w hr0_1 hc0_1 hk
end Go.Proofs.Ytcldlljnaijmhaa.Pr
