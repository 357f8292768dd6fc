-- Joined and pruned by wip/tools/prune.py out of this session's own texts (Pr23, Clnd, Prd4, Slb, Cln)
import Derived.Test.YtdihodboopeakaaDoorZfw8
import Derived.Ground.Names2Prog
import Derived.Shelf.Slices.Clone
import Derived.Test.YtdihodboopeakaaDoorProg
namespace Go.Proofs.YtdihodboopeakaaDoor.Pr
open Go.RowKit Go.Proofs.YtdihodboopeakaaDoorW.PrintWords Go.Proofs.YtdihodboopeakaaDoorW.PrintLast Go.Proofs.YtdihodboopeakaaDoorW.PrintMore
attribute [local go_sem] max2_int min2_int max_two min_two max_three min_three max_four min_four
set_option linter.unusedVariables false
set_option linter.unusedSimpArgs false

set_option maxHeartbeats 8000000 in
set_option maxRecDepth 100000 in
theorem spec_WinningPlaces.calls (k : Nat) (j0 : Option Addr) (c0_0 : Nat) (z3 : List ByteArray) (j1 : Option Addr) (c0_1 : Nat) (z4 : List Bool) (j2 : Option Addr) (c0_2 : Nat) (z5 : List (List Int)) (j4 : Option Addr) (c1_0 : Nat) (z7 : List ByteArray) (j5 : Option Addr) (c1_1 : Nat) (z8 : List ByteArray) (r1 : List Int) (r2 : Bool) (w : World) (hr0_0 : Kd.C Kd.string w j0 z3.length z3) (hc0_0 : z3.length ≤ c0_0) (hr0_1 : Kd.C Kd.bool w j1 z4.length z4) (hc0_1 : z4.length ≤ c0_1) (hr0_2 : Kd.C (Kd.slice 3 (Kd.int .i64)) w j2 z5.length z5) (hc0_2 : z5.length ≤ c0_2) (hr1_0 : Kd.C Kd.string w j4 z7.length z7) (hc1_0 : z7.length ≤ c1_0) (hr1_1 : Kd.C Kd.string w j5 z8.length z8) (hc1_1 : z8.length ≤ c1_1) (h : spec_WinningPlaces.f k z3 z4 z5 z7 z8 = some (r1,r2)) :
   Calls Tryd.prog 14 #[.agg #[.slice j0 z3.length c0_0,.slice j1 z4.length c0_1,.slice j2 z5.length c0_2],.agg #[.slice j4 z7.length c1_0,.slice j5 z8.length c1_1]] w fun e w' => ∃ v0_ : Value,e = .returned (.tuple #[v0_,.bool r2]) ∧ Kd.R (Kd.int .i64) 3 w' w.heap.size (fun _ => True) v0_ r1 ∧ Below w.heap.size w w':=by
  have zf8:=Tryd.underlying34;have zf9:=Tryd.underlying36;have m4:=Aside0.mk hr0_0;have m5:=Aside0.mk hc0_0;clear hr0_0 hc0_0;have m6:=Aside0.mk hr0_1;have m7:=Aside0.mk hc0_1;clear hr0_1 hc0_1;have m8:=Aside0.mk hr0_2;have m9:=Aside0.mk hc0_2;clear hr0_2 hc0_2;have za2:=Aside0.mk hr1_0;have za3:=Aside0.mk hc1_0;clear hr1_0 hc1_0;have za4:=Aside0.mk hr1_1;have za5:=Aside0.mk hc1_1;clear hr1_1 hc1_1;have HB:=ak (Below.refl w.heap.size w);have H : ((spec_GoodBoard.f k z3 z4 z5).bind fun za0 => (if za0 = true then ((spec_l22Good.f k z7 z8).bind fun r5 => (spec_WinningPlaces.j0 k (!r5) z3 z4 z5 z7 z8)) else (spec_WinningPlaces.j0 k true z3 z4 z5 z7 z8))) = some (r1,r2):=h;clear h;have HC3:=Aside0.mk H;clear H;go_enter Tryd.func14,Tryd.ntmps14
  go_upto_region 1 with (first | ((with_reducible refine gate_dst (N:=2) rfl ?_);refine box_event ?hg (N:=2) ?hd (cs:=#[.slice j0 z3.length c0_0,.slice j1 z4.length c0_1,.slice j2 z5.length c0_2]) (t:=34) ?hr ?_;(case hd => rfl);(case hg => rfl);(case hr => first | (go_simp;done) | (go_simp;rfl));intro z6 hg w4 hbox hb;have z0:=ak (hbox);have ze8 : Aside0 (w.heap.size ≤ z6):=gz_;have ze9 : Aside0 (w.heap.size ≤ z6):=gz_;replace HB:=ak (below_step hb_ hb);clear hb hbox hg) | ((with_reducible refine gate_dst (N:=3) rfl ?_);refine box_event ?hg (N:=3) ?hd (cs:=#[.slice j4 z7.length c1_0,.slice j5 z8.length c1_1]) (t:=36) ?hr ?_;(case hd => rfl);(case hg => rfl);(case hr => first | (go_simp;done) | (go_simp;rfl));intro j3 hg w5 hbox hb;have z1:=ak (hbox);have zf0 : Aside0 (w.heap.size ≤ j3):=gz_;have zf1 : Aside0 (w.heap.size ≤ j3):=gz_;have r3:=ak ((by rw [hg];exact Nat.ne_of_lt (blk_lt (g:=z6) (o:=.cells #[.slice j0 z3.length c0_0,.slice j1 z4.length c0_1,.slice j2 z5.length c0_2] 34 (0,0)) (bk_ z0.out)) : z6 ≠ j3));have r4:=ak ((by rw [hg];exact Nat.ne_of_gt (blk_lt (g:=z6) (o:=.cells #[.slice j0 z3.length c0_0,.slice j1 z4.length c0_1,.slice j2 z5.length c0_2] 34 (0,0)) (bk_ z0.out)) : j3 ≠ z6));replace z0:=bb_ z0 hb;replace HB:=ak (below_step hb_ hb);clear hb hbox hg))
  (try simp only [Act.put,List.setIfInBounds_toArray,List.set_cons_zero,List.set_cons_succ])
  go_cut [16] (fun v16 wc => ∃ (kq : Nat) (m3 : Bool),v16 = .bool m3 ∧ Aside0 (spec_WinningPlaces.j0 kq m3 z3 z4 z5 z7 z8 = some (r1,r2)) ∧ Aside0 (kq ≤ k) ∧ Aside0 (wc.heap[z6]? = some (.cells #[(.slice j0 z3.length c0_0),(.slice j1 z4.length c0_1),(.slice j2 z5.length c0_2)] 34 (0,0))) ∧ Aside0 (wc.heap[j3]? = some (.cells #[(.slice j4 z7.length c1_0),(.slice j5 z8.length c1_1)] 36 (0,0))) ∧ Aside0 (Below w.heap.size w wc))
  case first =>
   have H:=HC3.out;clear HC3;replace H:=Option.bind_eq_some_iff.mp H;obtain ⟨za0,A60,H⟩:=H;replace H : (if za0 = true then ((spec_l22Good.f k z7 z8).bind fun r5 => (spec_WinningPlaces.j0 k (!r5) z3 z4 z5 z7 z8)) else (spec_WinningPlaces.j0 k true z3 z4 z5 z7 z8)) = some (r1,r2):=H;have A6:=Aside0.mk A60;clear A60;by_cases c7 : za0 = true
   ·subst c7
    rw [if_pos rfl] at H;replace H:=Option.bind_eq_some_iff.mp H;obtain ⟨r5,A80,H⟩:=H;replace H : (spec_WinningPlaces.j0 k (!r5) z3 z4 z5 z7 z8) = some (r1,r2):=H;have A8:=Aside0.mk A80;clear A80;have H':=Aside0.mk H;clear H;have zg0:=r3.out;have zg1:=r4.out;have zc2:=b30 z0;have zc3:=b31 z0;have zc4:=b32 z0;have zc5:=blk_frozen z0.out 0;have zc6:=blk_frozen z0.out 1;have zc7:=blk_frozen z0.out 2;go_wp2_with (first | ((with_reducible refine gate_callee (f:=27) rfl ?_);refine goesL_ (some 10) rfl rfl Tryd.func27 (by kernel_rfl) rfl #[.agg #[.slice j0 z3.length c0_0,.slice j1 z4.length c0_1,.slice j2 z5.length c0_2]] rfl ls_ ?_;(with_reducible refine (spec_GoodBoard.calls k _ _ z3 _ _ z4 _ _ z5 true _ ?j6 ?j7 ?j8 ?j9 ?r9 ?m0 A6.out).mono ?_);(case j6 => exact cb_ m4.out);(case j7 => exact m5.out);(case j8 => exact cb_ m6.out);(case j9 => exact m7.out);(case r9 => exact cb_ m8.out);(case m0 => exact m9.out);rintro e w11 ⟨rfl,hb⟩;refine ⟨_,rfl,?_⟩;replace z0:=bb_ z0 hb;replace z1:=bb_ z1 hb;replace HB:=ak (below_step hb_ hb);(try clear hb);(try clear hb2);(try clear hk);(try clear hi);have zc8:=b20 z1;have zc9:=b21 z1;have zd0:=blk_frozen z1.out 0;have zd1:=blk_frozen z1.out 1) | (go_at_call 50;(with_reducible refine (spec_l22Good.calls k _ _ z7 _ _ z8 r5 _ ?j6 ?j7 ?j8 ?j9 A8.out).mono ?_);(case j6 => exact cb_ za2.out);(case j7 => exact za3.out);(case j8 => exact cb_ za4.out);(case j9 => exact za5.out);rintro e w13 ⟨rfl,hb⟩;replace z0:=bb_ z0 hb;replace z1:=bb_ z1 hb;replace HB:=ak (below_step hb_ hb);(try clear hb);(try clear hb2);(try clear hk);(try clear hi)));go_meet
    case rel => exact ⟨_,(!r5),es_,H',⟨by first | omega | exact Nat.le_refl _⟩,⟨bk_ z0.out⟩,⟨bk_ z1.out⟩,⟨hb_⟩⟩
   ·replace c7:=Bool.eq_false_iff.mpr c7
    subst c7;rw [if_neg (show ¬ (false = true) by decide)] at H;have H':=Aside0.mk H;clear H;have zf2:=r3.out;have zf3:=r4.out;have zd2:=b30 z0;have zd3:=b31 z0;have zd4:=b32 z0;have zd5:=blk_frozen z0.out 0;have zd6:=blk_frozen z0.out 1;have zd7:=blk_frozen z0.out 2;go_wp2_with (first | ((with_reducible refine gate_callee (f:=27) rfl ?_);refine goesL_ (some 10) rfl rfl Tryd.func27 (by kernel_rfl) rfl #[.agg #[.slice j0 z3.length c0_0,.slice j1 z4.length c0_1,.slice j2 z5.length c0_2]] rfl ls_ ?_;(with_reducible refine (spec_GoodBoard.calls k _ _ z3 _ _ z4 _ _ z5 false _ ?j6 ?j7 ?j8 ?j9 ?r9 ?m0 A6.out).mono ?_);(case j6 => exact cb_ m4.out);(case j7 => exact m5.out);(case j8 => exact cb_ m6.out);(case j9 => exact m7.out);(case r9 => exact cb_ m8.out);(case m0 => exact m9.out);rintro e w16 ⟨rfl,hb⟩;refine ⟨_,rfl,?_⟩;replace z0:=bb_ z0 hb;replace z1:=bb_ z1 hb;replace HB:=ak (below_step hb_ hb);(try clear hb);(try clear hb2);(try clear hk);(try clear hi)));go_meet
    case rel => exact ⟨_,(true),es_,H',⟨by first | omega | exact Nat.le_refl _⟩,⟨bk_ z0.out⟩,⟨bk_ z1.out⟩,⟨hb_⟩⟩
  case rest =>
   clear HC3;obtain ⟨kq,m3,rfl,HA,HJ2,z0,z1,HB⟩:=hcut
   cases kq with
   | zero => exact absurd HA.out (by simp [spec_WinningPlaces.j0])
   | succ kj2 =>
    have H:=HA.out;clear HA;simp only [spec_WinningPlaces.j0] at H;by_cases c17 : m3 = true
    ·subst c17
     rw [if_pos rfl] at H;simp only [Option.some.injEq,Prod.mk.injEq] at H;obtain ⟨rfl,rfl⟩:=H;go_wp2
     go_ret2
     exact ⟨_,er_,by first | exact Kd.R_nil _ _ _ _ _ | exact Kd.N_nil _ _ _ _ _ | exact Kd.V_nil _ _ _ _ _ | exact Kd.Q_nil _ _ _ _ _ | exact Kd.S_nil _ _ _ _ _,hb_⟩
    ·replace c17:=Bool.eq_false_iff.mpr c17
     subst c17;rw [if_neg (show ¬ (false = true) by decide)] at H;replace H:=Option.bind_eq_some_iff.mp H;obtain ⟨z9,za9,H⟩:=H;replace H : (spec_WinningPlaces.l0 kj2 ([] : List Int) z9 (z9.length : Int) 0) = some (r1,r2):=H;have A18:=Aside0.mk za9;clear za9;have H':=Aside0.mk H;clear H;have zf4:=r3.out;have zf5:=r4.out;have zd8:=b30 z0;have zd9:=b31 z0;have ze0:=b32 z0;have ze1:=blk_frozen z0.out 0;have ze2:=blk_frozen z0.out 1;have ze3:=blk_frozen z0.out 2;have ze4:=b20 z1;have ze5:=b21 z1;have ze6:=blk_frozen z1.out 0;have ze7:=blk_frozen z1.out 1;go_wp2_with (first | ((with_reducible refine gate_callee (f:=51) rfl ?_);refine goesL_ (some 19) rfl rfl Tryd.func51 (by kernel_rfl) rfl #[.agg #[.slice j0 z3.length c0_0,.slice j1 z4.length c0_1,.slice j2 z5.length c0_2],.agg #[.slice j4 z7.length c1_0,.slice j5 z8.length c1_1]] rfl ls_ ?_;(with_reducible refine (spec_l22Ranks.calls kj2 _ _ z3 _ _ z4 _ _ z5 _ _ z7 _ _ z8 z9 _ ?j6 ?j7 ?j8 ?j9 ?r9 ?m0 ?zb3 ?zb4 ?zb5 ?zb0 A18.out).mono ?_);(case j6 => exact cb_ m4.out);(case j7 => exact m5.out);(case j8 => exact cb_ m6.out);(case j9 => exact m7.out);(case r9 => exact cb_ m8.out);(case m0 => exact m9.out);(case zb3 => exact cb_ za2.out);(case zb4 => exact za3.out);(case zb5 => exact cb_ za4.out);(case zb0 => exact za5.out);rintro e w22 ⟨zg2,rfl,ho0,hb⟩;refine ⟨_,rfl,?_⟩;have za6:=ak (Kd.R_lower ho0 (below_size hb_));replace z0:=bb_ z0 hb;replace z1:=bb_ z1 hb;replace HB:=ak (below_step hb_ hb);(try clear hb);(try clear hb2);(try clear hk);(try clear hi);(try clear ho0);obtain ⟨zb1,za1,zc1⟩:=Kd.R_slice za6.out;subst zc1))
     go_loopg [6,21] kj2 (fun kq v6 v21 w' => ∃ (r6 : List Int) (z2 : Int),v21 = .int .i64 z2 ∧ Aside0 (spec_WinningPlaces.l0 kq r6 z9 (z9.length : Int) z2 = some (r1,r2)) ∧ Aside0 (kq ≤ kj2) ∧ Aside0 (Kd.R (Kd.int .i64) 3 w' w.heap.size (fun k_ => some k_ ≠ ((.slice zb1 z9.length za1) : Value).ownBlock) v6 r6) ∧ Aside0 (Kd.R (Kd.int .i64) 3 w' w.heap.size (fun k_ => some k_ ≠ (v6 : Value).ownBlock) (.slice zb1 z9.length za1) z9) ∧ Aside0 (w'.heap[z6]? = some (.cells #[(.slice j0 z3.length c0_0),(.slice j1 z4.length c0_1),(.slice j2 z5.length c0_2)] 34 (0,0))) ∧ Aside0 (w'.heap[j3]? = some (.cells #[(.slice j4 z7.length c1_0),(.slice j5 z8.length c1_1)] 36 (0,0))) ∧ Aside0 (Below w.heap.size w w'))
     case atStart => exact ⟨(([] : List Int)),(0),es_,H',⟨Nat.le_refl _⟩,⟨by first | exact Kd.R_nil _ _ _ _ _ | exact Kd.N_nil _ _ _ _ _ | exact Kd.V_nil _ _ _ _ _ | exact Kd.Q_nil _ _ _ _ _ | exact Kd.S_nil _ _ _ _ _⟩,⟨by (with_reducible repeat (first | apply Kd.R_alloc | apply Kd.R_drewN | apply Kd.R_drew));exact Kd.R_mono za6.out (fun _ hk => (by simp [Value.ownBlock]))⟩,⟨bk_ z0.out⟩,⟨bk_ z1.out⟩,⟨hb_⟩⟩
     case round =>
      clear H';obtain ⟨r6,z2,rfl,HA,HK2,m2,r0,z0,z1,HB⟩:=hrel
      cases gk with
      | zero => exact absurd HA.out (by simp [spec_WinningPlaces.l0])
      | succ k2 =>
       have H:=HA.out;clear HA;simp only [spec_WinningPlaces.l0] at H;by_cases c24 : z2 < (z9.length : Int)
       ·rw [if_pos c24] at H
        have zb6 : decide (z2 < (z9.length : Int)) = true:=decide_eq_true c24;clear c24;by_cases c25 : 0 ≤ z2
        ·rw [if_pos c25] at H
         have zf6 : decide (0 ≤ z2) = true:=decide_eq_true c25;clear c25;by_cases c26 : z2 < (z9.length : Int)
         ·rw [if_pos c26] at H
          have zf7 : decide (z2 < (z9.length : Int)) = true:=decide_eq_true c26;clear c26;by_cases c27 : (rd z9 z2) ≥ 0
          ·rw [if_pos c27] at H
           have zb7 : decide (0 ≤ (rd z9 z2)) = true:=decide_eq_true c27;clear c27;by_cases c28 : r6.length < 17592186044416
           ·rw [if_pos c28] at H
            have zb8:=Aside0.mk c28;clear c28;obtain ⟨zb2,m1⟩ : ∃ y_ : List Int,y_ = (r6 ++ [z2]):=⟨_,rfl⟩;(replace H : (spec_WinningPlaces.l0 k2 zb2 z9 (z9.length : Int) (wrap64 (z2 + 1))) = some (r1,r2):=by first | (rw [m1];with_reducible exact H) | (have H2_:=(Option.bind_some _ _).symm.trans H;rw [m1];with_reducible exact H2_) | (have H2_:=(Option.bind_some _ _).symm.trans H;with_reducible exact H2_) | with_reducible exact H | (rw [m1];exact H) | exact H);have zb9:=Aside0.mk m1;clear m1;have H':=Aside0.mk H;clear H;have r7 : 0 ≤ (z2 : Int):=of_decide_eq_true as_;have r8 : z2 < (z9.length : Int):=of_decide_eq_true as_;obtain ⟨za7,e392,za8⟩:=Kd.at_int (Kd.R_reads' r0.out).2.2 z2 r7 r8;cases e392;replace r7:=eq_true r7;replace r8:=eq_true r8;go_wp2_with (first | ((with_reducible refine gate_builtin (b:=.append) (xs:=#[.tmp 28,.tmp 30]) rfl ?_);at_builtin;refine Kd.R_append (Kd.int .i64) (w0:=w) w.heap.size rfl (.tmp 28) (.tmp 30) 31 3 (.int .i64 0) 8 rfl Tryd.underlying31 info3 rfl (by decide) (by omega) u6 r6 z2 [.int .i64 z2] (fun k_ => some k_ ≠ (.slice (some za7) z9.length za1 : Value).ownBlock) (fun _ => False) rfl rfl ?aP (fun _ hk => hk.elim) ?aF ?aO ?aB ?aS ?aL ?_;(case aP => exact rfl);(case aB => exact hb_);(case aF => exact (fun k_ hk => Kd.fresh' (Kd.R_lt (ra_ r0.out)) k_ hk));(case aO => exact (ra_ m2.out));(case aS => exact (below_size hb_));(case aL => have:=zb8.out;omega);intro zg3 w29 ho hb hg hat;rw [← zb9.out] at ho;replace r0:=ak (Kd.R_after (ok:=(fun _ => True)) (by (with_reducible repeat (first | apply Kd.R_alloc | apply Kd.R_drewN | apply Kd.R_drew));exact Kd.R_mono r0.out (fun _ hk => ⟨trivial,hk⟩)) hg hat);replace z0:=ak (blk_grown (g:=z6) (o:=.cells #[.slice j0 z3.length c0_0,.slice j1 z4.length c0_1,.slice j2 z5.length c0_2] 34 (0,0)) (bk_ z0.out) hg (Kd.R_ne m2.out z0.out (by decide)));replace z1:=ak (blk_grown (g:=j3) (o:=.cells #[.slice j4 z7.length c1_0,.slice j5 z8.length c1_1] 36 (0,0)) (bk_ z1.out) hg (Kd.R_ne m2.out z1.out (by decide)));have zc0:=ak (ho);replace HB:=ak (hb);clear m2;clear ho hb hg hat));go_roundg k2
            case measure => have:=HJ2.out;have:=HK2.out;omega
            case rel => exact ⟨(zb2),(wrap64 (z2 + 1)),es_,H',⟨by have:=HJ2.out;have:=HK2.out;omega⟩,⟨ra_ zc0.out⟩,⟨by (with_reducible repeat (first | apply Kd.R_alloc | apply Kd.R_drewN | apply Kd.R_drew));exact Kd.R_mono r0.out (fun _ hk => hk.2)⟩,⟨bk_ z0.out⟩,⟨bk_ z1.out⟩,⟨hb_⟩⟩
           ·rw [if_neg c28] at H
            exact absurd H (by simp)
          ·rw [if_neg c27] at H
           have zb7 : decide (0 ≤ (rd z9 z2)) = false:=decide_eq_false c27;clear c27;have H':=Aside0.mk H;clear H;have r7 : 0 ≤ (z2 : Int):=of_decide_eq_true as_;have r8 : z2 < (z9.length : Int):=of_decide_eq_true as_;obtain ⟨za7,e392,za8⟩:=Kd.at_int (Kd.R_reads' r0.out).2.2 z2 r7 r8;cases e392;replace r7:=eq_true r7;replace r8:=eq_true r8;go_wp2;go_roundg k2
           case measure => have:=HJ2.out;have:=HK2.out;omega
           case rel => exact ⟨(r6),(wrap64 (z2 + 1)),es_,H',⟨by have:=HJ2.out;have:=HK2.out;omega⟩,⟨ra_ m2.out⟩,⟨ra_ r0.out⟩,⟨bk_ z0.out⟩,⟨bk_ z1.out⟩,⟨hb_⟩⟩
         ·rw [if_neg c26] at H
          exact absurd H (by simp)
        ·rw [if_neg c25] at H
         exact absurd H (by simp)
       ·rw [if_neg c24] at H
        have zb6 : decide (z2 < (z9.length : Int)) = false:=decide_eq_false c24;clear c24;simp only [Option.some.injEq,Prod.mk.injEq] at H;obtain ⟨rfl,rfl⟩:=H;go_wp2
        go_ret2
        exact ⟨_,er_,by (with_reducible repeat (first | apply Kd.R_alloc | apply Kd.R_drewN | apply Kd.R_drew));exact Kd.R_mono m2.out (fun _ hk => trivial),hb_⟩

end Go.Proofs.YtdihodboopeakaaDoor.Pr
/- slices.Clone at []int: what it computes. -/
namespace Go.Proofs.YtdihodboopeakaaDoor.Pr
def slices_Clone_int_int.f (l : List Int) : Option (List Int):=if l.length * 8 ≤ 140737488355328 then some l else none
end Go.Proofs.YtdihodboopeakaaDoor.Pr
namespace Go.Proofs.YtdihodboopeakaaDoor.Pr
open Go.RowKit Go.Proofs.YtdihodboopeakaaDoorW.PrintWords Go.Proofs.YtdihodboopeakaaDoorW.PrintLast Go.Proofs.YtdihodboopeakaaDoorW.PrintMore
attribute [local go_sem] max2_int min2_int max_two min_two max_three min_three max_four min_four
set_option linter.unusedVariables false
set_option linter.unusedSimpArgs false

/-! ### impl_Board_wins: function 56 -/
mutual
def impl_Board_wins.l0 : Nat → List Int → Int → Int → List ByteArray → List Bool → List (List Int) → List ByteArray → List ByteArray → Option (List Int)
  | 0,_,_,_,_,_,_,_,_ => none
  | k + 1,x6,x32,x33,x397000,x397001,x397002,x398000,x398001 => if x33 < x32 then ((impl_Board_shuns.f k x397000 x397001 x397002 x398000 x398001 x33).bind fun t401 => (if t401 = true then (if 0 ≤ x33 then (if x33 < (x6.length : Int) then (impl_Board_wins.l0 k (x6.set (x33 : Int).toNat (-1)) x32 (wrap64 (x33 + 1)) x397000 x397001 x397002 x398000 x398001) else (none)) else (none)) else (impl_Board_wins.l0 k x6 x32 (wrap64 (x33 + 1)) x397000 x397001 x397002 x398000 x398001))) else (impl_Board_wins.l1 k x6 true x397000 x397001 x397002)
def impl_Board_wins.l1 : Nat → List Int → Bool → List ByteArray → List Bool → List (List Int) → Option (List Int)
  | 0,_,_,_,_,_ => none
  | k + 1,x6,x8,x397000,x397001,x397002 => if x8 = true then (impl_Board_wins.l2 k x6 false (x6.length : Int) 0 x397000 x397001 x397002) else (some x6)
def impl_Board_wins.l2 : Nat → List Int → Bool → Int → Int → List ByteArray → List Bool → List (List Int) → Option (List Int)
  | 0,_,_,_,_,_,_,_ => none
  | k + 1,x6,x8,x46,x47,x397000,x397001,x397002 => if x47 < x46 then (if 0 ≤ x47 then (if x47 < (x6.length : Int) then (if (rd x6 x47) < 0 then (impl_Board_wins.j3 k x6 x8 x47 x46 x47 true x397000 x397001 x397002) else (if x47 < (x397002.length : Int) then (impl_Board_wins.j3 k x6 x8 x47 x46 x47 (((rd_L3 x397002 x47).length : Int) == 0) x397000 x397001 x397002) else (none))) else (none)) else (none)) else (impl_Board_wins.l1 k x6 x8 x397000 x397001 x397002)
def impl_Board_wins.j3 : Nat → List Int → Bool → Int → Int → Int → Bool → List ByteArray → List Bool → List (List Int) → Option (List Int)
  | 0,_,_,_,_,_,_,_,_,_ => none
  | k + 1,x6,x8,x9,x46,x47,x63,x397000,x397001,x397002 => if x63 = true then (impl_Board_wins.l2 k x6 x8 x46 (wrap64 (x47 + 1)) x397000 x397001 x397002) else (if 0 ≤ x9 then (if x9 < (x397002.length : Int) then (impl_Board_wins.l3 k x6 x8 x9 false false x46 x47 (rd_L3 x397002 x9) ((rd_L3 x397002 x9).length : Int) 0 x397000 x397001 x397002) else (none)) else (none))
def impl_Board_wins.l3 : Nat → List Int → Bool → Int → Bool → Bool → Int → Int → List Int → Int → Int → List ByteArray → List Bool → List (List Int) → Option (List Int)
  | 0,_,_,_,_,_,_,_,_,_,_,_,_,_ => none
  | k + 1,x6,x8,x9,x10,x11,x46,x47,x68,x69,x70,x397000,x397001,x397002 => if x70 < x69 then (if 0 ≤ x70 then (if x70 < (x68.length : Int) then (if x10 = true then (if x11 = true then (impl_Board_wins.l3 k x6 x8 x9 true true x46 x47 x68 x69 (wrap64 (x70 + 1)) x397000 x397001 x397002) else (if 0 ≤ (rd x68 x70) then (if (rd x68 x70) < (x6.length : Int) then (impl_Board_wins.l3 k x6 x8 x9 true (decide ((rd x6 (rd x68 x70)) < 0)) x46 x47 x68 x69 (wrap64 (x70 + 1)) x397000 x397001 x397002) else (none)) else (none))) else (if 0 ≤ (rd x68 x70) then (if (rd x68 x70) < (x6.length : Int) then (if x11 = true then (impl_Board_wins.l3 k x6 x8 x9 (decide ((rd x6 (rd x68 x70)) ≥ 0)) true x46 x47 x68 x69 (wrap64 (x70 + 1)) x397000 x397001 x397002) else (impl_Board_wins.l3 k x6 x8 x9 (decide ((rd x6 (rd x68 x70)) ≥ 0)) (decide ((rd x6 (rd x68 x70)) < 0)) x46 x47 x68 x69 (wrap64 (x70 + 1)) x397000 x397001 x397002)) else (none)) else (none))) else (none)) else (none)) else (if 0 ≤ x9 then (if x9 < (x397001.length : Int) then (if rdOf false x397001 x9 = true then (if x10 = true then (impl_Board_wins.l2 k x6 x8 x46 (wrap64 (x47 + 1)) x397000 x397001 x397002) else (if x9 < (x6.length : Int) then (impl_Board_wins.l2 k (x6.set (x9 : Int).toNat (-1)) true x46 (wrap64 (x47 + 1)) x397000 x397001 x397002) else (none))) else (if x11 = true then (if x9 < (x6.length : Int) then (impl_Board_wins.l2 k (x6.set (x9 : Int).toNat (-1)) true x46 (wrap64 (x47 + 1)) x397000 x397001 x397002) else (none)) else (impl_Board_wins.l2 k x6 x8 x46 (wrap64 (x47 + 1)) x397000 x397001 x397002))) else (none)) else (none))
def impl_Board_wins.l4 : Nat → Int → List Int → Int → Int → List ByteArray → List Bool → List (List Int) → List ByteArray → List ByteArray → Option (List Int)
  | 0,_,_,_,_,_,_,_,_,_ => none
  | k + 1,x5,x6,x117,x118,x397000,x397001,x397002,x398000,x398001 => if x118 < x117 then (if 0 ≤ x118 then (if x118 < (x6.length : Int) then ((some (x6.set (x118 : Int).toNat (-1) : List Int)).bind fun y415 => ((impl_Board_aims.f k x397000 x397001 x397002 x398000 x398001 x118).bind fun t416 => (if t416 = true then (impl_Board_wins.l4 k x5 (y415.set (x118 : Int).toNat 0) x117 (wrap64 (x118 + 1)) x397000 x397001 x397002 x398000 x398001) else (impl_Board_wins.l4 k x5 y415 x117 (wrap64 (x118 + 1)) x397000 x397001 x397002 x398000 x398001)))) else (none)) else (none)) else (impl_Board_wins.l5 k x5 x6 1 x397000 x397001 x397002 x398000 x398001)
def impl_Board_wins.l5 : Nat → Int → List Int → Int → List ByteArray → List Bool → List (List Int) → List ByteArray → List ByteArray → Option (List Int)
  | 0,_,_,_,_,_,_,_,_ => none
  | k + 1,x5,x6,x15,x397000,x397001,x397002,x398000,x398001 => if x15 ≤ x5 then ((slices_Clone_int_int.f x6).bind fun t418 => (impl_Board_wins.l6 k x5 x6 x15 t418 (x6.length : Int) 0 x397000 x397001 x397002 x398000 x398001)) else (some x6)
def impl_Board_wins.l6 : Nat → Int → List Int → Int → List Int → Int → Int → List ByteArray → List Bool → List (List Int) → List ByteArray → List ByteArray → Option (List Int)
  | 0,_,_,_,_,_,_,_,_,_,_,_ => none
  | k + 1,x5,x6,x15,x16,x140,x141,x397000,x397001,x397002,x398000,x398001 => if x141 < x140 then (if 0 ≤ x141 then (if x141 < (x16.length : Int) then (if (rd x16 x141) ≥ 0 then (impl_Board_wins.j8 k x5 x6 x15 x16 x141 x140 x141 true x397000 x397001 x397002 x398000 x398001) else ((impl_Board_shuns.f k x397000 x397001 x397002 x398000 x398001 x141).bind fun t422 => (if t422 = true then (impl_Board_wins.j8 k x5 x6 x15 x16 x141 x140 x141 true x397000 x397001 x397002 x398000 x398001) else (if x141 < (x397002.length : Int) then (impl_Board_wins.j8 k x5 x6 x15 x16 x141 x140 x141 (((rd_L3 x397002 x141).length : Int) == 0) x397000 x397001 x397002 x398000 x398001) else (none))))) else (none)) else (none)) else (impl_Board_wins.l5 k x5 x6 (wrap64 (x15 + 1)) x397000 x397001 x397002 x398000 x398001)
def impl_Board_wins.j8 : Nat → Int → List Int → Int → List Int → Int → Int → Int → Bool → List ByteArray → List Bool → List (List Int) → List ByteArray → List ByteArray → Option (List Int)
  | 0,_,_,_,_,_,_,_,_,_,_,_,_,_ => none
  | k + 1,x5,x6,x15,x16,x17,x140,x141,x163,x397000,x397001,x397002,x398000,x398001 => if x163 = true then (impl_Board_wins.l6 k x5 x6 x15 x16 x140 (wrap64 (x141 + 1)) x397000 x397001 x397002 x398000 x398001) else (if 0 ≤ x17 then (if x17 < (x397002.length : Int) then (impl_Board_wins.l7 k x5 x6 x15 x16 x17 false true x140 x141 (rd_L3 x397002 x17) ((rd_L3 x397002 x17).length : Int) 0 x397000 x397001 x397002 x398000 x398001) else (none)) else (none))
def impl_Board_wins.l7 : Nat → Int → List Int → Int → List Int → Int → Bool → Bool → Int → Int → List Int → Int → Int → List ByteArray → List Bool → List (List Int) → List ByteArray → List ByteArray → Option (List Int)
  | 0,_,_,_,_,_,_,_,_,_,_,_,_,_,_,_,_,_ => none
  | k + 1,x5,x6,x15,x16,x17,x18,x19,x140,x141,x168,x169,x170,x397000,x397001,x397002,x398000,x398001 => if x170 < x169 then (if 0 ≤ x170 then (if x170 < (x168.length : Int) then (if x18 = true then (if x19 = true then (if 0 ≤ (rd x168 x170) then (if (rd x168 x170) < (x16.length : Int) then (impl_Board_wins.l7 k x5 x6 x15 x16 x17 true (decide ((rd x16 (rd x168 x170)) ≥ 0)) x140 x141 x168 x169 (wrap64 (x170 + 1)) x397000 x397001 x397002 x398000 x398001) else (none)) else (none)) else (impl_Board_wins.l7 k x5 x6 x15 x16 x17 true false x140 x141 x168 x169 (wrap64 (x170 + 1)) x397000 x397001 x397002 x398000 x398001)) else (if 0 ≤ (rd x168 x170) then (if (rd x168 x170) < (x16.length : Int) then (if x19 = true then (impl_Board_wins.l7 k x5 x6 x15 x16 x17 (decide ((rd x16 (rd x168 x170)) ≥ 0)) (decide ((rd x16 (rd x168 x170)) ≥ 0)) x140 x141 x168 x169 (wrap64 (x170 + 1)) x397000 x397001 x397002 x398000 x398001) else (impl_Board_wins.l7 k x5 x6 x15 x16 x17 (decide ((rd x16 (rd x168 x170)) ≥ 0)) false x140 x141 x168 x169 (wrap64 (x170 + 1)) x397000 x397001 x397002 x398000 x398001)) else (none)) else (none))) else (none)) else (none)) else (if 0 ≤ x17 then (if x17 < (x397001.length : Int) then (if rdOf false x397001 x17 = true then (if x18 = true then (if x17 < (x6.length : Int) then (impl_Board_wins.l6 k x5 (x6.set (x17 : Int).toNat x15) x15 x16 x140 (wrap64 (x141 + 1)) x397000 x397001 x397002 x398000 x398001) else (none)) else (impl_Board_wins.l6 k x5 x6 x15 x16 x140 (wrap64 (x141 + 1)) x397000 x397001 x397002 x398000 x398001)) else (if x19 = true then (if x17 < (x6.length : Int) then (impl_Board_wins.l6 k x5 (x6.set (x17 : Int).toNat x15) x15 x16 x140 (wrap64 (x141 + 1)) x397000 x397001 x397002 x398000 x398001) else (none)) else (impl_Board_wins.l6 k x5 x6 x15 x16 x140 (wrap64 (x141 + 1)) x397000 x397001 x397002 x398000 x398001))) else (none)) else (none))
end
def impl_Board_wins.f (k : Nat) (l0_0 : List ByteArray) (l0_1 : List Bool) (l0_2 : List (List Int)) (l1_0 : List ByteArray) (l1_1 : List ByteArray) : Option (List Int):=if 0 ≤ (l0_0.length : Int) then (if ((l0_0.length : Int) : Int).toNat ≤ 35184372088832 then ((some (List.replicate ((l0_0.length : Int) : Int).toNat 0 : List Int)).bind fun y398 => (if (l1_0.length : Int) = 0 then (impl_Board_wins.l0 k y398 (y398.length : Int) 0 l0_0 l0_1 l0_2 l1_0 l1_1) else (impl_Board_wins.l4 k (l0_0.length : Int) y398 (y398.length : Int) 0 l0_0 l0_1 l0_2 l1_0 l1_1))) else (none)) else (none)
/-! ### impl_WinningPlaces: function 17 -/
mutual
def impl_WinningPlaces.j0 : Nat → Bool → List ByteArray → List Bool → List (List Int) → List ByteArray → List ByteArray → Option (List Int × Bool)
  | 0,_,_,_,_,_,_ => none
  | k + 1,x16,x435000,x435001,x435002,x436000,x436001 => if x16 = true then (some (([] : List Int),false)) else ((impl_Board_wins.f k x435000 x435001 x435002 x436000 x436001).bind fun t438 => (impl_WinningPlaces.l0 k ([] : List Int) t438 (t438.length : Int) 0))
def impl_WinningPlaces.l0 : Nat → List Int → List Int → Int → Int → Option (List Int × Bool)
  | 0,_,_,_,_ => none
  | k + 1,x6,x19,x20,x21 => if x21 < x20 then (if 0 ≤ x21 then (if x21 < (x19.length : Int) then (if (rd x19 x21) ≥ 0 then (if x6.length < 17592186044416 then (impl_WinningPlaces.l0 k (x6 ++ [x21]) x19 x20 (wrap64 (x21 + 1))) else (none)) else (impl_WinningPlaces.l0 k x6 x19 x20 (wrap64 (x21 + 1)))) else (none)) else (none)) else (some (x6,true))
end
def impl_WinningPlaces.f (k : Nat) (l0_0 : List ByteArray) (l0_1 : List Bool) (l0_2 : List (List Int)) (l1_0 : List ByteArray) (l1_1 : List ByteArray) : Option (List Int × Bool):=(impl_GoodBoard.f k l0_0 l0_1 l0_2).bind fun t436 => (if t436 = true then ((impl_goodWish.f l1_0 l1_1).bind fun t437 => (impl_WinningPlaces.j0 k (!t437) l0_0 l0_1 l0_2 l1_0 l1_1)) else (impl_WinningPlaces.j0 k true l0_0 l0_1 l0_2 l1_0 l1_1))
/-! ### laws_markText: function 90 -/
/-! ### laws_markStringS: function 60 -/
/-! ### laws_markBoolS: function 61 -/
/-! ### laws_markIntS: function 23 -/
/-! ### laws_markWish: function 22 -/
/-! ### laws_heldIntS: function 24 -/
/-! ### spec_Strategy: function 25 -/
mutual
def spec_Strategy.j0 : Nat → Bool → List ByteArray → List Bool → List (List Int) → List ByteArray → List ByteArray → Option (List Int × Bool)
  | 0,_,_,_,_,_,_ => none
  | k + 1,x18,x527000,x527001,x527002,x528000,x528001 => if x18 = true then (some (([] : List Int),false)) else ((spec_l22Ranks.f k x527000 x527001 x527002 x528000 x528001).bind fun t530 => (if 0 ≤ (t530.length : Int) then (if ((t530.length : Int) : Int).toNat ≤ 35184372088832 then ((some (List.replicate ((t530.length : Int) : Int).toNat 0 : List Int)).bind fun y533 => (spec_Strategy.l0 k t530 y533 (y533.length : Int) 0 x527000 x527001 x527002 x528000 x528001)) else (none)) else (none)))
def spec_Strategy.l0 : Nat → List Int → List Int → Int → Int → List ByteArray → List Bool → List (List Int) → List ByteArray → List ByteArray → Option (List Int × Bool)
  | 0,_,_,_,_,_,_,_,_,_ => none
  | k + 1,x6,x7,x26,x27,x527000,x527001,x527002,x528000,x528001 => if x27 < x26 then (if 0 ≤ x27 then (if x27 < (x7.length : Int) then ((some (x7.set (x27 : Int).toNat (-1) : List Int)).bind fun y536 => (if x27 < (x527001.length : Int) then (if rdOf false x527001 x27 = true then (if x27 < (x6.length : Int) then (if (rd x6 x27) < 0 then (spec_Strategy.j2 k x6 y536 x27 x26 x27 true x527000 x527001 x527002 x528000 x528001) else (if (x528000.length : Int) > 0 then (spec_Strategy.j2 k x6 y536 x27 x26 x27 ((rd x6 x27) == 0) x527000 x527001 x527002 x528000 x528001) else (spec_Strategy.j2 k x6 y536 x27 x26 x27 false x527000 x527001 x527002 x528000 x528001))) else (none)) else (spec_Strategy.j2 k x6 y536 x27 x26 x27 true x527000 x527001 x527002 x528000 x528001)) else (none))) else (none)) else (none)) else (some (x7,true))
def spec_Strategy.j2 : Nat → List Int → List Int → Int → Int → Int → Bool → List ByteArray → List Bool → List (List Int) → List ByteArray → List ByteArray → Option (List Int × Bool)
  | 0,_,_,_,_,_,_,_,_,_,_,_ => none
  | k + 1,x6,x7,x8,x26,x27,x58,x527000,x527001,x527002,x528000,x528001 => if x58 = true then (spec_Strategy.l0 k x6 x7 x26 (wrap64 (x27 + 1)) x527000 x527001 x527002 x528000 x528001) else (if 0 ≤ x8 then (if x8 < (x527002.length : Int) then (spec_Strategy.l1 k x6 x7 x8 x26 x27 (rd_L3 x527002 x8) ((rd_L3 x527002 x8).length : Int) 0 x527000 x527001 x527002 x528000 x528001) else (none)) else (none))
def spec_Strategy.l1 : Nat → List Int → List Int → Int → Int → Int → List Int → Int → Int → List ByteArray → List Bool → List (List Int) → List ByteArray → List ByteArray → Option (List Int × Bool)
  | 0,_,_,_,_,_,_,_,_,_,_,_,_,_ => none
  | k + 1,x6,x7,x8,x26,x27,x63,x64,x65,x527000,x527001,x527002,x528000,x528001 => if x65 < x64 then (if 0 ≤ x65 then (if x65 < (x63.length : Int) then (if 0 ≤ (rd x63 x65) then (if (rd x63 x65) < (x6.length : Int) then (if (rd x6 (rd x63 x65)) ≥ 0 then (if 0 ≤ x8 then (if x8 < (x7.length : Int) then (if (rd x7 x8) < 0 then (spec_Strategy.l1 k x6 (x7.set (x8 : Int).toNat (rd x63 x65)) x8 x26 x27 x63 x64 (wrap64 (x65 + 1)) x527000 x527001 x527002 x528000 x528001) else (if 0 ≤ (rd x7 x8) then (if (rd x7 x8) < (x6.length : Int) then (if (rd x6 (rd x63 x65)) < (rd x6 (rd x7 x8)) then (spec_Strategy.l1 k x6 (x7.set (x8 : Int).toNat (rd x63 x65)) x8 x26 x27 x63 x64 (wrap64 (x65 + 1)) x527000 x527001 x527002 x528000 x528001) else (spec_Strategy.l1 k x6 x7 x8 x26 x27 x63 x64 (wrap64 (x65 + 1)) x527000 x527001 x527002 x528000 x528001)) else (none)) else (none))) else (none)) else (none)) else (spec_Strategy.l1 k x6 x7 x8 x26 x27 x63 x64 (wrap64 (x65 + 1)) x527000 x527001 x527002 x528000 x528001)) else (none)) else (none)) else (none)) else (none)) else (spec_Strategy.l0 k x6 x7 x26 (wrap64 (x27 + 1)) x527000 x527001 x527002 x528000 x528001)
end
def spec_Strategy.f (k : Nat) (l0_0 : List ByteArray) (l0_1 : List Bool) (l0_2 : List (List Int)) (l1_0 : List ByteArray) (l1_1 : List ByteArray) : Option (List Int × Bool):=(spec_GoodBoard.f k l0_0 l0_1 l0_2).bind fun t528 => (if t528 = true then ((spec_l22Good.f k l1_0 l1_1).bind fun t529 => (spec_Strategy.j0 k (!t529) l0_0 l0_1 l0_2 l1_0 l1_1)) else (spec_Strategy.j0 k true l0_0 l0_1 l0_2 l1_0 l1_1))
/-! ### impl_Strategy: function 26 -/
mutual
def impl_Strategy.j0 : Nat → Bool → List ByteArray → List Bool → List (List Int) → List ByteArray → List ByteArray → Option (List Int × Bool)
  | 0,_,_,_,_,_,_ => none
  | k + 1,x20,x550000,x550001,x550002,x551000,x551001 => if x20 = true then (some (([] : List Int),false)) else ((impl_Board_wins.f k x550000 x550001 x550002 x551000 x551001).bind fun t553 => (impl_Strategy.l0 k t553 ([] : List Int) t553 (t553.length : Int) 0 x550000 x550001 x550002 x551000 x551001))
def impl_Strategy.l0 : Nat → List Int → List Int → List Int → Int → Int → List ByteArray → List Bool → List (List Int) → List ByteArray → List ByteArray → Option (List Int × Bool)
  | 0,_,_,_,_,_,_,_,_,_,_ => none
  | k + 1,x6,x7,x24,x25,x26,x550000,x550001,x550002,x551000,x551001 => if x26 < x25 then (if 0 ≤ x26 then (if x26 < (x24.length : Int) then (if x26 < (x550001.length : Int) then (if rdOf false x550001 x26 = true then (if (rd x24 x26) ≥ 0 then ((impl_Board_aims.f k x550000 x550001 x550002 x551000 x551001 x26).bind fun t558 => (impl_Strategy.j2 k x6 x7 x26 (-1) x24 x25 x26 (!t558) x550000 x550001 x550002 x551000 x551001)) else (impl_Strategy.j2 k x6 x7 x26 (-1) x24 x25 x26 false x550000 x550001 x550002 x551000 x551001)) else (impl_Strategy.j2 k x6 x7 x26 (-1) x24 x25 x26 false x550000 x550001 x550002 x551000 x551001)) else (none)) else (none)) else (none)) else (some (x7,true))
def impl_Strategy.j2 : Nat → List Int → List Int → Int → Int → List Int → Int → Int → Bool → List ByteArray → List Bool → List (List Int) → List ByteArray → List ByteArray → Option (List Int × Bool)
  | 0,_,_,_,_,_,_,_,_,_,_,_,_,_ => none
  | k + 1,x6,x7,x8,x10,x24,x25,x26,x46,x550000,x550001,x550002,x551000,x551001 => if x46 = true then (if 0 ≤ x8 then (if x8 < (x550002.length : Int) then (impl_Strategy.l1 k x6 x7 x10 x24 x25 x26 (rd_L3 x550002 x8) ((rd_L3 x550002 x8).length : Int) 0 x550000 x550001 x550002 x551000 x551001) else (none)) else (none)) else (if x7.length < 17592186044416 then (impl_Strategy.l0 k x6 (x7 ++ [x10]) x24 x25 (wrap64 (x26 + 1)) x550000 x550001 x550002 x551000 x551001) else (none))
def impl_Strategy.l1 : Nat → List Int → List Int → Int → List Int → Int → Int → List Int → Int → Int → List ByteArray → List Bool → List (List Int) → List ByteArray → List ByteArray → Option (List Int × Bool)
  | 0,_,_,_,_,_,_,_,_,_,_,_,_,_,_ => none
  | k + 1,x6,x7,x10,x24,x25,x26,x51,x52,x53,x550000,x550001,x550002,x551000,x551001 => if x53 < x52 then (if 0 ≤ x53 then (if x53 < (x51.length : Int) then (if 0 ≤ (rd x51 x53) then (if (rd x51 x53) < (x6.length : Int) then (if (rd x6 (rd x51 x53)) ≥ 0 then (if x10 < 0 then (impl_Strategy.l1 k x6 x7 (rd x51 x53) x24 x25 x26 x51 x52 (wrap64 (x53 + 1)) x550000 x550001 x550002 x551000 x551001) else (if 0 ≤ x10 then (if x10 < (x6.length : Int) then (if (rd x6 (rd x51 x53)) < (rd x6 x10) then (impl_Strategy.l1 k x6 x7 (rd x51 x53) x24 x25 x26 x51 x52 (wrap64 (x53 + 1)) x550000 x550001 x550002 x551000 x551001) else (impl_Strategy.l1 k x6 x7 x10 x24 x25 x26 x51 x52 (wrap64 (x53 + 1)) x550000 x550001 x550002 x551000 x551001)) else (none)) else (none))) else (impl_Strategy.l1 k x6 x7 x10 x24 x25 x26 x51 x52 (wrap64 (x53 + 1)) x550000 x550001 x550002 x551000 x551001)) else (none)) else (none)) else (none)) else (none)) else (if x7.length < 17592186044416 then (impl_Strategy.l0 k x6 (x7 ++ [x10]) x24 x25 (wrap64 (x26 + 1)) x550000 x550001 x550002 x551000 x551001) else (none))
end
def impl_Strategy.f (k : Nat) (l0_0 : List ByteArray) (l0_1 : List Bool) (l0_2 : List (List Int)) (l1_0 : List ByteArray) (l1_1 : List ByteArray) : Option (List Int × Bool):=(impl_GoodBoard.f k l0_0 l0_1 l0_2).bind fun t551 => (if t551 = true then ((impl_goodWish.f l1_0 l1_1).bind fun t552 => (impl_Strategy.j0 k (!t552) l0_0 l0_1 l0_2 l1_0 l1_1)) else (impl_Strategy.j0 k true l0_0 l0_1 l0_2 l1_0 l1_1))
/-! ### spec_PlayBoard: function 39 -/
mutual
def spec_PlayBoard.j0 : Nat → List Int → Int → List Int → Bool → List ByteArray → List Bool → List (List Int) → Option (List Int × Bool)
  | 0,_,_,_,_,_,_,_ => none
  | k + 1,x1,x2,x3,x47,x633000,x633001,x633002 => if x47 = true then (some (([] : List Int),false)) else (spec_PlayBoard.l0 k x1 x2 x3 x3 (x3.length : Int) 0 x633000 x633001 x633002)
def spec_PlayBoard.l0 : Nat → List Int → Int → List Int → List Int → Int → Int → List ByteArray → List Bool → List (List Int) → Option (List Int × Bool)
  | 0,_,_,_,_,_,_,_,_,_ => none
  | k + 1,x1,x2,x3,x48,x49,x50,x633000,x633001,x633002 => if x50 < x49 then (if 0 ≤ x50 then (if x50 < (x48.length : Int) then (if (rd x48 x50) < 0 then (some (([] : List Int),false)) else (spec_PlayBoard.l0 k x1 x2 x3 x48 x49 (wrap64 (x50 + 1)) x633000 x633001 x633002)) else (none)) else (none)) else (spec_PlayBoard.l1 k x1 (([x2] : List Int)) x2 x3 (x3.length : Int) 0 x633000 x633001 x633002)
def spec_PlayBoard.l1 : Nat → List Int → List Int → Int → List Int → Int → Int → List ByteArray → List Bool → List (List Int) → Option (List Int × Bool)
  | 0,_,_,_,_,_,_,_,_,_ => none
  | k + 1,x1,x12,x13,x60,x61,x62,x633000,x633001,x633002 => if x62 < x61 then (if 0 ≤ x62 then (if x62 < (x60.length : Int) then (if 0 ≤ x13 then (if x13 < (x633002.length : Int) then (if ((rd_L3 x633002 x13).length : Int) = 0 then (some (x12,true)) else (if 0 ≤ (Int.tmod (rd x60 x62) ((rd_L3 x633002 x13).length : Int)) then (if (Int.tmod (rd x60 x62) ((rd_L3 x633002 x13).length : Int)) < ((rd_L3 x633002 x13).length : Int) then (if x13 < (x633001.length : Int) then (if rdOf false x633001 x13 = true then (if x13 < (x1.length : Int) then (if (rd x1 x13) = (-1) then (some (x12,true)) else (spec_PlayBoard.l2 k x1 x12 (rd x1 x13) false x60 x61 x62 (rd_L3 x633002 x13) ((rd_L3 x633002 x13).length : Int) 0 x633000 x633001 x633002)) else (none)) else (if x12.length < 17592186044416 then (spec_PlayBoard.l1 k x1 (x12 ++ [rd (rd_L3 x633002 x13) (Int.tmod (rd x60 x62) ((rd_L3 x633002 x13).length : Int))]) (rd (rd_L3 x633002 x13) (Int.tmod (rd x60 x62) ((rd_L3 x633002 x13).length : Int))) x60 x61 (wrap64 (x62 + 1)) x633000 x633001 x633002) else (none))) else (none)) else (none)) else (none))) else (none)) else (none)) else (none)) else (none)) else (some (x12,true))
def spec_PlayBoard.l2 : Nat → List Int → List Int → Int → Bool → List Int → Int → Int → List Int → Int → Int → List ByteArray → List Bool → List (List Int) → Option (List Int × Bool)
  | 0,_,_,_,_,_,_,_,_,_,_,_,_,_ => none
  | k + 1,x1,x12,x17,x18,x60,x61,x62,x92,x93,x94,x633000,x633001,x633002 => if x94 < x93 then (if 0 ≤ x94 then (if x94 < (x92.length : Int) then (if x18 = true then (spec_PlayBoard.l2 k x1 x12 x17 true x60 x61 x62 x92 x93 (wrap64 (x94 + 1)) x633000 x633001 x633002) else (spec_PlayBoard.l2 k x1 x12 x17 ((rd x92 x94) == x17) x60 x61 x62 x92 x93 (wrap64 (x94 + 1)) x633000 x633001 x633002)) else (none)) else (none)) else (if x18 = true then (if x12.length < 17592186044416 then (spec_PlayBoard.l1 k x1 (x12 ++ [x17]) x17 x60 x61 (wrap64 (x62 + 1)) x633000 x633001 x633002) else (none)) else (some (([] : List Int),false)))
end
def spec_PlayBoard.f (k : Nat) (l0_0 : List ByteArray) (l0_1 : List Bool) (l0_2 : List (List Int)) (l1 : List Int) (a2 : Int) (l3 : List Int) : Option (List Int × Bool):=(spec_GoodBoard.f k l0_0 l0_1 l0_2).bind fun t633 => (if t633 = true then (if (l1.length : Int) = (l0_0.length : Int) then (if a2 < 0 then (spec_PlayBoard.j0 k l1 a2 l3 true l0_0 l0_1 l0_2) else (if a2 ≥ (l0_0.length : Int) then (spec_PlayBoard.j0 k l1 a2 l3 true l0_0 l0_1 l0_2) else (spec_PlayBoard.j0 k l1 a2 l3 (decide ((l3.length : Int) > 30)) l0_0 l0_1 l0_2))) else (spec_PlayBoard.j0 k l1 a2 l3 true l0_0 l0_1 l0_2)) else (spec_PlayBoard.j0 k l1 a2 l3 true l0_0 l0_1 l0_2))
/-! ### impl_PlayBoard: function 40 -/
mutual
def impl_PlayBoard.j0 : Nat → List Int → Int → List Int → Bool → List ByteArray → List Bool → List (List Int) → Option (List Int × Bool)
  | 0,_,_,_,_,_,_,_ => none
  | k + 1,x1,x2,x3,x41,x651000,x651001,x651002 => if x41 = true then (some (([] : List Int),false)) else (impl_PlayBoard.l0 k x1 x2 x3 x3 (x3.length : Int) 0 x651000 x651001 x651002)
def impl_PlayBoard.l0 : Nat → List Int → Int → List Int → List Int → Int → Int → List ByteArray → List Bool → List (List Int) → Option (List Int × Bool)
  | 0,_,_,_,_,_,_,_,_,_ => none
  | k + 1,x1,x2,x3,x42,x43,x44,x651000,x651001,x651002 => if x44 < x43 then (if 0 ≤ x44 then (if x44 < (x42.length : Int) then (if (rd x42 x44) < 0 then (some (([] : List Int),false)) else (impl_PlayBoard.l0 k x1 x2 x3 x42 x43 (wrap64 (x44 + 1)) x651000 x651001 x651002)) else (none)) else (none)) else (impl_PlayBoard.l1 k x1 (([x2] : List Int)) x2 x3 (x3.length : Int) 0 x651000 x651001 x651002)
def impl_PlayBoard.l1 : Nat → List Int → List Int → Int → List Int → Int → Int → List ByteArray → List Bool → List (List Int) → Option (List Int × Bool)
  | 0,_,_,_,_,_,_,_,_,_ => none
  | k + 1,x1,x12,x13,x54,x55,x56,x651000,x651001,x651002 => if x56 < x55 then (if 0 ≤ x56 then (if x56 < (x54.length : Int) then (if 0 ≤ x13 then (if x13 < (x651002.length : Int) then (if ((rd_L3 x651002 x13).length : Int) = 0 then (some (x12,true)) else (if x13 < (x651001.length : Int) then (if rdOf false x651001 x13 = true then (if x13 < (x1.length : Int) then (if (rd x1 x13) = (-1) then (some (x12,true)) else ((slices_Contains_int_int.f k (rd_L3 x651002 x13) (rd x1 x13)).bind fun t662 => (if t662 = true then (if x12.length < 17592186044416 then (impl_PlayBoard.l1 k x1 (x12 ++ [rd x1 x13]) (rd x1 x13) x54 x55 (wrap64 (x56 + 1)) x651000 x651001 x651002) else (none)) else (some (([] : List Int),false))))) else (none)) else (if 0 ≤ (Int.tmod (rd x54 x56) ((rd_L3 x651002 x13).length : Int)) then (if (Int.tmod (rd x54 x56) ((rd_L3 x651002 x13).length : Int)) < ((rd_L3 x651002 x13).length : Int) then (if x12.length < 17592186044416 then (impl_PlayBoard.l1 k x1 (x12 ++ [rd (rd_L3 x651002 x13) (Int.tmod (rd x54 x56) ((rd_L3 x651002 x13).length : Int))]) (rd (rd_L3 x651002 x13) (Int.tmod (rd x54 x56) ((rd_L3 x651002 x13).length : Int))) x54 x55 (wrap64 (x56 + 1)) x651000 x651001 x651002) else (none)) else (none)) else (none))) else (none))) else (none)) else (none)) else (none)) else (none)) else (some (x12,true))
end
def impl_PlayBoard.f (k : Nat) (l0_0 : List ByteArray) (l0_1 : List Bool) (l0_2 : List (List Int)) (l1 : List Int) (a2 : Int) (l3 : List Int) : Option (List Int × Bool):=(impl_GoodBoard.f k l0_0 l0_1 l0_2).bind fun t651 => (if t651 = true then (if (l1.length : Int) = (l0_0.length : Int) then ((impl_between.f a2 0 (wrap64 ((l0_0.length : Int) - 1))).bind fun t652 => (if t652 = true then (impl_PlayBoard.j0 k l1 a2 l3 (decide ((l3.length : Int) > 30)) l0_0 l0_1 l0_2) else (impl_PlayBoard.j0 k l1 a2 l3 true l0_0 l0_1 l0_2))) else (impl_PlayBoard.j0 k l1 a2 l3 true l0_0 l0_1 l0_2)) else (impl_PlayBoard.j0 k l1 a2 l3 true l0_0 l0_1 l0_2))
/-- A state of type 99 at block g of W; what its slices lead to came in by w0. -/
def IsS99 (w0 W : World) (g : Nat) (f0 : List Int) (f1 : Int) (f2 : Int) : Prop:=∃ A0 c0,W.heap[g]? = some (.cells #[.slice A0 f0.length c0,.int .i64 f1,.int .u64 f2] 99 (0,0)) ∧ w0.heap.size ≤ g ∧ Kd.C (Kd.int .u8) w0 A0 f0.length f0
theorem IsS99.grown {w0 W : World} {g : Nat} {f0 : List Int} {f1 : Int} {f2 : Int} {W1 : World} {row : Option Nat} (h : IsS99 w0 W g f0 f1 f2) (hw : W.grownBy W1 row) (hne : some g ≠ row) : IsS99 w0 W1 g f0 f1 f2:=by
  obtain ⟨A0,c0,hb,hg,hr0⟩:=h;exact ⟨A0,c0,blk_grown hb hw hne,hg,hr0⟩
theorem IsS99.own_neN {w0 W : World} {g : Nat} {f0 : List Int} {f1 : Int} {f2 : Int} {α : Type} {d : Kd α} {e : Nat} {base : Nat} {ok : Nat → Prop} {v : Value} {xs : List α} (h : IsS99 w0 W g f0 f1 f2) (ho : Kd.N d e W base ok v xs) (ht : e ≠ 99) : some g ≠ v.ownBlock:=by
  obtain ⟨A0,c0,hb,hg,hr0⟩:=h;exact Kd.N_ne ho hb ht
theorem IsS99.fresh {w0 W : World} {g : Nat} {f0 : List Int} {f1 : Int} {f2 : Int} (h : IsS99 w0 W g f0 f1 f2) : ∀ k,W.heap.size ≤ k → k ≠ g:=by
  obtain ⟨A0,c0,hb,hg,hr0⟩:=h;exact Kd.freshB hb
theorem IsS99.kept {w0 W : World} {g : Nat} {f0 : List Int} {f1 : Int} {f2 : Int} {W1 : World} {S : Nat → Prop} (h : IsS99 w0 W g f0 f1 f2) (hk : Kept W W1 S) (hne : ¬ S g) : IsS99 w0 W1 g f0 f1 f2:=by
  obtain ⟨A0,c0,hb,hg,hr0⟩:=h;exact ⟨A0,c0,blk_kept hb hk hne,hg,hr0⟩
theorem IsS99.below {w0 W : World} {g : Nat} {f0 : List Int} {f1 : Int} {f2 : Int} {W1 : World} (h : IsS99 w0 W g f0 f1 f2) (hw : Below W.heap.size W W1) : IsS99 w0 W1 g f0 f1 f2:=h.grown (grown_of_below hw none) (by simp)
theorem IsS99.alloc {w0 W : World} {g : Nat} {f0 : List Int} {f1 : Int} {f2 : Int} (h : IsS99 w0 W g f0 f1 f2) (o : Obj) : IsS99 w0 (W.alloc o) g f0 f1 f2:=h.below (below_alloc (Below.refl _ _) o)
theorem IsS99.drewN {w0 W : World} {g : Nat} {f0 : List Int} {f1 : Int} {f2 : Int} (h : IsS99 w0 W g f0 f1 f2) (m : Nat) : IsS99 w0 (W.drewN m) g f0 f1 f2:=h
theorem IsS99.drew {w0 W : World} {g : Nat} {f0 : List Int} {f1 : Int} {f2 : Int} (h : IsS99 w0 W g f0 f1 f2) : IsS99 w0 W.drew g f0 f1 f2:=h
theorem IsS99.at_ {w0 W : World} {g : Nat} {f0 : List Int} {f1 : Int} {f2 : Int} {w' : World} {m : Nat} (hq : W.drewN m = w') (h : IsS99 w0 W g f0 f1 f2) : IsS99 w0 w' g f0 f1 f2:=by subst hq;exact IsS99.drewN h m
theorem IsS99.apart {w0 W : World} {g : Nat} {f0 : List Int} {f1 : Int} {f2 : Int} {α : Type} {d : Kd α} {e : Nat} {base : Nat} {ok : Nat → Prop} {v : Value} {xs : List α} (h : IsS99 w0 W g f0 f1 f2) (ho : d.R e W base ok v xs) (ht : ∀ q,q ∈ e :: d.E → q ≠ 99) : d.R e W base (fun k => ok k ∧ k ≠ g) v xs:=by
  obtain ⟨A0,c0,hb,hg,hr0⟩:=h;exact Kd.R_types ho hb ht
theorem IsS99.own_ne {w0 W : World} {g : Nat} {f0 : List Int} {f1 : Int} {f2 : Int} {α : Type} {d : Kd α} {e : Nat} {base : Nat} {ok : Nat → Prop} {v : Value} {xs : List α} (h : IsS99 w0 W g f0 f1 f2) (ho : d.R e W base ok v xs) (ht : e ≠ 99) : some g ≠ v.ownBlock:=by
  obtain ⟨A0,c0,hb,hg,hr0⟩:=h;exact Kd.R_ne ho hb ht
theorem IsS99.lt {w0 W : World} {g : Nat} {f0 : List Int} {f1 : Int} {f2 : Int} (h : IsS99 w0 W g f0 f1 f2) : g < W.heap.size:=by
  obtain ⟨A0,c0,hb,hg,hr0⟩:=h;exact blk_lt hb
theorem IsS99.ge {w0 W : World} {g : Nat} {f0 : List Int} {f1 : Int} {f2 : Int} (h : IsS99 w0 W g f0 f1 f2) : w0.heap.size ≤ g:=by
  obtain ⟨A0,c0,hb,hg,hr0⟩:=h;exact hg
theorem IsS99.far {w0 W : World} {g : Nat} {f0 : List Int} {f1 : Int} {f2 : Int} {p : Addr} (h : IsS99 w0 W g f0 f1 f2) (hne : g ≠ p.block) (u : Value) : IsS99 w0 (W.setCell p u) g f0 f1 f2:=by
  obtain ⟨A0,c0,hb,hg,hr0⟩:=h;exact ⟨A0,c0,blk_far hb hne u,hg,hr0⟩
theorem cellS99_0 {W : World} {g : Nat} {A0 : Option Addr} {c0 : Nat} {f0 : List Int} {f1 : Int} {f2 : Int} (h : W.heap[g]? = some (.cells #[.slice A0 f0.length c0,.int .i64 f1,.int .u64 f2] 99 (0,0))) : W.cell? ⟨g,0,none⟩ = some (.slice A0 f0.length c0):=(blk_cell h 0).trans rfl
theorem cellS99_1 {W : World} {g : Nat} {A0 : Option Addr} {c0 : Nat} {f0 : List Int} {f1 : Int} {f2 : Int} (h : W.heap[g]? = some (.cells #[.slice A0 f0.length c0,.int .i64 f1,.int .u64 f2] 99 (0,0))) : W.cell? ⟨g,1,none⟩ = some (.int .i64 f1):=(blk_cell h 1).trans rfl
theorem IsS99.set_1 {w0 W : World} {g : Nat} {f0 : List Int} {f1 : Int} {f2 : Int} (h : IsS99 w0 W g f0 f1 f2) (x : Int) : IsS99 w0 (W.setCell ⟨g,1,none⟩ (.int .i64 x)) g f0 x f2:=by
  obtain ⟨A0,c0,hb,hg,hr0⟩:=h;exact ⟨A0,c0,by simpa using blk_set hb 1 (.int .i64 x),hg,hr0⟩
theorem cellS99_2 {W : World} {g : Nat} {A0 : Option Addr} {c0 : Nat} {f0 : List Int} {f1 : Int} {f2 : Int} (h : W.heap[g]? = some (.cells #[.slice A0 f0.length c0,.int .i64 f1,.int .u64 f2] 99 (0,0))) : W.cell? ⟨g,2,none⟩ = some (.int .u64 f2):=(blk_cell h 2).trans rfl
theorem IsS99.set_2 {w0 W : World} {g : Nat} {f0 : List Int} {f1 : Int} {f2 : Int} (h : IsS99 w0 W g f0 f1 f2) (x : Int) : IsS99 w0 (W.setCell ⟨g,2,none⟩ (.int .u64 x)) g f0 f1 x:=by
  obtain ⟨A0,c0,hb,hg,hr0⟩:=h;exact ⟨A0,c0,by simpa using blk_set hb 2 (.int .u64 x),hg,hr0⟩
theorem IsS99.new (w0 W : World) (A0 : Option Addr) (c0 : Nat) (f0 : List Int) (f1 : Int) (f2 : Int) (hB : Below w0.heap.size w0 W) (hr0 : Kd.C (Kd.int .u8) w0 A0 f0.length f0) : IsS99 w0 (W.alloc (.cells #[.slice A0 f0.length c0,.int .i64 f1,.int .u64 f2] 99)) W.heap.size f0 f1 f2:=⟨A0,c0,by simpa using heap_alloc_new W _,hB.size,hr0⟩

/-! ### spec_l1Cur_next: function 102 -/
def spec_l1Cur_next.f (s0_0 : List Int) (s0_1 : Int) (s0_2 : Int) : Option (Int × Int × Int):=if s0_1 < (s0_0.length : Int) then (if 0 ≤ s0_1 then (if (wrap64 (s0_1 + 1)) ≤ (s0_0.length : Int) then (some (wrap64 (rd s0_0 s0_1),wrap64 (s0_1 + 1),IntKind.u64.wrap ((IntKind.u64.wrap ((IntKind.u64.wrap (s0_2 * 6364136223846793005)) + (IntKind.u64.wrap (wrap64 (rd s0_0 s0_1))))) + 1442695040888963407))) else (some (wrap64 (Go.bits .and .u64 ((IntKind.u64.wrap ((IntKind.u64.wrap ((IntKind.u64.wrap (s0_2 * 6364136223846793005)) + (IntKind.u64.wrap (wrap64 (rd s0_0 s0_1))))) + 1442695040888963407)) / 1099511627776) 255),wrap64 (s0_1 + 1),IntKind.u64.wrap ((IntKind.u64.wrap ((IntKind.u64.wrap (s0_2 * 6364136223846793005)) + (IntKind.u64.wrap (wrap64 (rd s0_0 s0_1))))) + 1442695040888963407)))) else (none)) else (if (wrap64 (s0_1 + 1)) ≤ (s0_0.length : Int) then (some (0,wrap64 (s0_1 + 1),IntKind.u64.wrap ((IntKind.u64.wrap ((IntKind.u64.wrap (s0_2 * 6364136223846793005)) + 0)) + 1442695040888963407))) else (some (wrap64 (Go.bits .and .u64 ((IntKind.u64.wrap ((IntKind.u64.wrap ((IntKind.u64.wrap (s0_2 * 6364136223846793005)) + 0)) + 1442695040888963407)) / 1099511627776) 255),wrap64 (s0_1 + 1),IntKind.u64.wrap ((IntKind.u64.wrap ((IntKind.u64.wrap (s0_2 * 6364136223846793005)) + 0)) + 1442695040888963407))))

/-! ### spec_l1Cur_pick: function 82 -/
def spec_l1Cur_pick.f (s0_0 : List Int) (s0_1 : Int) (s0_2 : Int) (a1 : Int) : Option (Int × Int × Int):=if a1 ≤ 1 then (some (0,s0_1,s0_2)) else ((spec_l1Cur_next.f s0_0 s0_1 s0_2).bind fun bt732 => (if a1 > 200 then ((spec_l1Cur_next.f s0_0 bt732.2.1 bt732.2.2).bind fun bt735 => (if a1 = 0 then (none) else (some (Int.tmod (wrap64 ((wrap64 (bt732.1 * 256)) + bt735.1)) a1,bt735.2.1,bt735.2.2)))) else (if a1 = 0 then (none) else (some (Int.tmod bt732.1 a1,bt732.2.1,bt732.2.2)))))

/-! ### spec_l1Cur_of: function 84 -/
def spec_l1Cur_of.f (s0_0 : List Int) (s0_1 : Int) (s0_2 : Int) (l1 : List ByteArray) : Option (ByteArray × Int × Int):=(spec_l1Cur_pick.f s0_0 s0_1 s0_2 (l1.length : Int)).bind fun bt738 => (if 0 ≤ bt738.1 then (if bt738.1 < (l1.length : Int) then (some (rdOf ByteArray.empty l1 bt738.1,bt738.2.1,bt738.2.2)) else (none)) else (none))

/-! ### spec_l1Cur_name: function 107 -/
def spec_l1Cur_name.f (s0_0 : List Int) (s0_1 : Int) (s0_2 : Int) : Option (ByteArray × Int × Int):=(spec_l1Cur_of.f s0_0 s0_1 s0_2 (([(⟨#[100,111,99,107]⟩ : ByteArray),(⟨#[104,97,108,108]⟩ : ByteArray),(⟨#[112,105,116]⟩ : ByteArray),(⟨#[108,97,98]⟩ : ByteArray),(⟨#[84,195,188,114]⟩ : ByteArray),(⟨#[206,182]⟩ : ByteArray),(⟨#[208,188,208,190,209,129,209,130]⟩ : ByteArray),(⟨#[97]⟩ : ByteArray),(⟨#[230,151,165,230,156,172]⟩ : ByteArray),(⟨#[97,98,99,100,101,102,103,104,105,106,107,108]⟩ : ByteArray),(⟨#[108,105,102,116]⟩ : ByteArray)] : List ByteArray))).bind fun bt745 => (some (bt745.1,bt745.2.1,bt745.2.2))

/-! ### spec_l1Cur_one: function 108 -/
def spec_l1Cur_one.f (s0_0 : List Int) (s0_1 : Int) (s0_2 : Int) (a1 : Int) : Option (Bool × Int × Int):=(spec_l1Cur_pick.f s0_0 s0_1 s0_2 a1).bind fun bt748 => (some ((bt748.1 == 0),bt748.2.1,bt748.2.2))

/-! ### spec_l1Cur_names: function 101 -/
def spec_l1Cur_names.l0 : Nat → List ByteArray → Int → List Int → Int → Int → Option (List ByteArray × Int × Int)
  | 0,_,_,_,_,_ => none
  | k + 1,x3,x4,x1000,x1001,x1002 => if x4 > 0 then ((spec_l1Cur_name.f x1000 x1001 x1002).bind fun bt754 => ((spec_l22In.f k x3 bt754.1).bind fun t757 => (if t757 = true then ((spec_l1Cur_one.f x1000 bt754.2.1 bt754.2.2 16).bind fun bt758 => (if bt758.1 = true then (if x3.length < 8796093022208 then (spec_l1Cur_names.l0 k (x3 ++ [bt754.1]) (wrap64 (x4 - 1)) x1000 bt758.2.1 bt758.2.2) else (none)) else (spec_l1Cur_names.l0 k x3 (wrap64 (x4 - 1)) x1000 bt758.2.1 bt758.2.2))) else (if x3.length < 8796093022208 then (spec_l1Cur_names.l0 k (x3 ++ [bt754.1]) (wrap64 (x4 - 1)) x1000 bt754.2.1 bt754.2.2) else (none))))) else ((spec_l1Cur_pick.f x1000 x1001 x1002 30).bind fun bt767 => (if bt767.1 = 0 then ((spec_l1Cur_of.f x1000 bt767.2.1 bt767.2.2 (([(⟨#[]⟩ : ByteArray),(⟨#[97,32,98]⟩ : ByteArray),(⟨#[97,98,99,100,101,102,103,104,105,106,107,108,109]⟩ : ByteArray),(⟨#[120,49]⟩ : ByteArray),(⟨#[114,101,97,99,104]⟩ : ByteArray),(⟨#[97,118,111,105,100]⟩ : ByteArray),(⟨#[255]⟩ : ByteArray),(⟨#[206,182,206,182,206,182,206,182,206,182,206,182,206,182,206,182,206,182,206,182,206,182,206,182]⟩ : ByteArray),(⟨#[206,182,206,182,206,182,206,182,206,182,206,182,206,182,206,182,206,182,206,182,206,182,206,182,206,182]⟩ : ByteArray)] : List ByteArray))).bind fun bt773 => (if x3.length < 8796093022208 then (some ((x3 ++ [bt773.1]),bt773.2.1,bt773.2.2)) else (none))) else (if bt767.1 = 1 then ((some (([(⟨#[112]⟩ : ByteArray),(⟨#[113]⟩ : ByteArray),(⟨#[114]⟩ : ByteArray),(⟨#[115]⟩ : ByteArray),(⟨#[116]⟩ : ByteArray),(⟨#[117]⟩ : ByteArray)] : List ByteArray) : List ByteArray)).bind fun y779 => (if x3.length + y779.length < 8796093022208 then (some ((x3 ++ y779),bt767.2.1,bt767.2.2)) else (none))) else (some (x3,bt767.2.1,bt767.2.2)))))
def spec_l1Cur_names.f (k : Nat) (s0_0 : List Int) (s0_1 : Int) (s0_2 : Int) : Option (List ByteArray × Int × Int):=(spec_l1Cur_pick.f s0_0 s0_1 s0_2 4).bind fun bt751 => (spec_l1Cur_names.l0 k ([] : List ByteArray) bt751.1 s0_0 bt751.2.1 bt751.2.2)
/-! ### spec_l1Cur_wish: function 80 -/
def spec_l1Cur_wish.f (k : Nat) (s0_0 : List Int) (s0_1 : Int) (s0_2 : Int) : Option (List ByteArray × List ByteArray × Int × Int):=(spec_l1Cur_names.f k s0_0 s0_1 s0_2).bind fun bt786 => ((spec_l1Cur_names.f k s0_0 bt786.2.1 bt786.2.2).bind fun bt791 => (some (bt786.1,bt791.1,bt791.2.1,bt791.2.2)))
/-! ### spec_l1Cur_among: function 109 -/
def spec_l1Cur_among.f (s0_0 : List Int) (s0_1 : Int) (s0_2 : Int) (l1 : List Int) : Option (Int × Int × Int):=(spec_l1Cur_pick.f s0_0 s0_1 s0_2 (l1.length : Int)).bind fun bt796 => (if 0 ≤ bt796.1 then (if bt796.1 < (l1.length : Int) then (some (rd l1 bt796.1,bt796.2.1,bt796.2.2)) else (none)) else (none))

/-! ### spec_l1Cur_board: function 103 -/
mutual
def spec_l1Cur_board.j0 : Nat → Int → List Int → Int → Int → Option (List ByteArray × List Bool × (List (List Int)) × Int × Int)
  | 0,_,_,_,_ => none
  | k + 1,x4,x1000,x1001,x1002 => spec_l1Cur_board.l0 k x4 0 x1000 x1001 x1002 ([] : List ByteArray) ([] : List Bool) ([] : List (List Int))
def spec_l1Cur_board.l0 : Nat → Int → Int → List Int → Int → Int → List ByteArray → List Bool → List (List Int) → Option (List ByteArray × List Bool × (List (List Int)) × Int × Int)
  | 0,_,_,_,_,_,_,_,_ => none
  | k + 1,x4,x5,x1000,x1001,x1002,x802000,x802001,x802002 => if x5 < x4 then ((spec_l1Cur_one.f x1000 x1001 x1002 2).bind fun bt814 => (if bt814.1 = true then ((spec_l1Cur_name.f x1000 bt814.2.1 bt814.2.2).bind fun bt817 => (spec_l1Cur_board.j2 k x4 x5 bt817.1 x1000 bt817.2.1 bt817.2.2 x802000 x802001 x802002)) else (spec_l1Cur_board.j2 k x4 x5 (⟨#[]⟩ : ByteArray) x1000 bt814.2.1 bt814.2.2 x802000 x802001 x802002))) else ((spec_l1Cur_pick.f x1000 x1001 x1002 30).bind fun bt838 => (if bt838.1 = 0 then (if x802001.length < 140737488355328 then (some (x802000,(x802001 ++ [true]),x802002,bt838.2.1,bt838.2.2)) else (none)) else (if bt838.1 = 1 then (if x4 > 0 then ((spec_l1Cur_pick.f x1000 bt838.2.1 bt838.2.2 (wrap64 (x4 + 1))).bind fun bt844 => (if 0 < (x802002.length : Int) then (some (x802000,x802001,(x802002.set (0 : Int).toNat (([bt844.1,0] : List Int))),bt844.2.1,bt844.2.2)) else (none))) else (some (x802000,x802001,x802002,bt838.2.1,bt838.2.2))) else (if bt838.1 = 2 then (if x4 > 0 then (if 0 < (x802000.length : Int) then (some ((x802000.set (0 : Int).toNat (⟨#[120,32,121]⟩ : ByteArray)),x802001,x802002,bt838.2.1,bt838.2.2)) else (none)) else (some (x802000,x802001,x802002,bt838.2.1,bt838.2.2))) else (some (x802000,x802001,x802002,bt838.2.1,bt838.2.2))))))
def spec_l1Cur_board.j2 : Nat → Int → Int → ByteArray → List Int → Int → Int → List ByteArray → List Bool → List (List Int) → Option (List ByteArray × List Bool × (List (List Int)) × Int × Int)
  | 0,_,_,_,_,_,_,_,_,_ => none
  | k + 1,x4,x5,x6,x1000,x1001,x1002,x802000,x802001,x802002 => spec_l1Cur_board.l1 k x4 x5 x6 ([] : List Int) 0 x1000 x1001 x1002 x802000 x802001 x802002
def spec_l1Cur_board.l1 : Nat → Int → Int → ByteArray → List Int → Int → List Int → Int → Int → List ByteArray → List Bool → List (List Int) → Option (List ByteArray × List Bool × (List (List Int)) × Int × Int)
  | 0,_,_,_,_,_,_,_,_,_,_,_ => none
  | k + 1,x4,x5,x6,x7,x8,x1000,x1001,x1002,x802000,x802001,x802002 => if x8 < x4 then ((spec_l1Cur_one.f x1000 x1001 x1002 3).bind fun bt820 => (if bt820.1 = true then (if x7.length < 17592186044416 then (spec_l1Cur_board.l1 k x4 x5 x6 (x7 ++ [x8]) (wrap64 (x8 + 1)) x1000 bt820.2.1 bt820.2.2 x802000 x802001 x802002) else (none)) else (spec_l1Cur_board.l1 k x4 x5 x6 x7 (wrap64 (x8 + 1)) x1000 bt820.2.1 bt820.2.2 x802000 x802001 x802002))) else (if x802000.length < 8796093022208 then ((spec_l1Cur_one.f x1000 x1001 x1002 2).bind fun bt829 => (if x802001.length < 140737488355328 then (if x802002.length < 5864062014805 then (spec_l1Cur_board.l0 k x4 (wrap64 (x5 + 1)) x1000 bt829.2.1 bt829.2.2 (x802000 ++ [x6]) (x802001 ++ [bt829.1]) (x802002 ++ [x7])) else (none)) else (none))) else (none))
end
def spec_l1Cur_board.f (k : Nat) (s0_0 : List Int) (s0_1 : Int) (s0_2 : Int) : Option (List ByteArray × List Bool × (List (List Int)) × Int × Int):=(spec_l1Cur_pick.f s0_0 s0_1 s0_2 8).bind fun bt802 => ((spec_l1Cur_one.f s0_0 bt802.2.1 bt802.2.2 16).bind fun bt805 => (if bt805.1 = true then ((spec_l1Cur_among.f s0_0 bt805.2.1 bt805.2.2 (([0,14,15] : List Int))).bind fun bt811 => (spec_l1Cur_board.j0 k bt811.1 s0_0 bt811.2.1 bt811.2.2)) else (spec_l1Cur_board.j0 k (wrap64 (1 + bt802.1)) s0_0 bt805.2.1 bt805.2.2)))
/-! ### spec_DrawWinningPlaces: function 85 -/
def spec_DrawWinningPlaces.f (k : Nat) (l0 : List Int) : Option (List ByteArray × List Bool × (List (List Int)) × List ByteArray × List ByteArray):=(spec_l1Cur_board.f k l0 0 0).bind fun bt855 => ((spec_l1Cur_wish.f k l0 bt855.2.2.2.1 bt855.2.2.2.2).bind fun bt866 => (some (bt855.1,bt855.2.1,bt855.2.2.1,bt866.1,bt866.2.1)))
/-! ### spec_DrawStrategy: function 44 -/
def spec_DrawStrategy.f (k : Nat) (l0 : List Int) : Option (List ByteArray × List Bool × (List (List Int)) × List ByteArray × List ByteArray):=(spec_DrawWinningPlaces.f k l0).bind fun bt876 => (some (bt876.1,bt876.2.1,bt876.2.2.1,bt876.2.2.2.1,bt876.2.2.2.2))
/-! ### spec_SameInts: function 45 -/
def spec_SameInts.l0 : Nat → List Int → List Int → Int → Int → Option (Bool)
  | 0,_,_,_,_ => none
  | k + 1,x0,x1,x12,x13 => if x13 < x12 then (if 0 ≤ x13 then (if x13 < (x0.length : Int) then (if x13 < (x1.length : Int) then (if (rd x0 x13) = (rd x1 x13) then (spec_SameInts.l0 k x0 x1 x12 (wrap64 (x13 + 1))) else (some false)) else (none)) else (none)) else (none)) else (some true)
def spec_SameInts.f (k : Nat) (l0 : List Int) (l1 : List Int) : Option (Bool):=if (l0.length : Int) = (l1.length : Int) then (spec_SameInts.l0 k l0 l1 (l0.length : Int) 0) else (some false)
/-! ### spec_SomeChoices: function 46 -/
def spec_SomeChoices.l0 : Nat → Int → List Int → List Int → Int → Int → Option (List Int)
  | 0,_,_,_,_,_ => none
  | k + 1,x1,x6,x894000,x894001,x894002 => if (x6.length : Int) < x1 then ((spec_l1Cur_pick.f x894000 x894001 x894002 14).bind fun bt894 => (if x6.length < 17592186044416 then (spec_SomeChoices.l0 k x1 (x6 ++ [bt894.1]) x894000 bt894.2.1 bt894.2.2) else (none))) else (some x6)
def spec_SomeChoices.f (k : Nat) (l0 : List Int) (a1 : Int) : Option (List Int):=spec_SomeChoices.l0 k a1 ([] : List Int) l0 0 0
/-! ### laws_FnWin: function 11 -/
mutual
def laws_FnWin.j0 : Nat → List Int → List Int → Bool → Option (Bool)
  | 0,_,_,_ => none
  | k + 1,x0,x1,x27 => if x27 = true then (some true) else ((spec_DrawStrategy.f k x0).bind fun bt900 => ((impl_WinningPlaces.f k bt900.1 bt900.2.1 bt900.2.2.1 bt900.2.2.2.1 bt900.2.2.2.2).bind fun bt917 => ((spec_WinningPlaces.f k bt900.1 bt900.2.1 bt900.2.2.1 bt900.2.2.2.1 bt900.2.2.2.2).bind fun bt921 => (if (bt917.2 != bt921.2) = true then (laws_FnWin.j1 k x1 bt917.1 bt917.2 true bt900.1 bt900.2.1 bt900.2.2.1 bt900.2.2.2.1 bt900.2.2.2.2) else ((spec_SameInts.f k bt917.1 bt921.1).bind fun t925 => (laws_FnWin.j1 k x1 bt917.1 bt917.2 (!t925) bt900.1 bt900.2.1 bt900.2.2.1 bt900.2.2.2.1 bt900.2.2.2.2))))))
def laws_FnWin.j1 : Nat → List Int → List Int → Bool → Bool → List ByteArray → List Bool → List (List Int) → List ByteArray → List ByteArray → Option (Bool)
  | 0,_,_,_,_,_,_,_,_,_ => none
  | k + 1,x1,x7,x8,x53,x916000,x916001,x916002,x917000,x917001 => if x53 = true then (some false) else ((impl_Strategy.f k x916000 x916001 x916002 x917000 x917001).bind fun bt926 => (if x8 = true then ((spec_SomeChoices.f k x1 20).bind fun t930 => (laws_FnWin.l0 k bt926.1 bt926.2 t930 x7 (x7.length : Int) 0 x916000 x916001 x916002 x917000 x917001)) else (some (!bt926.2))))
def laws_FnWin.l0 : Nat → List Int → Bool → List Int → List Int → Int → Int → List ByteArray → List Bool → List (List Int) → List ByteArray → List ByteArray → Option (Bool)
  | 0,_,_,_,_,_,_,_,_,_,_,_ => none
  | k + 1,x11,x12,x13,x66,x67,x68,x916000,x916001,x916002,x917000,x917001 => if x68 < x67 then (if 0 ≤ x68 then (if x68 < (x66.length : Int) then ((impl_PlayBoard.f k x916000 x916001 x916002 x11 (rd x66 x68) x13).bind fun bt934 => (if x12 = true then (laws_FnWin.j3 k x11 x12 x13 bt934.1 x66 x67 x68 (!bt934.2) x916000 x916001 x916002 x917000 x917001) else (laws_FnWin.j3 k x11 x12 x13 bt934.1 x66 x67 x68 true x916000 x916001 x916002 x917000 x917001))) else (none)) else (none)) else (some true)
def laws_FnWin.j3 : Nat → List Int → Bool → List Int → List Int → List Int → Int → Int → Bool → List ByteArray → List Bool → List (List Int) → List ByteArray → List ByteArray → Option (Bool)
  | 0,_,_,_,_,_,_,_,_,_,_,_,_,_ => none
  | k + 1,x11,x12,x13,x16,x66,x67,x68,x85,x916000,x916001,x916002,x917000,x917001 => if x85 = true then (some false) else ((impl_WishMet.f k x916000 x916001 x916002 x917000 x917001 x16).bind fun bt938 => (if bt938.2 = true then (if bt938.1 = true then (laws_FnWin.l0 k x11 x12 x13 x66 x67 (wrap64 (x68 + 1)) x916000 x916001 x916002 x917000 x917001) else (some false)) else (some false)))
end
def laws_FnWin.f (k : Nat) (l0 : List Int) (l1 : List Int) : Option (Bool):=if (l0.length : Int) > 1048576 then (laws_FnWin.j0 k l0 l1 true) else (laws_FnWin.j0 k l0 l1 (decide ((l1.length : Int) > 1048576)))
end Go.Proofs.YtdihodboopeakaaDoor.Pr
/-
  DERIVED: THE SHELF's CONTRACTS AT THIS DUMP,IN PLAIN WORDS (tools/lay-plain.mjs out of 'YtdihodboopeakaaDoorSxb.lean',which tools/lay-shelf.mjs wrote): THE SAME DECLARATIONS UNDER THE SAME NAMES: 'import','namespace','open','def','theorem' AND NOTHING ELSE: no command of the shelf's: FOR A HAND-IN. Each laying: the table of numbers ('.._ren') and one theorem,a field a fact of the dump's own or the kernel's comparison;each contract: ONE APPLICATION.
-/
namespace Go.Proofs
open Go.Shelf
def Tryd.laysNm215_ren : Go.Shelf.Ren:=⟨fun | 15 => 89 | n => n,fun | 22 => 31 | 3 => 3 | 4 => 4 | n => n,fun | n => n⟩
theorem Tryd.laysNm215 : Go.Proofs.Lays2.n15 Tryd.prog Tryd.laysNm215_ren:={
  mixed:=by kernel_rfl
  f15:=Tryd.func89.trans (congrArg some (by kernel_rfl))
  t3:=Tryd.underlying3
  a3:=Tryd.isAgg3
  z3:=Tryd.sizeOf3
  v3:=Tryd.zeroValue3
  t4:=Tryd.underlying4
  a4:=Tryd.isAgg4
  z4:=Tryd.sizeOf4
  v4:=Tryd.zeroValue4
  t22:=Tryd.underlying31
  a22:=Tryd.isAgg31
  z22:=Tryd.sizeOf31
  v22:=Tryd.zeroValue31
  i3:=by kernel_rfl }
open Go.RowKit Go.Lib in
theorem Tryd.slices_Clone_int (b off n c : Nat) (zs : List Int) (w : World) (hz : n ≤ zs.length) (hbig : n * 8 ≤ 140737488355328) (hc : ∀ j,j < zs.length → w.cell? ⟨b,off + j,none⟩ = some (.int .i64 (zs.getD j 0))) :
    Calls Tryd.prog 89 #[.slice (some ⟨b,off,none⟩) n c] w fun e w' => ∃ v',e = .returned v' ∧ w'.ownsRow w.heap.size 3 1 v' n ((zs.take n).map (Value.int .i64)) ∧ v' ≠ .slice none 0 0 ∧ Below w.heap.size w w':=Any.slices_Clone_int Tryd.laysNm215 b off n c zs w hz hbig hc
open Go.RowKit Go.Lib in
theorem Tryd.slices_Clone_int_nil (n c : Nat) (w : World) :
    Calls Tryd.prog 89 #[.slice none n c] w fun e w' => e = .returned (.slice none 0 0) ∧ w' = w:=Any.slices_Clone_int_nil Tryd.laysNm215 n c w
open Go.RowKit Go.Lib in
theorem Tryd.slices_Clone_int_zero (a : Addr) (c : Nat) (w : World) :
    Calls Tryd.prog 89 #[.slice (some a) 0 c] w fun e w' => ∃ v',e = .returned v' ∧ w'.ownsRow w.heap.size 3 1 v' 0 [] ∧ v' ≠ .slice none 0 0 ∧ Below w.heap.size w w':=Any.slices_Clone_int_zero Tryd.laysNm215 a c w
end Go.Proofs
/- slices.Clone at []int, by the library's contract. -/
namespace Go.Proofs.YtdihodboopeakaaDoor.Pr
open Go.RowKit Go.Proofs.YtdihodboopeakaaDoorW.PrintWords Go.Proofs.YtdihodboopeakaaDoorW.PrintLast Go.Proofs.YtdihodboopeakaaDoorW.PrintMore
set_option linter.unusedVariables false
theorem slices_Clone_int_int.calls (A0 : Option Addr) (c0 : Nat) (l0 : List Int) (r : List Int) (w : World) (hr0 : Kd.C (Kd.int .i64) w A0 l0.length l0) (hc0 : l0.length ≤ c0) (h : slices_Clone_int_int.f l0 = some r) :
    Calls Tryd.prog 89 #[.slice A0 l0.length c0] w fun e w' => ∃ v0_ : Value,e = .returned (v0_) ∧ Kd.R (Kd.int .i64) 3 w' w.heap.size (fun _ => True) v0_ r ∧ Below w.heap.size w w':=by
  unfold slices_Clone_int_int.f at h;by_cases hs : l0.length * 8 ≤ 140737488355328
  case neg => rw [if_neg hs] at h;cases h
  rw [if_pos hs] at h
  injection h with h
  subst h
  rcases A0 with _ | ad
  · have hl : l0 = []:=by
      rcases Nat.eq_zero_or_pos l0.length with e | e
      · exact List.eq_nil_of_length_eq_zero e
      · obtain ⟨ad,h',_⟩:=hr0.2.2 e
        cases h'
    subst hl;(refine (Tryd.slices_Clone_int_nil _ _ w).mono fun e w' ⟨h1,h2⟩ => ?_);subst h2;exact ⟨_,h1,Kd.R_nil _ _ _ _ _,Below.refl _ _⟩
  · rcases Nat.eq_zero_or_pos l0.length with e0 | e0
    · obtain rfl : l0 = []:=List.eq_nil_of_length_eq_zero e0
      (refine (Tryd.slices_Clone_int_zero ad _ w).mono fun e w' ⟨v,h1,h2,_,h4⟩ => ?_);exact ⟨v,h1,Kd.R_of_own (enc:=Value.int .i64) (h1:=fun _ => rfl) (xs:=([] : List Int)) h2 (fun _ _ => trivial),h4⟩
    · have hR:=Kd.reads_of_C (enc:=Value.int .i64) (d:=(0 : Int)) (h1:=fun _ => rfl) hr0
      obtain ⟨ad',e1,hc⟩:=hR.2.2 e0
      injection e1 with e1
      subst e1
      have hsp : ad.spot = none:=by
        have h1:=hc 0 e0;(have h2 : ad.add 0 = ad:=by unfold Addr.add;rw [if_pos rfl]);rw [h2] at h1;unfold World.cell? at h1
        cases hh : ad.spot with
        | none => rfl
        | some x =>
          exfalso
          split at h1
          · rw [hh] at h1
            simp at h1
          · cases h1
      obtain ⟨b,off,sp⟩:=ad
      simp only at hsp
      subst hsp
      have hcells : ∀ j,j < l0.length → w.cell? ⟨b,off + j,none⟩ = some (.int .i64 (l0.getD j 0)):=fun j hj => by
        have h1:=hc j hj
        have h2 : (⟨b,off,none⟩ : Addr).add j = ⟨b,off + j,none⟩:=by unfold Addr.add;split <;> simp_all
        rw [h2] at h1;exact h1
      (refine (Tryd.slices_Clone_int b off l0.length c0 l0 w (Nat.le_refl _) hs hcells).mono fun e w' ⟨v,h1,h2,_,h4⟩ => ?_);rw [List.take_of_length_le (Nat.le_refl _)] at h2;exact ⟨v,h1,Kd.R_of_own (enc:=Value.int .i64) (h1:=fun _ => rfl) h2 (fun _ _ => trivial),h4⟩
end Go.Proofs.YtdihodboopeakaaDoor.Pr
