-- Joined and pruned by wip/tools/prune.py out of this session's own texts (Pr8, Pr1, Pr2, Pr3, Pr12, Pr13, Pr21)
import Derived.Test.YtdihodboopeakaaDoorZfw6
namespace Go.Proofs.YtdihodboopeakaaDoor.Pr
open Go.RowKit Go.Proofs.YtdihodboopeakaaDoorW.PrintWords Go.Proofs.YtdihodboopeakaaDoorW.PrintLast Go.Proofs.YtdihodboopeakaaDoorW.PrintMore
attribute [local go_sem] max2_int min2_int max_two min_two max_three min_three max_four min_four
set_option linter.unusedVariables false
set_option linter.unusedSimpArgs false

set_option maxHeartbeats 8000000 in
set_option maxRecDepth 100000 in
theorem spec_GoodBoard.calls (k : Nat) (j6 : Option Addr) (c0_0 : Nat) (z1 : List ByteArray) (j0 : Option Addr) (c0_1 : Nat) (z5 : List Bool) (j1 : Option Addr) (c0_2 : Nat) (z3 : List (List Int)) (r : Bool) (w : World) (hr0_0 : Kd.C Kd.string w j6 z1.length z1) (hc0_0 : z1.length ≤ c0_0) (hr0_1 : Kd.C Kd.bool w j0 z5.length z5) (hc0_1 : z5.length ≤ c0_1) (hr0_2 : Kd.C (Kd.slice 3 (Kd.int .i64)) w j1 z3.length z3) (hc0_2 : z3.length ≤ c0_2) (h : spec_GoodBoard.f k z1 z5 z3 = some r) :
   Calls Tryd.prog 27 #[.agg #[.slice j6 z1.length c0_0,.slice j0 z5.length c0_1,.slice j1 z3.length c0_2]] w fun e w' => e = .returned (.bool r) ∧ Below w.heap.size w w':=by
  have zi0:=Tryd.underlying34;have za5:=Aside0.mk hr0_0;have zg4:=Aside0.mk hc0_0;clear hr0_0 hc0_0;have zg5:=Aside0.mk hr0_1;have zg6:=Aside0.mk hc0_1;clear hr0_1 hc0_1;have m3:=Aside0.mk hr0_2;have zg7:=Aside0.mk hc0_2;clear hr0_2 hc0_2;have HB:=ak (Below.refl w.heap.size w);have H : (if (z1.length : Int) < 1 then (spec_GoodBoard.j0 k (z1.length : Int) true z1 z5 z3) else (if (z1.length : Int) > 14 then (spec_GoodBoard.j0 k (z1.length : Int) true z1 z5 z3) else (if (z5.length : Int) = (z1.length : Int) then (spec_GoodBoard.j0 k (z1.length : Int) ((z3.length : Int) != (z1.length : Int)) z1 z5 z3) else (spec_GoodBoard.j0 k (z1.length : Int) true z1 z5 z3)))) = some r:=h;clear h;have HC2:=Aside0.mk H;clear H;go_enter Tryd.func27,Tryd.ntmps27
  go_upto_region 2 with (first | ((with_reducible refine gate_dst (N:=1) rfl ?_);(try (refine gate_guard (by rfl) ?_;dsimp only));refine box_event ?hg (N:=1) ?hd (cs:=#[.slice j6 z1.length c0_0,.slice j0 z5.length c0_1,.slice j1 z3.length c0_2]) (t:=34) ?hr ?_;(case hd => rfl);(case hg => rfl);(case hr => first | (go_simp;done) | (go_simp;rfl));intro z6 hg w3 hbox hb;have z2:=ak (hbox);have zg8 : Aside0 (w.heap.size ≤ z6):=gz_;have zg9 : Aside0 (w.heap.size ≤ z6):=gz_;replace HB:=ak (below_step hb_ hb);clear hb hbox hg;have ze5:=b30 z2;have ze6:=b31 z2;have ze7:=b32 z2;have ze8:=blk_frozen z2.out 0;have ze9:=blk_frozen z2.out 1;have zf0:=blk_frozen z2.out 2))
  (try simp only [Act.put,List.setIfInBounds_toArray,List.set_cons_zero,List.set_cons_succ])
  go_cut [30] (fun v30 wc => ∃ (kq : Nat) (r7 : Bool),v30 = .bool r7 ∧ Aside0 (spec_GoodBoard.j0 kq (z1.length : Int) r7 z1 z5 z3 = some r) ∧ Aside0 (kq ≤ k) ∧ Aside0 (wc.heap[z6]? = some (.cells #[(.slice j6 z1.length c0_0),(.slice j0 z5.length c0_1),(.slice j1 z3.length c0_2)] 34 (0,0))) ∧ Aside0 (Below w.heap.size w wc))
  case first =>
   have H:=HC2.out;clear HC2;by_cases c5 : (z1.length : Int) < 1
   ·rw [if_pos c5] at H
    have r9 : decide ((z1.length : Int) < 1) = true:=decide_eq_true c5;have zb4 : decide (z1.length < 1) = true:=decide_eq_true (by omega);clear c5;(first | rw [r9] | (simp only [i64_w,i32_w];rw [r9]) | skip);have H':=Aside0.mk H;clear H;go_wp2;go_meet
    case rel => exact ⟨_,(true),es_,H',⟨by first | omega | exact Nat.le_refl _⟩,⟨bk_ z2.out⟩,⟨hb_⟩⟩
   ·rw [if_neg c5] at H
    have r9 : decide ((z1.length : Int) < 1) = false:=decide_eq_false c5;have zb4 : decide (z1.length < 1) = false:=decide_eq_false (by omega);clear c5;(first | rw [r9] | (simp only [i64_w,i32_w];rw [r9]) | skip);by_cases c6 : (z1.length : Int) > 14
    ·rw [if_pos c6] at H
     have zb5 : decide (14 < (z1.length : Int)) = true:=decide_eq_true c6;have zb6 : decide (14 < z1.length) = true:=decide_eq_true (by omega);clear c6;have H':=Aside0.mk H;clear H;go_wp2;go_meet
     case rel => exact ⟨_,(true),es_,H',⟨by first | omega | exact Nat.le_refl _⟩,⟨bk_ z2.out⟩,⟨hb_⟩⟩
    ·rw [if_neg c6] at H
     have zb5 : decide (14 < (z1.length : Int)) = false:=decide_eq_false c6;have zb6 : decide (14 < z1.length) = false:=decide_eq_false (by omega);clear c6;by_cases c7 : (z5.length : Int) = (z1.length : Int)
     ·rw [if_pos c7] at H
      have zb7 : ((z5.length : Int) == (z1.length : Int)) = true:=beq_iff_eq.mpr c7;have zb8 : ((z5.length : Int) != (z1.length : Int)) = false:=bne_eq_false_iff_eq.mpr c7;(have zb9 : (z5.length == z1.length) = true:=by first | simpa using c7 | (simp at c7 ⊢;omega));clear c7;have H':=Aside0.mk H;clear H;have zf1:=b30 z2;have zf2:=b31 z2;have zf3:=b32 z2;have zf4:=blk_frozen z2.out 0;have zf5:=blk_frozen z2.out 1;have zf6:=blk_frozen z2.out 2;go_wp2;go_meet
      case rel => exact ⟨_,(((z3.length : Int) != (z1.length : Int))),es_,H',⟨by first | omega | exact Nat.le_refl _⟩,⟨bk_ z2.out⟩,⟨hb_⟩⟩
     ·rw [if_neg c7] at H
      have zb7 : ((z5.length : Int) == (z1.length : Int)) = false:=beq_eq_false_iff_ne.mpr c7;have zb8 : ((z5.length : Int) != (z1.length : Int)) = true:=bne_iff_ne.mpr c7;(have zb9 : (z5.length == z1.length) = false:=by first | simpa using c7 | (simp at c7 ⊢;omega));have H':=Aside0.mk H;clear H;have zf7:=b30 z2;have zf8:=b31 z2;have zf9:=b32 z2;have zg0:=blk_frozen z2.out 0;have zg1:=blk_frozen z2.out 1;have zg2:=blk_frozen z2.out 2;go_wp2;go_meet
      case rel => exact ⟨_,(true),es_,H',⟨by first | omega | exact Nat.le_refl _⟩,⟨bk_ z2.out⟩,⟨hb_⟩⟩
  case rest =>
   clear HC2;obtain ⟨kq,r7,rfl,HA,HJ1,z2,HB⟩:=hcut
   cases kq with
   | zero => exact absurd HA.out (by simp [spec_GoodBoard.j0])
   | succ kj1 =>
    have H:=HA.out;clear HA;simp only [spec_GoodBoard.j0] at H;by_cases c10 : r7 = true
    ·subst c10
     rw [if_pos rfl] at H
     obtain rfl:=Option.some.inj H
     go_wp2;go_ret;exact ⟨er_,hb_⟩
    ·replace c10:=Bool.eq_false_iff.mpr c10
     subst c10;rw [if_neg (show ¬ (false = true) by decide)] at H;have H':=Aside0.mk H;clear H;have zc0:=b30 z2;have zc1:=b31 z2;have zc2:=b32 z2;have zc3:=blk_frozen z2.out 0;have zc4:=blk_frozen z2.out 1;have zc5:=blk_frozen z2.out 2;go_wp2
     go_loopg [34] kj1 (fun kq v34 w' => ∃ (z0 : Int),v34 = .int .i64 z0 ∧ Aside0 (spec_GoodBoard.l0 kq (z1.length : Int) z1 (z1.length : Int) z0 z1 z5 z3 = some r) ∧ Aside0 (kq ≤ kj1) ∧ Aside0 (w'.heap[z6]? = some (.cells #[(.slice j6 z1.length c0_0),(.slice j0 z5.length c0_1),(.slice j1 z3.length c0_2)] 34 (0,0))) ∧ Aside0 (Below w.heap.size w w'))
     case atStart => exact ⟨(0),es_,H',⟨Nat.le_refl _⟩,⟨bk_ z2.out⟩,⟨hb_⟩⟩
     case round =>
      clear H';obtain ⟨z0,rfl,HA,HK2,z2,HB⟩:=hrel
      cases gk with
      | zero => exact absurd HA.out (by simp [spec_GoodBoard.l0])
      | succ k2 =>
       have H:=HA.out;clear HA;simp only [spec_GoodBoard.l0] at H;by_cases c12 : z0 < (z1.length : Int)
       ·rw [if_pos c12] at H
        have za6 : decide (z0 < (z1.length : Int)) = true:=decide_eq_true c12;clear c12;by_cases c13 : 0 ≤ z0
        ·rw [if_pos c13] at H
         have zh0 : decide (0 ≤ z0) = true:=decide_eq_true c13;clear c13;by_cases c14 : z0 < (z1.length : Int)
         ·rw [if_pos c14] at H
          have zh1 : decide (z0 < (z1.length : Int)) = true:=decide_eq_true c14;clear c14;have m5:=Aside0.mk H;clear H;have m6 : 0 ≤ (z0 : Int):=of_decide_eq_true as_;have m7 : z0 < (z1.length : Int):=of_decide_eq_true as_;obtain ⟨r1,e162,m0⟩:=Kd.at_string za5.out z0 m6 m7;cases e162;replace m0:=hc_ HB m0;replace m6:=eq_true m6;replace m7:=eq_true m7
          go_upto_region 7 with (fail)
          go_cut [45] (fun v45 wc => ∃ (kq : Nat) (r2 : Bool),v45 = .bool r2 ∧ Aside0 (spec_GoodBoard.j2 kq (z1.length : Int) z0 z1 (z1.length : Int) z0 r2 z1 z5 z3 = some r) ∧ Aside0 (kq ≤ k2) ∧ Aside0 (wc.heap[z6]? = some (.cells #[(.slice (some r1) z1.length c0_0),(.slice j0 z5.length c0_1),(.slice j1 z3.length c0_2)] 34 (0,0))) ∧ Aside0 (Below w.heap.size w wc))
          case first =>
           have H:=m5.out;clear m5;by_cases c16 : (rdOf ByteArray.empty z1 z0).toList = ([] : List UInt8)
           ·rw [if_pos c16] at H
            have r3 : ((rdOf ByteArray.empty z1 z0).toList == ([] : List UInt8)) = true:=beq_iff_eq.mpr c16;have za7 : ((rdOf ByteArray.empty z1 z0).toList != ([] : List UInt8)) = false:=bne_eq_false_iff_eq.mpr c16;clear c16;(first | rw [r3] | (simp only [i64_w,i32_w];rw [r3]) | skip);have H':=Aside0.mk H;clear H;go_wp2;go_meet
            case rel => exact ⟨_,(false),es_,H',⟨by have:=HJ1.out;have:=HK2.out;first | omega | exact Nat.le_refl _⟩,⟨bk_ z2.out⟩,⟨hb_⟩⟩
           ·rw [if_neg c16] at H
            have r3 : ((rdOf ByteArray.empty z1 z0).toList == ([] : List UInt8)) = false:=beq_eq_false_iff_ne.mpr c16;have za7 : ((rdOf ByteArray.empty z1 z0).toList != ([] : List UInt8)) = true:=bne_iff_ne.mpr c16;(first | rw [r3] | (simp only [i64_w,i32_w];rw [r3]) | skip);replace H:=Option.bind_eq_some_iff.mp H;obtain ⟨m8,za2,H⟩:=H;replace H : (spec_GoodBoard.j2 k2 (z1.length : Int) z0 z1 (z1.length : Int) z0 (!m8) z1 z5 z3) = some r:=H;have A17:=Aside0.mk za2;clear za2;have H':=Aside0.mk H;clear H;go_wp2_with (first | (go_at_call 64;(with_reducible refine (spec_l22Name.calls k2 (rdOf ByteArray.empty z1 z0) m8 _ A17.out).mono ?_);rintro e w' ⟨rfl,⟨nd,rfl⟩⟩));go_meet
            case rel => exact ⟨_,(!m8),es_,H',⟨by have:=HJ1.out;have:=HK2.out;first | omega | exact Nat.le_refl _⟩,⟨bk_ z2.out⟩,⟨hb_⟩⟩
          case rest =>
           clear m5;obtain ⟨kq,r2,rfl,HA,r5,z2,HB⟩:=hcut
           cases kq with
           | zero => exact absurd HA.out (by simp [spec_GoodBoard.j2])
           | succ za3 =>
            have H:=HA.out;clear HA;simp only [spec_GoodBoard.j2] at H;by_cases c18 : r2 = true
            ·subst c18
             rw [if_pos rfl] at H
             obtain rfl:=Option.some.inj H
             go_wp2;go_ret;exact ⟨er_,hb_⟩
            ·replace c18:=Bool.eq_false_iff.mpr c18
             subst c18;rw [if_neg (show ¬ (false = true) by decide)] at H;by_cases c19 : 0 ≤ z0
             ·rw [if_pos c19] at H
              have zh2 : decide (0 ≤ z0) = true:=decide_eq_true c19;clear c19;by_cases c20 : z0 < (z3.length : Int)
              ·rw [if_pos c20] at H
               have zh3 : decide (z0 < (z3.length : Int)) = true:=decide_eq_true c20;clear c20;have H':=Aside0.mk H;clear H;have zc6:=b30 z2;have zc7:=b31 z2;have zc8:=b32 z2;have zc9:=blk_frozen z2.out 0;have zd0:=blk_frozen z2.out 1;have zd1:=blk_frozen z2.out 2;have m9 : 0 ≤ (z0 : Int):=of_decide_eq_true as_;have za0 : z0 < (z3.length : Int):=of_decide_eq_true as_;obtain ⟨r4,zg3,c164_0,e164,m1,m2,hi164_0⟩:=at_L3 m3.out z0 m9 za0;cases e164;replace m1:=hc_ HB m1;have j2:=Aside0.mk hi164_0;have zd2:=Aside0.mk m2;clear hi164_0 m2;replace m9:=eq_true m9;replace za0:=eq_true za0;go_wp2
               go_loopg [52] za3 (fun kq v52 w' => ∃ (z4 : Int),v52 = .int .i64 z4 ∧ Aside0 (spec_GoodBoard.l1 kq (z1.length : Int) z0 z1 (z1.length : Int) z0 (rd_L3 z3 z0) ((rd_L3 z3 z0).length : Int) z4 z1 z5 z3 = some r) ∧ Aside0 (kq ≤ za3) ∧ Aside0 (w'.heap[z6]? = some (.cells #[(.slice (some r1) z1.length c0_0),(.slice j0 z5.length c0_1),(.slice (some r4) z3.length c0_2)] 34 (0,0))) ∧ Aside0 (Below w.heap.size w w'))
               case atStart => exact ⟨(0),es_,H',⟨Nat.le_refl _⟩,⟨bk_ z2.out⟩,⟨hb_⟩⟩
               case round =>
                clear H';obtain ⟨z4,rfl,HA,HK4,z2,HB⟩:=hrel
                cases gk with
                | zero => exact absurd HA.out (by simp [spec_GoodBoard.l1])
                | succ k4 =>
                 have H:=HA.out;clear HA;simp only [spec_GoodBoard.l1] at H;by_cases c22 : z4 < ((rd_L3 z3 z0).length : Int)
                 ·rw [if_pos c22] at H
                  have za8 : decide (z4 < ((rd_L3 z3 z0).length : Int)) = true:=decide_eq_true c22;clear c22;by_cases c23 : 0 ≤ z4
                  ·rw [if_pos c23] at H
                   have zh4 : decide (0 ≤ z4) = true:=decide_eq_true c23;clear c23;by_cases c24 : z4 < ((rd_L3 z3 z0).length : Int)
                   ·rw [if_pos c24] at H
                    have zh5 : decide (z4 < ((rd_L3 z3 z0).length : Int)) = true:=decide_eq_true c24;clear c24;by_cases c25 : (rd (rd_L3 z3 z0) z4) < 0
                    ·rw [if_pos c25] at H
                     have za9 : decide ((rd (rd_L3 z3 z0) z4) < 0) = true:=decide_eq_true c25;clear c25
                     obtain rfl:=Option.some.inj H
                     have z8 : 0 ≤ (z4 : Int):=of_decide_eq_true as_;have z9 : z4 < ((rd_L3 z3 z0).length : Int):=of_decide_eq_true as_;obtain ⟨r8,e165,z7⟩:=Kd.at_int j2.out z4 z8 z9;cases e165;replace z7:=hc_ HB z7;replace z8:=eq_true z8;replace z9:=eq_true z9;go_wp2;go_ret;exact ⟨er_,hb_⟩
                    ·rw [if_neg c25] at H
                     have za9 : decide ((rd (rd_L3 z3 z0) z4) < 0) = false:=decide_eq_false c25;clear c25;by_cases c26 : (rd (rd_L3 z3 z0) z4) ≥ (z1.length : Int)
                     ·rw [if_pos c26] at H
                      have zb0 : decide ((z1.length : Int) ≤ (rd (rd_L3 z3 z0) z4)) = true:=decide_eq_true c26;clear c26
                      obtain rfl:=Option.some.inj H
                      have z8 : 0 ≤ (z4 : Int):=of_decide_eq_true as_;have z9 : z4 < ((rd_L3 z3 z0).length : Int):=of_decide_eq_true as_;obtain ⟨r8,e165,z7⟩:=Kd.at_int j2.out z4 z8 z9;cases e165;replace z7:=hc_ HB z7;replace z8:=eq_true z8;replace z9:=eq_true z9;go_wp2;go_ret;exact ⟨er_,hb_⟩
                     ·rw [if_neg c26] at H
                      have zb0 : decide ((z1.length : Int) ≤ (rd (rd_L3 z3 z0) z4)) = false:=decide_eq_false c26;clear c26;by_cases c27 : z4 > 0
                      ·rw [if_pos c27] at H
                       have zb1 : decide (0 < z4) = true:=decide_eq_true c27;clear c27;by_cases c28 : 0 ≤ z0
                       ·rw [if_pos c28] at H
                        have zh6 : decide (0 ≤ z0) = true:=decide_eq_true c28;clear c28;by_cases c29 : z0 < (z3.length : Int)
                        ·rw [if_pos c29] at H
                         have zh7 : decide (z0 < (z3.length : Int)) = true:=decide_eq_true c29;clear c29;obtain ⟨ji30,hji30⟩ : ∃ j_ : Int,(wrap64 (z4 - 1)) = j_:=⟨_,rfl⟩;(replace H : (if 0 ≤ (ji30) then (if (ji30) < ((rd_L3 z3 z0).length : Int) then (if (rd (rd_L3 z3 z0) (ji30)) ≥ (rd (rd_L3 z3 z0) z4) then (some false) else (spec_GoodBoard.l1 k4 (z1.length : Int) z0 z1 (z1.length : Int) z0 (rd_L3 z3 z0) ((rd_L3 z3 z0).length : Int) (wrap64 (z4 + 1)) z1 z5 z3)) else (none)) else (none)) = some r:=by first | (rw [hji30] at H;exact H) | (simp only [hji30] at H ⊢;exact H));have hji30w : (IntKind.i64.wrap (z4 - 1)) = ji30:=(i64_w _).trans hji30;by_cases c31 : 0 ≤ (ji30)
                         ·rw [if_pos c31] at H
                          have zh8 : decide (0 ≤ (ji30)) = true:=decide_eq_true c31;clear c31;by_cases c32 : (ji30) < ((rd_L3 z3 z0).length : Int)
                          ·rw [if_pos c32] at H
                           have zh9 : decide ((ji30) < ((rd_L3 z3 z0).length : Int)) = true:=decide_eq_true c32;clear c32;by_cases c33 : (rd (rd_L3 z3 z0) (ji30)) ≥ (rd (rd_L3 z3 z0) z4)
                           ·rw [if_pos c33] at H
                            have zb2 : decide ((rd (rd_L3 z3 z0) z4) ≤ (rd (rd_L3 z3 z0) (ji30))) = true:=decide_eq_true c33;clear c33
                            obtain rfl:=Option.some.inj H
                            have z8 : 0 ≤ (z4 : Int):=of_decide_eq_true as_;have z9 : z4 < ((rd_L3 z3 z0).length : Int):=of_decide_eq_true as_;obtain ⟨r8,e165,z7⟩:=Kd.at_int j2.out z4 z8 z9;cases e165;replace z7:=hc_ HB z7;replace z8:=eq_true z8;replace z9:=eq_true z9;have zd3:=b30 z2;have zd4:=b31 z2;have zd5:=b32 z2;have zd6:=blk_frozen z2.out 0;have zd7:=blk_frozen z2.out 1;have zd8:=blk_frozen z2.out 2;have j7 : 0 ≤ (z0 : Int):=of_decide_eq_true as_;have j8 : z0 < (z3.length : Int):=of_decide_eq_true as_;obtain ⟨m4,za4,c166_0,e166,j3,j4,hi166_0⟩:=at_L3 m3.out z0 j7 j8
                            obtain rfl : r4 = m4:=(by injection e166)
                            replace j3:=hc_ HB j3;have r6:=Aside0.mk hi166_0;have za1:=Aside0.mk j4;clear hi166_0 j4;replace j7:=eq_true j7;replace j8:=eq_true j8;have j9 : 0 ≤ ((ji30) : Int):=of_decide_eq_true as_;have r0 : (ji30) < ((rd_L3 z3 z0).length : Int):=of_decide_eq_true as_;obtain ⟨zb3,e167,j5⟩:=Kd.at_int r6.out (ji30) j9 r0;cases e167;replace j5:=hc_ HB j5;replace j9:=eq_true j9;replace r0:=eq_true r0;go_wp2;go_ret;exact ⟨by first | rfl | (simp [errW_none,errW_some] <;> rfl) | (simp only [← hji30];first | rfl | (simp [errW_none,errW_some] <;> rfl)) | (simp [*,errW_none,errW_some] <;> rfl),hb_⟩
                           ·rw [if_neg c33] at H
                            have zb2 : decide ((rd (rd_L3 z3 z0) z4) ≤ (rd (rd_L3 z3 z0) (ji30))) = false:=decide_eq_false c33;clear c33;have H':=Aside0.mk H;clear H;have z8 : 0 ≤ (z4 : Int):=of_decide_eq_true as_;have z9 : z4 < ((rd_L3 z3 z0).length : Int):=of_decide_eq_true as_;obtain ⟨r8,e165,z7⟩:=Kd.at_int j2.out z4 z8 z9;cases e165;replace z7:=hc_ HB z7;replace z8:=eq_true z8;replace z9:=eq_true z9;have zd9:=b30 z2;have ze0:=b31 z2;have ze1:=b32 z2;have ze2:=blk_frozen z2.out 0;have ze3:=blk_frozen z2.out 1;have ze4:=blk_frozen z2.out 2;have j7 : 0 ≤ (z0 : Int):=of_decide_eq_true as_;have j8 : z0 < (z3.length : Int):=of_decide_eq_true as_;obtain ⟨m4,za4,c166_0,e166,j3,j4,hi166_0⟩:=at_L3 m3.out z0 j7 j8
                            obtain rfl : r4 = m4:=(by injection e166)
                            replace j3:=hc_ HB j3;have r6:=Aside0.mk hi166_0;have za1:=Aside0.mk j4;clear hi166_0 j4;replace j7:=eq_true j7;replace j8:=eq_true j8;have j9 : 0 ≤ ((ji30) : Int):=of_decide_eq_true as_;have r0 : (ji30) < ((rd_L3 z3 z0).length : Int):=of_decide_eq_true as_;obtain ⟨zb3,e167,j5⟩:=Kd.at_int r6.out (ji30) j9 r0;cases e167;replace j5:=hc_ HB j5;replace j9:=eq_true j9;replace r0:=eq_true r0;go_wp2;go_roundg k4
                            case measure => have:=HJ1.out;have:=HK2.out;have:=r5.out;have:=HK4.out;omega
                            case rel => exact ⟨(wrap64 (z4 + 1)),es_,H',⟨by have:=HJ1.out;have:=HK2.out;have:=r5.out;have:=HK4.out;omega⟩,⟨bk_ z2.out⟩,⟨hb_⟩⟩
                          ·rw [if_neg c32] at H
                           exact absurd H (by simp)
                         ·rw [if_neg c31] at H
                          exact absurd H (by simp)
                        ·rw [if_neg c29] at H
                         exact absurd H (by simp)
                       ·rw [if_neg c28] at H
                        exact absurd H (by simp)
                      ·rw [if_neg c27] at H
                       have zb1 : decide (0 < z4) = false:=decide_eq_false c27;clear c27;have H':=Aside0.mk H;clear H;have z8 : 0 ≤ (z4 : Int):=of_decide_eq_true as_;have z9 : z4 < ((rd_L3 z3 z0).length : Int):=of_decide_eq_true as_;obtain ⟨r8,e165,z7⟩:=Kd.at_int j2.out z4 z8 z9;cases e165;replace z7:=hc_ HB z7;replace z8:=eq_true z8;replace z9:=eq_true z9;go_wp2;go_roundg k4
                       case measure => have:=HJ1.out;have:=HK2.out;have:=r5.out;have:=HK4.out;omega
                       case rel => exact ⟨(wrap64 (z4 + 1)),es_,H',⟨by have:=HJ1.out;have:=HK2.out;have:=r5.out;have:=HK4.out;omega⟩,⟨bk_ z2.out⟩,⟨hb_⟩⟩
                   ·rw [if_neg c24] at H
                    exact absurd H (by simp)
                  ·rw [if_neg c23] at H
                   exact absurd H (by simp)
                 ·rw [if_neg c22] at H
                  have za8 : decide (z4 < ((rd_L3 z3 z0).length : Int)) = false:=decide_eq_false c22;clear c22;have H':=Aside0.mk H;clear H;go_wp2;go_roundg k4
                  case measure => have:=HJ1.out;have:=HK2.out;have:=r5.out;have:=HK4.out;omega
                  case rel => exact ⟨(wrap64 (z0 + 1)),es_,H',⟨by have:=HJ1.out;have:=HK2.out;have:=r5.out;have:=HK4.out;omega⟩,⟨bk_ z2.out⟩,⟨hb_⟩⟩
              ·rw [if_neg c20] at H
               exact absurd H (by simp)
             ·rw [if_neg c19] at H
              exact absurd H (by simp)
         ·rw [if_neg c14] at H
          exact absurd H (by simp)
        ·rw [if_neg c13] at H
         exact absurd H (by simp)
       ·rw [if_neg c12] at H
        have za6 : decide (z0 < (z1.length : Int)) = false:=decide_eq_false c12;clear c12
        obtain rfl:=Option.some.inj H
        go_wp2;go_ret;exact ⟨er_,hb_⟩

end Go.Proofs.YtdihodboopeakaaDoor.Pr
namespace Go.Proofs.YtdihodboopeakaaDoor.Pr
open Go.RowKit Go.Proofs.YtdihodboopeakaaDoorW.PrintWords Go.Proofs.YtdihodboopeakaaDoorW.PrintLast Go.Proofs.YtdihodboopeakaaDoorW.PrintMore
attribute [local go_sem] max2_int min2_int max_two min_two max_three min_three max_four min_four
set_option linter.unusedVariables false
set_option linter.unusedSimpArgs false

end Go.Proofs.YtdihodboopeakaaDoor.Pr
namespace Go.Proofs.YtdihodboopeakaaDoor.Pr
open Go.RowKit Go.Proofs.YtdihodboopeakaaDoorW.PrintWords Go.Proofs.YtdihodboopeakaaDoorW.PrintLast Go.Proofs.YtdihodboopeakaaDoorW.PrintMore
attribute [local go_sem] max2_int min2_int max_two min_two max_three min_three max_four min_four
set_option linter.unusedVariables false
set_option linter.unusedSimpArgs false

end Go.Proofs.YtdihodboopeakaaDoor.Pr
namespace Go.Proofs.YtdihodboopeakaaDoor.Pr
open Go.RowKit Go.Proofs.YtdihodboopeakaaDoorW.PrintWords Go.Proofs.YtdihodboopeakaaDoorW.PrintLast Go.Proofs.YtdihodboopeakaaDoorW.PrintMore
attribute [local go_sem] max2_int min2_int max_two min_two max_three min_three max_four min_four
set_option linter.unusedVariables false
set_option linter.unusedSimpArgs false

end Go.Proofs.YtdihodboopeakaaDoor.Pr
namespace Go.Proofs.YtdihodboopeakaaDoor.Pr
open Go.RowKit Go.Proofs.YtdihodboopeakaaDoorW.PrintWords Go.Proofs.YtdihodboopeakaaDoorW.PrintLast Go.Proofs.YtdihodboopeakaaDoorW.PrintMore
attribute [local go_sem] max2_int min2_int max_two min_two max_three min_three max_four min_four
set_option linter.unusedVariables false
set_option linter.unusedSimpArgs false

set_option maxHeartbeats 8000000 in
set_option maxRecDepth 100000 in
theorem spec_l22In.calls (k : Nat) (A0 : Option Addr) (c0 : Nat) (l0 : List ByteArray) (a1 : ByteArray) (r : Bool) (w : World) (hr0 : Kd.C Kd.string w A0 l0.length l0) (hc0 : l0.length ≤ c0) (h : spec_l22In.f k l0 a1 = some r) :
   Calls Tryd.prog 68 #[.slice A0 l0.length c0,.string a1] w fun e w' => e = .returned (.bool r) ∧ Drawn0 w w':=by
  have HR0:=Aside0.mk hr0;have HC0:=Aside0.mk hc0;clear hr0 hc0;have H : (spec_l22In.l0 k a1 l0 (l0.length : Int) 0) = some r:=h;clear h;have H':=Aside0.mk H;clear H;go_enter Tryd.func68,Tryd.ntmps68;go_wp2
  go_loopg [9] k (fun kq v9 w' => ∃ (z0 : Int),v9 = .int .i64 z0 ∧ Aside0 (spec_l22In.l0 kq a1 l0 (l0.length : Int) z0 = some r) ∧ Aside0 (kq ≤ k) ∧ Drawn0 w w')
  case atStart => exact ⟨(0),es_,H',⟨Nat.le_refl _⟩,by repeat (first | exact Drawn0.refl _ | apply Drawn0.step)⟩
  case round =>
   clear H';obtain ⟨z0,rfl,HA,HK1,⟨m1,rfl⟩⟩:=hrel
   cases gk with
   | zero => exact absurd HA.out (by simp [spec_l22In.l0])
   | succ k1 =>
    have H:=HA.out;clear HA;simp only [spec_l22In.l0] at H;by_cases c3 : z0 < (l0.length : Int)
    ·rw [if_pos c3] at H
     have z5 : decide (z0 < (l0.length : Int)) = true:=decide_eq_true c3;clear c3;by_cases c4 : 0 ≤ z0
     ·rw [if_pos c4] at H
      have z8 : decide (0 ≤ z0) = true:=decide_eq_true c4;clear c4;by_cases c5 : z0 < (l0.length : Int)
      ·rw [if_pos c5] at H
       have z9 : decide (z0 < (l0.length : Int)) = true:=decide_eq_true c5;clear c5;by_cases c6 : (rdOf ByteArray.empty l0 z0).toList = a1.toList
       ·rw [if_pos c6] at H
        have z6 : ((rdOf ByteArray.empty l0 z0).toList == a1.toList) = true:=beq_iff_eq.mpr c6;have z7 : ((rdOf ByteArray.empty l0 z0).toList != a1.toList) = false:=bne_eq_false_iff_eq.mpr c6;clear c6
        obtain rfl:=Option.some.inj H
        have z1 : 0 ≤ (z0 : Int):=of_decide_eq_true as_;have z2 : z0 < (l0.length : Int):=of_decide_eq_true as_;obtain ⟨z4,e226,z3⟩:=Kd.at_string HR0.out z0 z1 z2;cases e226;replace z1:=eq_true z1;replace z2:=eq_true z2;go_wp2;go_ret;exact ⟨es_,by repeat (first | exact Drawn0.refl _ | apply Drawn0.step)⟩
       ·rw [if_neg c6] at H
        have z6 : ((rdOf ByteArray.empty l0 z0).toList == a1.toList) = false:=beq_eq_false_iff_ne.mpr c6;have z7 : ((rdOf ByteArray.empty l0 z0).toList != a1.toList) = true:=bne_iff_ne.mpr c6;have H':=Aside0.mk H;clear H;have z1 : 0 ≤ (z0 : Int):=of_decide_eq_true as_;have z2 : z0 < (l0.length : Int):=of_decide_eq_true as_;obtain ⟨z4,e226,z3⟩:=Kd.at_string HR0.out z0 z1 z2;cases e226;replace z1:=eq_true z1;replace z2:=eq_true z2;go_wp2;go_roundg k1
        case measure => have:=HK1.out;omega
        case rel => exact ⟨(wrap64 (z0 + 1)),es_,H',⟨by have:=HK1.out;omega⟩,by repeat (first | exact Drawn0.refl _ | apply Drawn0.step)⟩
      ·rw [if_neg c5] at H
       exact absurd H (by simp)
     ·rw [if_neg c4] at H
      exact absurd H (by simp)
    ·rw [if_neg c3] at H
     have z5 : decide (z0 < (l0.length : Int)) = false:=decide_eq_false c3;clear c3
     obtain rfl:=Option.some.inj H
     go_wp2;go_ret;exact ⟨es_,by repeat (first | exact Drawn0.refl _ | apply Drawn0.step)⟩

end Go.Proofs.YtdihodboopeakaaDoor.Pr
namespace Go.Proofs.YtdihodboopeakaaDoor.Pr
open Go.RowKit Go.Proofs.YtdihodboopeakaaDoorW.PrintWords Go.Proofs.YtdihodboopeakaaDoorW.PrintLast Go.Proofs.YtdihodboopeakaaDoorW.PrintMore
attribute [local go_sem] max2_int min2_int max_two min_two max_three min_three max_four min_four
set_option linter.unusedVariables false
set_option linter.unusedSimpArgs false

set_option maxHeartbeats 8000000 in
set_option maxRecDepth 100000 in
theorem spec_l22Names.calls (k : Nat) (A0 : Option Addr) (c0 : Nat) (l0 : List ByteArray) (r : Bool) (w : World) (hr0 : Kd.C Kd.string w A0 l0.length l0) (hc0 : l0.length ≤ c0) (h : spec_l22Names.f k l0 = some r) :
   Calls Tryd.prog 87 #[.slice A0 l0.length c0] w fun e w' => e = .returned (.bool r) ∧ Drawn0 w w':=by
  have HR0:=Aside0.mk hr0;have HC0:=Aside0.mk hc0;clear hr0 hc0;have H : (if (l0.length : Int) > 6 then (some false) else (spec_l22Names.l0 k l0 l0 (l0.length : Int) 0)) = some r:=h;clear h;by_cases c2 : (l0.length : Int) > 6
  ·rw [if_pos c2] at H
   have j2 : decide (6 < (l0.length : Int)) = true:=decide_eq_true c2;have j3 : decide (6 < l0.length) = true:=decide_eq_true (by omega);clear c2
   obtain rfl:=Option.some.inj H
   go_enter Tryd.func87,Tryd.ntmps87;go_wp2;go_ret;exact ⟨es_,by repeat (first | exact Drawn0.refl _ | apply Drawn0.step)⟩
  ·rw [if_neg c2] at H
   have j2 : decide (6 < (l0.length : Int)) = false:=decide_eq_false c2;have j3 : decide (6 < l0.length) = false:=decide_eq_false (by omega);clear c2;have H':=Aside0.mk H;clear H;go_enter Tryd.func87,Tryd.ntmps87;go_wp2
   go_loopg [10] k (fun kq v10 w' => ∃ (z0 : Int),v10 = .int .i64 z0 ∧ Aside0 (spec_l22Names.l0 kq l0 l0 (l0.length : Int) z0 = some r) ∧ Aside0 (kq ≤ k) ∧ Drawn0 w w')
   case atStart => exact ⟨(0),es_,H',⟨Nat.le_refl _⟩,by repeat (first | exact Drawn0.refl _ | apply Drawn0.step)⟩
   case round =>
    clear H';obtain ⟨z0,rfl,HA,HK1,⟨m1,rfl⟩⟩:=hrel
    cases gk with
    | zero => exact absurd HA.out (by simp [spec_l22Names.l0])
    | succ k1 =>
     have H:=HA.out;clear HA;simp only [spec_l22Names.l0] at H;by_cases c3 : z0 < (l0.length : Int)
     ·rw [if_pos c3] at H
      have j4 : decide (z0 < (l0.length : Int)) = true:=decide_eq_true c3;clear c3;by_cases c4 : 0 ≤ z0
      ·rw [if_pos c4] at H
       have j5 : decide (0 ≤ z0) = true:=decide_eq_true c4;clear c4;by_cases c5 : z0 < (l0.length : Int)
       ·rw [if_pos c5] at H
        have j6 : decide (z0 < (l0.length : Int)) = true:=decide_eq_true c5;clear c5;replace H:=Option.bind_eq_some_iff.mp H;obtain ⟨j0,A60,H⟩:=H;replace H : (if j0 = true then (if z0 ≤ (l0.length : Int) then ((spec_l22In.f k1 (l0.take (z0 : Int).toNat) (rdOf ByteArray.empty l0 z0)).bind fun z5 => (if z5 = true then (some false) else (spec_l22Names.l0 k1 l0 l0 (l0.length : Int) (wrap64 (z0 + 1))))) else (none)) else (some false)) = some r:=H;have A6:=Aside0.mk A60;clear A60;by_cases c7 : j0 = true
        ·subst c7
         rw [if_pos rfl] at H;have j7:=eq_true (of_decide_eq_true as_ : 0 ≤ z0);by_cases c9 : z0 ≤ (l0.length : Int)
         ·rw [if_pos c9] at H
          have j8:=eq_true c9;have j9 : decide (z0 ≤ (l0.length : Int)) = true:=decide_eq_true c9;clear c9;replace H:=Option.bind_eq_some_iff.mp H;obtain ⟨z5,j1,H⟩:=H;replace H : (if z5 = true then (some false) else (spec_l22Names.l0 k1 l0 l0 (l0.length : Int) (wrap64 (z0 + 1)))) = some r:=H;have A10:=Aside0.mk j1;clear j1;by_cases c11 : z5 = true
          ·subst c11
           rw [if_pos rfl] at H
           obtain rfl:=Option.some.inj H
           have z1 : 0 ≤ (z0 : Int):=of_decide_eq_true as_;have z2 : z0 < (l0.length : Int):=of_decide_eq_true as_;obtain ⟨z3,e227,z4⟩:=Kd.at_string HR0.out z0 z1 z2;cases e227;replace z1:=eq_true z1;replace z2:=eq_true z2;go_wp2_with (first | ((with_reducible refine gate_callee (f:=64) rfl ?_);refine goesL_ (some 16) rfl rfl Tryd.func64 (by kernel_rfl) rfl #[.string (rdOf ByteArray.empty l0 z0)] rfl ls_ ?_;(with_reducible refine (spec_l22Name.calls k1 (rdOf ByteArray.empty l0 z0) true _ A6.out).mono ?_);rintro e w' ⟨rfl,⟨nd,rfl⟩⟩;refine ⟨_,rfl,?_⟩;obtain ⟨i012,hi012,_,hsz12,_⟩:=info_parts info9;obtain ⟨hcut12,hA12,hC12⟩:=print_take_of (P:=Tryd.prog) Value.string (⟨#[]⟩ : ByteArray) 22 9 .i64 Tryd.underlying22 hi012 hsz12 (some z3) c0 l0 z0 (of_decide_eq_true as_) (of_decide_eq_true as_) HC0.out;have z6:=ak (Kd.C_of_reads (h1:=fun _ => rfl) (hA12 _ (Kd.reads_of_C HR0.out)));have z7:=Aside0.mk hC12;clear hA12 hC12 hi012 hsz12) | (go_at_call 68;refine calls_of_args (args':=#[.slice (some z3) (l0.take (z0 : Int).toNat).length c0,.string (rdOf ByteArray.empty l0 z0)]) (by first | (rw [show (l0.take (z0 : Int).toNat).length = z0.toNat from (by rw [List.length_take];have h_ : (z0 : Int) ≤ (l0.length : Int):=of_decide_eq_true as_;omega)] <;> rfl) | rfl) ?_;(with_reducible refine (spec_l22In.calls k1 _ _ (l0.take (z0 : Int).toNat) (rdOf ByteArray.empty l0 z0) true _ ?z8 ?z9 A10.out).mono ?_);(case z8 => repeat (first | exact z6.out | (with_reducible refine Kd.C_alloc ?_ _) | (with_reducible refine Kd.C_drewN ?_ _) | (with_reducible refine Kd.C_drew ?_)));(case z9 => exact z7.out);rintro e w' ⟨rfl,⟨nd,rfl⟩⟩));go_ret;exact ⟨es_,by repeat (first | exact Drawn0.refl _ | apply Drawn0.step)⟩
          ·replace c11:=Bool.eq_false_iff.mpr c11
           subst c11;rw [if_neg (show ¬ (false = true) by decide)] at H;have H':=Aside0.mk H;clear H;have z1 : 0 ≤ (z0 : Int):=of_decide_eq_true as_;have z2 : z0 < (l0.length : Int):=of_decide_eq_true as_;obtain ⟨z3,e227,z4⟩:=Kd.at_string HR0.out z0 z1 z2;cases e227;replace z1:=eq_true z1;replace z2:=eq_true z2;go_wp2_with (first | ((with_reducible refine gate_callee (f:=64) rfl ?_);refine goesL_ (some 16) rfl rfl Tryd.func64 (by kernel_rfl) rfl #[.string (rdOf ByteArray.empty l0 z0)] rfl ls_ ?_;(with_reducible refine (spec_l22Name.calls k1 (rdOf ByteArray.empty l0 z0) true _ A6.out).mono ?_);rintro e w' ⟨rfl,⟨nd,rfl⟩⟩;refine ⟨_,rfl,?_⟩;obtain ⟨i013,hi013,_,hsz13,_⟩:=info_parts info9;obtain ⟨hcut13,hA13,hC13⟩:=print_take_of (P:=Tryd.prog) Value.string (⟨#[]⟩ : ByteArray) 22 9 .i64 Tryd.underlying22 hi013 hsz13 (some z3) c0 l0 z0 (of_decide_eq_true as_) (of_decide_eq_true as_) HC0.out;have z6:=ak (Kd.C_of_reads (h1:=fun _ => rfl) (hA13 _ (Kd.reads_of_C HR0.out)));have z7:=Aside0.mk hC13;clear hA13 hC13 hi013 hsz13) | (go_at_call 68;refine calls_of_args (args':=#[.slice (some z3) (l0.take (z0 : Int).toNat).length c0,.string (rdOf ByteArray.empty l0 z0)]) (by first | (rw [show (l0.take (z0 : Int).toNat).length = z0.toNat from (by rw [List.length_take];have h_ : (z0 : Int) ≤ (l0.length : Int):=of_decide_eq_true as_;omega)] <;> rfl) | rfl) ?_;(with_reducible refine (spec_l22In.calls k1 _ _ (l0.take (z0 : Int).toNat) (rdOf ByteArray.empty l0 z0) false _ ?z8 ?z9 A10.out).mono ?_);(case z8 => repeat (first | exact z6.out | (with_reducible refine Kd.C_alloc ?_ _) | (with_reducible refine Kd.C_drewN ?_ _) | (with_reducible refine Kd.C_drew ?_)));(case z9 => exact z7.out);rintro e w' ⟨rfl,⟨nd,rfl⟩⟩));go_roundg k1
           case measure => have:=HK1.out;omega
           case rel => exact ⟨(wrap64 (z0 + 1)),es_,H',⟨by have:=HK1.out;omega⟩,by repeat (first | exact Drawn0.refl _ | apply Drawn0.step)⟩
         ·rw [if_neg c9] at H
          exact absurd H (by simp)
        ·replace c7:=Bool.eq_false_iff.mpr c7
         subst c7;rw [if_neg (show ¬ (false = true) by decide)] at H
         obtain rfl:=Option.some.inj H
         have z1 : 0 ≤ (z0 : Int):=of_decide_eq_true as_;have z2 : z0 < (l0.length : Int):=of_decide_eq_true as_;obtain ⟨z3,e227,z4⟩:=Kd.at_string HR0.out z0 z1 z2;cases e227;replace z1:=eq_true z1;replace z2:=eq_true z2;go_wp2_with (first | ((with_reducible refine gate_callee (f:=64) rfl ?_);refine goesL_ (some 16) rfl rfl Tryd.func64 (by kernel_rfl) rfl #[.string (rdOf ByteArray.empty l0 z0)] rfl ls_ ?_;(with_reducible refine (spec_l22Name.calls k1 (rdOf ByteArray.empty l0 z0) false _ A6.out).mono ?_);rintro e w' ⟨rfl,⟨nd,rfl⟩⟩;refine ⟨_,rfl,?_⟩));go_ret;exact ⟨es_,by repeat (first | exact Drawn0.refl _ | apply Drawn0.step)⟩
       ·rw [if_neg c5] at H
        exact absurd H (by simp)
      ·rw [if_neg c4] at H
       exact absurd H (by simp)
     ·rw [if_neg c3] at H
      have j4 : decide (z0 < (l0.length : Int)) = false:=decide_eq_false c3;clear c3
      obtain rfl:=Option.some.inj H
      go_wp2;go_ret;exact ⟨es_,by repeat (first | exact Drawn0.refl _ | apply Drawn0.step)⟩

set_option maxHeartbeats 8000000 in
set_option maxRecDepth 100000 in
theorem spec_l22Good.calls (k : Nat) (z4 : Option Addr) (c0_0 : Nat) (z0 : List ByteArray) (z7 : Option Addr) (c0_1 : Nat) (z1 : List ByteArray) (r : Bool) (w : World) (hr0_0 : Kd.C Kd.string w z4 z0.length z0) (hc0_0 : z0.length ≤ c0_0) (hr0_1 : Kd.C Kd.string w z7 z1.length z1) (hc0_1 : z1.length ≤ c0_1) (h : spec_l22Good.f k z0 z1 = some r) :
   Calls Tryd.prog 50 #[.agg #[.slice z4 z0.length c0_0,.slice z7 z1.length c0_1]] w fun e w' => e = .returned (.bool r) ∧ Below w.heap.size w w':=by
  have r4:=Tryd.underlying36;have j0:=Aside0.mk hr0_0;have j1:=Aside0.mk hc0_0;clear hr0_0 hc0_0;have j2:=Aside0.mk hr0_1;have j3:=Aside0.mk hc0_1;clear hr0_1 hc0_1;have HB:=ak (Below.refl w.heap.size w);have H : ((spec_l22Names.f k z0).bind fun z9 => (if z9 = true then ((spec_l22Names.f k z1).bind fun z8 => (some z8)) else (some false))) = some r:=h;clear h;replace H:=Option.bind_eq_some_iff.mp H;obtain ⟨z9,A20,H⟩:=H;replace H : (if z9 = true then ((spec_l22Names.f k z1).bind fun z8 => (some z8)) else (some false)) = some r:=H;have A2:=Aside0.mk A20;clear A20;by_cases c3 : z9 = true
  ·subst c3
   rw [if_pos rfl] at H;replace H:=Option.bind_eq_some_iff.mp H;obtain ⟨z8,A40,H⟩:=H;replace H : (some z8) = some r:=H;have A4:=Aside0.mk A40;clear A40
   obtain rfl:=Option.some.inj H
   go_enter Tryd.func50,Tryd.ntmps50;go_wp2_with (first | ((with_reducible refine gate_dst (N:=1) rfl ?_);refine box_event ?hg (N:=1) ?hd (cs:=#[.slice z4 z0.length c0_0,.slice z7 z1.length c0_1]) (t:=36) ?hr ?_;(case hd => rfl);(case hg => rfl);(case hr => first | (go_simp;done) | (go_simp;rfl));intro z2 hg w5 hbox hb;have z3:=ak (hbox);have j4 : Aside0 (w.heap.size ≤ z2):=gz_;have j5 : Aside0 (w.heap.size ≤ z2):=gz_;replace HB:=ak (below_step hb_ hb);clear hb hbox hg;have j6:=b20 z3;have j7:=b21 z3;have j8:=blk_frozen z3.out 0;have j9:=blk_frozen z3.out 1) | ((with_reducible refine gate_callee (f:=87) rfl ?_);refine goesL_ (some 5) rfl rfl Tryd.func87 (by kernel_rfl) rfl #[.slice z4 z0.length c0_0] rfl ls_ ?_;(with_reducible refine (spec_l22Names.calls k _ _ z0 true _ ?z5 ?z6 A2.out).mono ?_);(case z5 => exact cb_ j0.out);(case z6 => exact j1.out);rintro e w' ⟨rfl,⟨nd,rfl⟩⟩;refine ⟨_,rfl,?_⟩) | (go_at_call 87;(with_reducible refine (spec_l22Names.calls k _ _ z1 z8 _ ?z5 ?z6 A4.out).mono ?_);(case z5 => repeat (first | exact (Kd.C_below j2.out hb_) | (with_reducible refine Kd.C_alloc ?_ _) | (with_reducible refine Kd.C_drewN ?_ _) | (with_reducible refine Kd.C_drew ?_)));(case z6 => exact j3.out);rintro e w' ⟨rfl,⟨nd,rfl⟩⟩));go_ret;exact ⟨er_,hb_⟩
  ·replace c3:=Bool.eq_false_iff.mpr c3
   subst c3;rw [if_neg (show ¬ (false = true) by decide)] at H
   obtain rfl:=Option.some.inj H
   go_enter Tryd.func50,Tryd.ntmps50;go_wp2_with (first | ((with_reducible refine gate_dst (N:=1) rfl ?_);refine box_event ?hg (N:=1) ?hd (cs:=#[.slice z4 z0.length c0_0,.slice z7 z1.length c0_1]) (t:=36) ?hr ?_;(case hd => rfl);(case hg => rfl);(case hr => first | (go_simp;done) | (go_simp;rfl));intro z2 hg w7 hbox hb;have z3:=ak (hbox);have j4 : Aside0 (w.heap.size ≤ z2):=gz_;have j5 : Aside0 (w.heap.size ≤ z2):=gz_;replace HB:=ak (below_step hb_ hb);clear hb hbox hg;have r0:=b20 z3;have r1:=b21 z3;have r2:=blk_frozen z3.out 0;have r3:=blk_frozen z3.out 1) | ((with_reducible refine gate_callee (f:=87) rfl ?_);refine goesL_ (some 5) rfl rfl Tryd.func87 (by kernel_rfl) rfl #[.slice z4 z0.length c0_0] rfl ls_ ?_;(with_reducible refine (spec_l22Names.calls k _ _ z0 false _ ?z5 ?z6 A2.out).mono ?_);(case z5 => exact cb_ j0.out);(case z6 => exact j1.out);rintro e w' ⟨rfl,⟨nd,rfl⟩⟩;refine ⟨_,rfl,?_⟩));go_ret;exact ⟨er_,hb_⟩

end Go.Proofs.YtdihodboopeakaaDoor.Pr
namespace Go.Proofs.YtdihodboopeakaaDoor.Pr
open Go.RowKit Go.Proofs.YtdihodboopeakaaDoorW.PrintWords Go.Proofs.YtdihodboopeakaaDoorW.PrintLast Go.Proofs.YtdihodboopeakaaDoorW.PrintMore
attribute [local go_sem] max2_int min2_int max_two min_two max_three min_three max_four min_four
set_option linter.unusedVariables false
set_option linter.unusedSimpArgs false

set_option maxHeartbeats 8000000 in
set_option maxRecDepth 100000 in
theorem spec_l22Safe.calls (k : Nat) (r4 : Option Addr) (c0_0 : Nat) (z7 : List ByteArray) (r5 : Option Addr) (c0_1 : Nat) (z9 : List Bool) (m3 : Option Addr) (c0_2 : Nat) (z2 : List (List Int)) (m4 : Option Addr) (c1_0 : Nat) (r0 : List ByteArray) (r8 : Option Addr) (c1_1 : Nat) (j7 : List ByteArray) (P2_ : Nat → Prop) (za0 : Value) (l2 : List Int) (r : List Int) (w0 w : World) (hB : Below w0.heap.size w0 w) (hr0_0 : ∀ W_,Kept w W_ (fun k_ => P2_ k_) → Kd.C Kd.string W_ r4 z7.length z7) (hc0_0 : z7.length ≤ c0_0) (hr0_1 : ∀ W_,Kept w W_ (fun k_ => P2_ k_) → Kd.C Kd.bool W_ r5 z9.length z9) (hc0_1 : z9.length ≤ c0_1) (hr0_2 : ∀ W_,Kept w W_ (fun k_ => P2_ k_) → Kd.C (Kd.slice 3 (Kd.int .i64)) W_ m3 z2.length z2) (hc0_2 : z2.length ≤ c0_2) (hr1_0 : ∀ W_,Kept w W_ (fun k_ => P2_ k_) → Kd.C Kd.string W_ m4 r0.length r0) (hc1_0 : r0.length ≤ c1_0) (hr1_1 : ∀ W_,Kept w W_ (fun k_ => P2_ k_) → Kd.C Kd.string W_ r8 j7.length j7) (hc1_1 : j7.length ≤ c1_1) (ho2 : Kd.R (Kd.int .i64) 3 w w0.heap.size P2_ za0 l2) (h : spec_l22Safe.f k z7 z9 z2 r0 j7 l2 = some r) :
   Calls Tryd.prog 88 #[.agg #[.slice r4 z7.length c0_0,.slice r5 z9.length c0_1,.slice m3 z2.length c0_2],.agg #[.slice m4 r0.length c1_0,.slice r8 j7.length c1_1],za0] w fun e w' => e = .returned (.tuple #[]) ∧ Kd.R (Kd.int .i64) 3 w' w0.heap.size (fun k_ => (P2_ k_ ∨ w.heap.size ≤ k_)) za0 r ∧ Below w0.heap.size w0 w' ∧ Kept w w' (fun k_ => P2_ k_):=by
  have zs6:=Tryd.underlying34;have zs7:=Tryd.underlying36;have ze7:=Aside0.mk hr0_0;have zp3:=Aside0.mk hc0_0;clear hr0_0 hc0_0;have m7:=Aside0.mk hr0_1;have zp4:=Aside0.mk hc0_1;clear hr0_1 hc0_1;have ze8:=Aside0.mk hr0_2;have zp5:=Aside0.mk hc0_2;clear hr0_2 hc0_2;have zp6:=Aside0.mk hr1_0;have zp7:=Aside0.mk hc1_0;clear hr1_0 hc1_0;have ze9:=Aside0.mk hr1_1;have zf0:=Aside0.mk hc1_1;clear hr1_1 hc1_1;have HO2:=ak (show Kd.R (Kd.int .i64) 3 w w0.heap.size (fun k_ => (P2_ k_ ∨ w.heap.size ≤ k_)) za0 l2 from Kd.R_mono ho2 (fun k_ hk => (.inl hk)));have HK:=ak (Kept.refl w (fun k_ => P2_ k_));have HW0:=Aside0.mk hB.size;have HB:=Aside0.mk hB;clear hB;have H : (spec_l22Safe.l0 k l2 z7 (z7.length : Int) 0 z7 z9 z2 r0 j7) = some r:=h;clear h;have H':=Aside0.mk H;clear H;go_enter Tryd.func88,Tryd.ntmps88;go_wp2_with (first | ((with_reducible refine gate_dst (N:=3) rfl ?_);(try (refine gate_guard (by rfl) ?_;dsimp only));refine box_event ?hg (N:=3) ?hd (cs:=#[.slice r4 z7.length c0_0,.slice r5 z9.length c0_1,.slice m3 z2.length c0_2]) (t:=34) ?hr ?_;(case hd => rfl);(case hg => rfl);(case hr => first | (go_simp;done) | (go_simp;rfl));intro j2 hg w4 hbox hb;replace HO2:=ak (Kd.R_below (ra_ HO2.out) hb);have z1:=ak (hbox);have j3:=ak ((by rw [hg];exact (by first | exact HK.out.1 | exact (show Kept w _ (fun k_ => P2_ k_) from by repeat (first | (with_reducible first | exact HK.out | apply Kept.alloc | apply Kept.drewN | apply Kept.drew) | exact HK.out)).1) : w.heap.size ≤ j2));replace HK:=ak (Kept.below (S:=(fun k_ => P2_ k_)) (by repeat (first | (with_reducible first | exact HK.out | apply Kept.alloc | apply Kept.drewN | apply Kept.drew) | exact HK.out)) hb);have zp8 : Aside0 (w0.heap.size ≤ j2):=gz_;replace HB:=ak (below_step hb_ hb);clear hb hbox hg) | ((with_reducible refine gate_dst (N:=4) rfl ?_);(try (refine gate_guard (by rfl) ?_;dsimp only));refine box_event ?hg (N:=4) ?hd (cs:=#[.slice m4 r0.length c1_0,.slice r8 j7.length c1_1]) (t:=36) ?hr ?_;(case hd => rfl);(case hg => rfl);(case hr => first | (go_simp;done) | (go_simp;rfl));intro r1 hg w5 hbox hb;replace HO2:=ak (Kd.R_below (ra_ HO2.out) hb);have z8:=ak (hbox);have j4:=ak ((by rw [hg];exact (by first | exact HK.out.1 | exact (show Kept w _ (fun k_ => P2_ k_) from by repeat (first | (with_reducible first | exact HK.out | apply Kept.alloc | apply Kept.drewN | apply Kept.drew | refine Kept.setCell ?_ (.inr j3.out) _) | exact HK.out)).1) : w.heap.size ≤ r1));replace HK:=ak (Kept.below (S:=(fun k_ => P2_ k_)) (by repeat (first | (with_reducible first | exact HK.out | apply Kept.alloc | apply Kept.drewN | apply Kept.drew | refine Kept.setCell ?_ (.inr j3.out) _) | exact HK.out)) hb);have zp9 : Aside0 (w0.heap.size ≤ r1):=gz_;have j8:=ak ((by rw [hg];exact Nat.ne_of_lt (blk_lt (g:=j2) (o:=.cells #[.slice r4 z7.length c0_0,.slice r5 z9.length c0_1,.slice m3 z2.length c0_2] 34 (0,0)) (bk_ z1.out)) : j2 ≠ r1));have j9:=ak ((by rw [hg];exact Nat.ne_of_gt (blk_lt (g:=j2) (o:=.cells #[.slice r4 z7.length c0_0,.slice r5 z9.length c0_1,.slice m3 z2.length c0_2] 34 (0,0)) (bk_ z1.out)) : r1 ≠ j2));replace z1:=bb_ z1 hb;replace HB:=ak (below_step hb_ hb);clear hb hbox hg;have zs8:=j8.out;have zs9:=j9.out;have zo0:=b30 z1;have zo1:=b31 z1;have zo2:=b32 z1;have zo3:=blk_frozen z1.out 0;have zo4:=blk_frozen z1.out 1;have zo5:=blk_frozen z1.out 2))
  go_loopg [17] k (fun kq v17 w' => ∃ (j5 : List Int) (j1 : Int),v17 = .int .i64 j1 ∧ Aside0 (spec_l22Safe.l0 kq j5 z7 (z7.length : Int) j1 z7 z9 z2 r0 j7 = some r) ∧ Aside0 (kq ≤ k) ∧ Aside0 (Kd.R (Kd.int .i64) 3 w' w0.heap.size (fun k_ => (P2_ k_ ∨ w.heap.size ≤ k_)) za0 j5) ∧ Aside0 (w'.heap[j2]? = some (.cells #[(.slice r4 z7.length c0_0),(.slice r5 z9.length c0_1),(.slice m3 z2.length c0_2)] 34 (0,0))) ∧ Aside0 (w'.heap[r1]? = some (.cells #[(.slice m4 r0.length c1_0),(.slice r8 j7.length c1_1)] 36 (0,0))) ∧ Aside0 (Kept w w' (fun k_ => P2_ k_)) ∧ Aside0 (Below w0.heap.size w0 w'))
  case atStart => exact ⟨(l2),(0),es_,H',⟨Nat.le_refl _⟩,⟨ra_ HO2.out⟩,⟨bk_ z1.out⟩,⟨bk_ z8.out⟩,⟨by repeat (first | (with_reducible first | exact HK.out | apply Kept.alloc | apply Kept.drewN | apply Kept.drew | refine Kept.setCell ?_ (.inr j3.out) _ | refine Kept.setCell ?_ (.inr j4.out) _) | exact HK.out)⟩,⟨hb_⟩⟩
  case round =>
   clear H';obtain ⟨j5,j1,rfl,HA,HK1,z6,z1,z8,HK,HB⟩:=hrel
   cases gk with
   | zero => exact absurd HA.out (by simp [spec_l22Safe.l0])
   | succ k1 =>
    have H:=HA.out;clear HA;simp only [spec_l22Safe.l0] at H;by_cases c8 : j1 < (z7.length : Int)
    ·rw [if_pos c8] at H
     have zi3 : decide (j1 < (z7.length : Int)) = true:=decide_eq_true c8;clear c8;by_cases c9 : 0 ≤ j1
     ·rw [if_pos c9] at H
      have zt0 : decide (0 ≤ j1) = true:=decide_eq_true c9;clear c9;by_cases c10 : j1 < (z7.length : Int)
      ·rw [if_pos c10] at H
       have zq0 : decide (j1 < (z7.length : Int)) = true:=decide_eq_true c10;clear c10;replace H:=Option.bind_eq_some_iff.mp H;obtain ⟨zg7,zg8,H⟩:=H;replace H : (if zg7 = true then (if j1 < (j5.length : Int) then (spec_l22Safe.l0 k1 (j5.set (j1 : Int).toNat (-1)) z7 (z7.length : Int) (wrap64 (j1 + 1)) z7 z9 z2 r0 j7) else (none)) else (spec_l22Safe.l0 k1 j5 z7 (z7.length : Int) (wrap64 (j1 + 1)) z7 z9 z2 r0 j7)) = some r:=H;have A11:=Aside0.mk zg8;clear zg8;by_cases c12 : zg7 = true
       ·subst c12
        rw [if_pos rfl] at H;by_cases c13 : j1 < (j5.length : Int)
        ·rw [if_pos c13] at H
         have zq1 : decide (j1 < (j5.length : Int)) = true:=decide_eq_true c13;clear c13;obtain ⟨zc9,zb0⟩ : ∃ y_ : List Int,y_ = (j5.set (j1 : Int).toNat (-1)):=⟨_,rfl⟩;(replace H : (spec_l22Safe.l0 k1 zc9 z7 (z7.length : Int) (wrap64 (j1 + 1)) z7 z9 z2 r0 j7) = some r:=by first | (rw [zb0];with_reducible exact H) | (have H2_:=(Option.bind_some _ _).symm.trans H;rw [zb0];with_reducible exact H2_) | (have H2_:=(Option.bind_some _ _).symm.trans H;with_reducible exact H2_) | with_reducible exact H | (rw [zb0];exact H) | exact H);have zh6:=Aside0.mk zb0;clear zb0;have H':=Aside0.mk H;clear H;have za2 : 0 ≤ (j1 : Int):=of_decide_eq_true as_;have za3 : j1 < (z7.length : Int):=of_decide_eq_true as_;obtain ⟨zf1,e341,zg3⟩:=Kd.at_string (Kd.C_kept_now ze7.out HK.out) j1 za2 za3;cases e341;replace za2:=eq_true za2;replace za3:=eq_true za3;have zq2:=j9.out;have zq3:=j8.out;have zi9:=b20 z8;have zj0:=b21 z8;have zj1:=blk_frozen z8.out 0;have zj2:=blk_frozen z8.out 1;go_wp2_with (first | ((with_reducible refine gate_callee (f:=68) rfl ?_);refine goesL_ (some 25) rfl rfl Tryd.func68 (by kernel_rfl) rfl #[.slice r8 j7.length c1_1,.string (rdOf ByteArray.empty z7 j1)] rfl ls_ ?_;(with_reducible refine (spec_l22In.calls k1 _ _ j7 (rdOf ByteArray.empty z7 j1) true _ ?zc3 ?zc4 A11.out).mono ?_);(case zc3 => exact Kd.C_kept_now ze9.out (by repeat (first | (with_reducible first | exact HK.out | apply Kept.alloc | apply Kept.drewN | apply Kept.drew | refine Kept.setCell ?_ (.inr j3.out) _ | refine Kept.setCell ?_ (.inr j4.out) _) | exact HK.out)));(case zc4 => exact zf0.out);rintro e w' ⟨rfl,⟨nd,rfl⟩⟩;refine ⟨_,rfl,?_⟩;(try (rw [drewN_self wr];generalize hq_ : World.drewN wr _ = wr;replace z6:=ak (Kd.R_at hq_ z6.out);replace z1:=ak (blk_at hq_ z1.out);replace z8:=ak (blk_at hq_ z8.out);replace HK:=ak (kept_at hq_ HK.out);replace HB:=ak (below_at hq_ HB.out);clear hq_));have p14 : 0 ≤ (j1 : Int):=of_decide_eq_true as_;have q14 : (j1 : Int) < ((j5.length : Int) : Int):=of_decide_eq_true as_;obtain ⟨zb8,zi4,zg9,zh0,gl14,cl14,HG14⟩:=Kd.R_form z6.out (by omega);(first | cases zg9 | (injection zg9 with ea_ en_ ec_;(first | subst ea_ | (injection ea_ with ea_;subst ea_));subst ec_;clear en_));have zi5:=Aside0.mk zh0;have zt1:=Aside0.mk HG14;clear zh0 gl14 HG14;have HMgo14:=ak (show (P2_ zb8 ∨ w.heap.size ≤ zb8) from (z6.out.1 _ rfl));obtain ⟨zo6,zo7⟩:=Kd.R_celln 0 z6.out (j1 : Int) p14 q14;replace p14:=eq_true p14;replace q14:=eq_true q14;obtain ⟨zq4,hz17_⟩:=Kd.R_celln 0 z6.out (j1 : Int) (of_decide_eq_true as_) (of_decide_eq_true as_);have zd0:=Kd.R_putg z6.out (j1 : Int) (-1)) | ((with_reducible refine gate_store (t:=3) (p:=28) rfl ?_);refine store_event (t:=3) (p:=28) (v:=?vo_w18) (w1:=(wr.setCell ⟨zb8,(j1 : Int).toNat,none⟩ (.int .i64 (-1)))) ?hg ?ho ?hn ?hr ?_;(case ho => rfl);(case hg => rfl);(case hn => rfl);(case hr => first | (go_simp;done) | (go_simp;rfl));intro w18 hw;have hg : wr.grownBy w18 (some zb8):=(by rw [hw];exact zd0.2);have hp_ : Kd.R (Kd.int .i64) 3 w18 w0.heap.size (fun k_ => (P2_ k_ ∨ w.heap.size ≤ k_)) (.slice (some ⟨zb8,0,none⟩) j5.length zi4) zc9:=(by rw [hw,zh6.out];exact zd0.1);clear zd0;replace z1:=ak (blk_grown (g:=j2) (o:=.cells #[.slice (some zf1) z7.length c0_0,.slice r5 z9.length c0_1,.slice m3 z2.length c0_2] 34 (0,0)) (bk_ z1.out) hg (Kd.R_ne z6.out z1.out (by decide)));replace z8:=ak (blk_grown (g:=r1) (o:=.cells #[.slice m4 r0.length c1_0,.slice r8 j7.length c1_1] 36 (0,0)) (bk_ z8.out) hg (Kd.R_ne z6.out z8.out (by decide)));replace HK:=ak (Kept.of_grown (S:=(fun k_ => P2_ k_)) hg (by repeat (first | (with_reducible first | exact HK.out | apply Kept.alloc | apply Kept.drewN | apply Kept.drew | refine Kept.setCell ?_ (.inr j3.out) _ | refine Kept.setCell ?_ (.inr j4.out) _) | exact HK.out)) (fun k_ e_ => (z6.out.1 k_ e_)));replace z6:=ak (hp_);replace HB:=ak ((by rw [hw];exact below_set (HB.out) zi5.out : Below w0.heap.size w0 w18));clear hg hw hp_))
         go_roundg k1
         case measure => have:=HK1.out;omega
         case rel => exact ⟨(zc9),(wrap64 (j1 + 1)),es_,H',⟨by have:=HK1.out;omega⟩,⟨ra_ z6.out⟩,⟨bk_ z1.out⟩,⟨bk_ z8.out⟩,⟨by repeat (first | (with_reducible first | exact HK.out | apply Kept.alloc | apply Kept.drewN | apply Kept.drew | refine Kept.setCell ?_ (.inr j3.out) _ | refine Kept.setCell ?_ (.inr j4.out) _) | exact HK.out)⟩,⟨hb_⟩⟩
        ·rw [if_neg c13] at H
         exact absurd H (by simp)
       ·replace c12:=Bool.eq_false_iff.mpr c12
        subst c12;rw [if_neg (show ¬ (false = true) by decide)] at H;have H':=Aside0.mk H;clear H;have za2 : 0 ≤ (j1 : Int):=of_decide_eq_true as_;have za3 : j1 < (z7.length : Int):=of_decide_eq_true as_;obtain ⟨zf1,e341,zg3⟩:=Kd.at_string (Kd.C_kept_now ze7.out HK.out) j1 za2 za3;cases e341;replace za2:=eq_true za2;replace za3:=eq_true za3;have zq5:=j9.out;have zq6:=j8.out;have zj3:=b20 z8;have zj4:=b21 z8;have zj5:=blk_frozen z8.out 0;have zj6:=blk_frozen z8.out 1;go_wp2_with (first | ((with_reducible refine gate_callee (f:=68) rfl ?_);refine goesL_ (some 25) rfl rfl Tryd.func68 (by kernel_rfl) rfl #[.slice r8 j7.length c1_1,.string (rdOf ByteArray.empty z7 j1)] rfl ls_ ?_;(with_reducible refine (spec_l22In.calls k1 _ _ j7 (rdOf ByteArray.empty z7 j1) false _ ?zc3 ?zc4 A11.out).mono ?_);(case zc3 => exact Kd.C_kept_now ze9.out (by repeat (first | (with_reducible first | exact HK.out | apply Kept.alloc | apply Kept.drewN | apply Kept.drew | refine Kept.setCell ?_ (.inr j3.out) _ | refine Kept.setCell ?_ (.inr j4.out) _) | exact HK.out)));(case zc4 => exact zf0.out);rintro e w' ⟨rfl,⟨nd,rfl⟩⟩;refine ⟨_,rfl,?_⟩));go_roundg k1
        case measure => have:=HK1.out;omega
        case rel => exact ⟨(j5),(wrap64 (j1 + 1)),es_,H',⟨by have:=HK1.out;omega⟩,⟨ra_ z6.out⟩,⟨bk_ z1.out⟩,⟨bk_ z8.out⟩,⟨by repeat (first | (with_reducible first | exact HK.out | apply Kept.alloc | apply Kept.drewN | apply Kept.drew | refine Kept.setCell ?_ (.inr j3.out) _ | refine Kept.setCell ?_ (.inr j4.out) _) | exact HK.out)⟩,⟨hb_⟩⟩
      ·rw [if_neg c10] at H
       exact absurd H (by simp)
     ·rw [if_neg c9] at H
      exact absurd H (by simp)
    ·rw [if_neg c8] at H
     have zi3 : decide (j1 < (z7.length : Int)) = false:=decide_eq_false c8;clear c8;have H':=Aside0.mk H;clear H;obtain ⟨zc5,zb6,zi6⟩:=Kd.R_slice z6.out;subst zi6;go_wp2
     go_loopg [32] k1 (fun kq v32 w' => ∃ (r7 : List Int) (r2 : Int),v32 = .int .i64 r2 ∧ Aside0 (spec_l22Safe.l1 kq r7 (j5.length : Int) r2 z7 z9 z2 = some r) ∧ Aside0 (kq ≤ k1) ∧ Aside0 (Kd.R (Kd.int .i64) 3 w' w0.heap.size (fun k_ => (P2_ k_ ∨ w.heap.size ≤ k_)) (.slice zc5 j5.length zb6) r7) ∧ Aside0 (w'.heap[j2]? = some (.cells #[(.slice r4 z7.length c0_0),(.slice r5 z9.length c0_1),(.slice m3 z2.length c0_2)] 34 (0,0))) ∧ Aside0 (w'.heap[r1]? = some (.cells #[(.slice m4 r0.length c1_0),(.slice r8 j7.length c1_1)] 36 (0,0))) ∧ Aside0 (Kept w w' (fun k_ => P2_ k_)) ∧ Aside0 (Below w0.heap.size w0 w'))
     case atStart => exact ⟨(j5),(0),es_,H',⟨Nat.le_refl _⟩,⟨ra_ z6.out⟩,⟨bk_ z1.out⟩,⟨bk_ z8.out⟩,⟨by repeat (first | (with_reducible first | exact HK.out | apply Kept.alloc | apply Kept.drewN | apply Kept.drew | refine Kept.setCell ?_ (.inr j3.out) _ | refine Kept.setCell ?_ (.inr j4.out) _) | exact HK.out)⟩,⟨hb_⟩⟩
     case round =>
      clear H';obtain ⟨r7,r2,rfl,HA,HK2,z6,z1,z8,HK,HB⟩:=hrel;have z3:=(Kd.R_reads' z6.out).1;rw [z3] at z6;(try simp only [z3]);(try simp only [z3] at z1);(try simp only [z3] at z8)
      cases gk with
      | zero => exact absurd HA.out (by simp [spec_l22Safe.l1])
      | succ k2 =>
       have H:=HA.out;clear HA;simp only [spec_l22Safe.l1] at H;by_cases c22 : r2 < (j5.length : Int)
       ·rw [if_pos c22] at H
        have zc6 : decide (r2 < (j5.length : Int)) = true:=decide_eq_true c22;(try simp only [z3] at zc6);clear c22;have H':=Aside0.mk H;clear H;go_wp2
        go_loopg [38] k2 (fun kq v38 w' => ∃ (j0 : List Int) (z0 : Int),v38 = .int .i64 z0 ∧ Aside0 (spec_l22Safe.l2 kq j0 (j5.length : Int) r2 (r7.length : Int) z0 z7 z9 z2 = some r) ∧ Aside0 (kq ≤ k2) ∧ Aside0 (Kd.R (Kd.int .i64) 3 w' w0.heap.size (fun k_ => (P2_ k_ ∨ w.heap.size ≤ k_)) (.slice zc5 r7.length zb6) j0) ∧ Aside0 (w'.heap[j2]? = some (.cells #[(.slice r4 z7.length c0_0),(.slice r5 z9.length c0_1),(.slice m3 z2.length c0_2)] 34 (0,0))) ∧ Aside0 (w'.heap[r1]? = some (.cells #[(.slice m4 r0.length c1_0),(.slice r8 j7.length c1_1)] 36 (0,0))) ∧ Aside0 (Kept w w' (fun k_ => P2_ k_)) ∧ Aside0 (Below w0.heap.size w0 w'))
        case atStart => exact ⟨(r7),(0),es_,H',⟨Nat.le_refl _⟩,⟨by (try simp only [z3]);exact ra_ z6.out⟩,⟨by (try simp only [z3]);exact bk_ z1.out⟩,⟨by (try simp only [z3]);exact bk_ z8.out⟩,⟨by repeat (first | (with_reducible first | exact HK.out | apply Kept.alloc | apply Kept.drewN | apply Kept.drew | refine Kept.setCell ?_ (.inr j3.out) _ | refine Kept.setCell ?_ (.inr j4.out) _) | exact HK.out)⟩,⟨hb_⟩⟩
        case round =>
         clear H';obtain ⟨j0,z0,rfl,HA,HK3,z6,z1,z8,HK,HB⟩:=hrel;have z4:=(Kd.R_reads' z6.out).1;rw [z4] at z6;(try simp only [z4]);(try simp only [z4] at z1);(try simp only [z4] at z8)
         cases gk with
         | zero => exact absurd HA.out (by simp [spec_l22Safe.l2])
         | succ k3 =>
          have H:=HA.out;clear HA;simp only [spec_l22Safe.l2] at H;by_cases c23 : z0 < (r7.length : Int)
          ·rw [if_pos c23] at H
           have zb1 : decide (z0 < (r7.length : Int)) = true:=decide_eq_true c23;(try simp only [z3] at zb1);(try simp only [z4] at zb1);clear c23;have zd1:=Aside0.mk H;clear H
           go_upto_region 14 with (fail)
           go_cut [54] (fun v54 wc => ∃ (kq : Nat) (zb2 : Bool),v54 = .bool zb2 ∧ Aside0 (spec_l22Safe.j3 kq j0 z0 (j5.length : Int) r2 (r7.length : Int) z0 zb2 z7 z9 z2 = some r) ∧ Aside0 (kq ≤ k3) ∧ Aside0 (Kd.R (Kd.int .i64) 3 wc w0.heap.size (fun k_ => (P2_ k_ ∨ w.heap.size ≤ k_)) (.slice zc5 j0.length zb6) j0) ∧ Aside0 (wc.heap[j2]? = some (.cells #[(.slice r4 z7.length c0_0),(.slice r5 z9.length c0_1),(.slice m3 z2.length c0_2)] 34 (0,0))) ∧ Aside0 (wc.heap[r1]? = some (.cells #[(.slice m4 r0.length c1_0),(.slice r8 j7.length c1_1)] 36 (0,0))) ∧ Aside0 (Kept w wc (fun k_ => P2_ k_)) ∧ Aside0 (Below w0.heap.size w0 wc))
           case first =>
            have H:=zd1.out;clear zd1;by_cases c25 : 0 ≤ z0
            ·rw [if_pos c25] at H
             have zf2 : decide (0 ≤ z0) = true:=decide_eq_true c25;clear c25;(first | rw [zf2] | (simp only [i64_w,i32_w];rw [zf2]) | skip);by_cases c26 : z0 < (j0.length : Int)
             ·rw [if_pos c26] at H
              have zf3 : decide (z0 < (j0.length : Int)) = true:=decide_eq_true c26;(try simp only [z3] at zf3);(try simp only [z4] at zf3);clear c26;by_cases c27 : (rd j0 z0) < 0
              ·rw [if_pos c27] at H
               have zh7 : decide ((rd j0 z0) < 0) = true:=decide_eq_true c27;clear c27;have H':=Aside0.mk H;clear H;have za4 : 0 ≤ (z0 : Int):=of_decide_eq_true as_;have za5 : z0 < (j0.length : Int):=of_decide_eq_true as_;obtain ⟨zh8,e344,zg4⟩:=Kd.at_int (Kd.R_reads' z6.out).2.2 z0 za4 za5;cases e344;replace za4:=eq_true za4;replace za5:=eq_true za5;go_wp2;go_meet
               case rel => exact ⟨_,(true),es_,H',⟨by have:=HK1.out;have:=HK2.out;have:=HK3.out;first | omega | exact Nat.le_refl _⟩,⟨by (try simp only [z3]);(try simp only [z4]);exact ra_ z6.out⟩,⟨by (try simp only [z3]);(try simp only [z4]);exact bk_ z1.out⟩,⟨by (try simp only [z3]);(try simp only [z4]);exact bk_ z8.out⟩,⟨by repeat (first | (with_reducible first | exact HK.out | apply Kept.alloc | apply Kept.drewN | apply Kept.drew | refine Kept.setCell ?_ (.inr j3.out) _ | refine Kept.setCell ?_ (.inr j4.out) _) | exact HK.out)⟩,⟨hb_⟩⟩
              ·rw [if_neg c27] at H
               have zh7 : decide ((rd j0 z0) < 0) = false:=decide_eq_false c27;clear c27;by_cases c28 : z0 < (z2.length : Int)
               ·rw [if_pos c28] at H
                have zf4 : decide (z0 < (z2.length : Int)) = true:=decide_eq_true c28;(try simp only [z3] at zf4);(try simp only [z4] at zf4);clear c28;have H':=Aside0.mk H;clear H;have za4 : 0 ≤ (z0 : Int):=of_decide_eq_true as_;have za5 : z0 < (j0.length : Int):=of_decide_eq_true as_;obtain ⟨zh8,e344,zg4⟩:=Kd.at_int (Kd.R_reads' z6.out).2.2 z0 za4 za5;cases e344;replace za4:=eq_true za4;replace za5:=eq_true za5;have zq7:=j8.out;have zq8:=j9.out;have zj7:=b30 z1;have zj8:=b31 z1;have zj9:=b32 z1;have zk0:=blk_frozen z1.out 0;have zk1:=blk_frozen z1.out 1;have zk2:=blk_frozen z1.out 2;have zd2 : 0 ≤ (z0 : Int):=of_decide_eq_true as_;have zd3 : z0 < (z2.length : Int):=of_decide_eq_true as_;obtain ⟨zq9,zo8,c345_0,e345,zk3,zc1,hi345_0⟩:=at_L3 (Kd.C_kept_now ze8.out HK.out) z0 zd2 zd3;cases e345;have zk4:=Aside0.mk hi345_0;have zk5:=Aside0.mk zc1;clear hi345_0 zc1;replace zd2:=eq_true zd2;replace zd3:=eq_true zd3;go_wp2;go_meet
                case rel => exact ⟨_,((((rd_L3 z2 z0).length : Int) == 0)),es_,H',⟨by have:=HK1.out;have:=HK2.out;have:=HK3.out;first | omega | exact Nat.le_refl _⟩,⟨by (try simp only [z3]);(try simp only [z4]);exact ra_ z6.out⟩,⟨by (try simp only [z3]);(try simp only [z4]);exact bk_ z1.out⟩,⟨by (try simp only [z3]);(try simp only [z4]);exact bk_ z8.out⟩,⟨by repeat (first | (with_reducible first | exact HK.out | apply Kept.alloc | apply Kept.drewN | apply Kept.drew | refine Kept.setCell ?_ (.inr j3.out) _ | refine Kept.setCell ?_ (.inr j4.out) _) | exact HK.out)⟩,⟨hb_⟩⟩
               ·rw [if_neg c28] at H
                exact absurd H (by simp)
             ·rw [if_neg c26] at H
              exact absurd H (by simp)
            ·rw [if_neg c25] at H
             exact absurd H (by simp)
           case rest =>
            clear zd1;obtain ⟨kq,zb2,rfl,HA,r6,z6,z1,z8,HK,HB⟩:=hcut
            cases kq with
            | zero => exact absurd HA.out (by simp [spec_l22Safe.j3])
            | succ zd4 =>
             have H:=HA.out;clear HA;simp only [spec_l22Safe.j3] at H;by_cases c31 : zb2 = true
             ·subst c31
              rw [if_pos rfl] at H;have H':=Aside0.mk H;clear H;go_wp2;(try simp only [← z4]);go_roundg zd4
              case measure => have:=HK1.out;have:=HK2.out;have:=HK3.out;have:=r6.out;omega
              case rel => exact ⟨(j0),(wrap64 (z0 + 1)),es_,H',⟨by have:=HK1.out;have:=HK2.out;have:=HK3.out;have:=r6.out;omega⟩,⟨by (try simp only [z3]);(try simp only [z4]);exact ra_ z6.out⟩,⟨by (try simp only [z3]);(try simp only [z4]);exact bk_ z1.out⟩,⟨by (try simp only [z3]);(try simp only [z4]);exact bk_ z8.out⟩,⟨by repeat (first | (with_reducible first | exact HK.out | apply Kept.alloc | apply Kept.drewN | apply Kept.drew | refine Kept.setCell ?_ (.inr j3.out) _ | refine Kept.setCell ?_ (.inr j4.out) _) | exact HK.out)⟩,⟨hb_⟩⟩
             ·replace c31:=Bool.eq_false_iff.mpr c31
              subst c31;rw [if_neg (show ¬ (false = true) by decide)] at H;by_cases c32 : 0 ≤ z0
              ·rw [if_pos c32] at H
               have zr0 : decide (0 ≤ z0) = true:=decide_eq_true c32;clear c32;by_cases c33 : z0 < (z2.length : Int)
               ·rw [if_pos c33] at H
                have zf5 : decide (z0 < (z2.length : Int)) = true:=decide_eq_true c33;(try simp only [z3] at zf5);(try simp only [z4] at zf5);clear c33;have H':=Aside0.mk H;clear H;have zr1:=j8.out;have zr2:=j9.out;have zk6:=b30 z1;have zk7:=b31 z1;have zk8:=b32 z1;have zk9:=blk_frozen z1.out 0;have zl0:=blk_frozen z1.out 1;have zl1:=blk_frozen z1.out 2;have zd5 : 0 ≤ (z0 : Int):=of_decide_eq_true as_;have zd6 : z0 < (z2.length : Int):=of_decide_eq_true as_;obtain ⟨m8,zh1,c346_0,e346,zl2,zc2,hi346_0⟩:=at_L3 (Kd.C_kept_now ze8.out HK.out) z0 zd5 zd6;cases e346;have j6:=Aside0.mk hi346_0;have zl3:=Aside0.mk zc2;clear hi346_0 zc2;replace zd5:=eq_true zd5;replace zd6:=eq_true zd6;go_wp2
                go_loopg [10,11,61] zd4 (fun kq v10 v11 v61 w' => ∃ (za1 : Bool) (m9 : Bool) (z5 : Int),v10 = .bool za1 ∧ v11 = .bool m9 ∧ v61 = .int .i64 z5 ∧ Aside0 (spec_l22Safe.l3 kq j0 z0 za1 m9 (j5.length : Int) r2 (r7.length : Int) z0 (rd_L3 z2 z0) ((rd_L3 z2 z0).length : Int) z5 z7 z9 z2 = some r) ∧ Aside0 (kq ≤ zd4) ∧ Aside0 (Kd.R (Kd.int .i64) 3 w' w0.heap.size (fun k_ => (P2_ k_ ∨ w.heap.size ≤ k_)) (.slice zc5 j0.length zb6) j0) ∧ Aside0 (w'.heap[j2]? = some (.cells #[(.slice r4 z7.length c0_0),(.slice r5 z9.length c0_1),(.slice (some m8) z2.length c0_2)] 34 (0,0))) ∧ Aside0 (w'.heap[r1]? = some (.cells #[(.slice m4 r0.length c1_0),(.slice r8 j7.length c1_1)] 36 (0,0))) ∧ Aside0 (Kd.C (Kd.int .i64) w' zh1 (rd_L3 z2 z0).length (rd_L3 z2 z0)) ∧ Aside0 (Kept w w' (fun k_ => P2_ k_)) ∧ Aside0 (Below w0.heap.size w0 w'))
                case atStart => exact ⟨(false),(true),(0),es_,es_,es_,H',⟨Nat.le_refl _⟩,⟨by (try simp only [z3]);(try simp only [z4]);exact ra_ z6.out⟩,⟨by (try simp only [z3]);(try simp only [z4]);exact bk_ z1.out⟩,⟨by (try simp only [z3]);(try simp only [z4]);exact bk_ z8.out⟩,⟨by repeat (first | (with_reducible exact j6.out) | (with_reducible refine Kd.C_alloc ?_ _) | (with_reducible refine Kd.C_drewN ?_ _) | (with_reducible refine Kd.C_drew ?_) | exact j6.out)⟩,⟨by repeat (first | (with_reducible first | exact HK.out | apply Kept.alloc | apply Kept.drewN | apply Kept.drew | refine Kept.setCell ?_ (.inr j3.out) _ | refine Kept.setCell ?_ (.inr j4.out) _) | exact HK.out)⟩,⟨hb_⟩⟩
                case round =>
                 clear H';obtain ⟨za1,m9,z5,rfl,rfl,rfl,HA,HK5,z6,z1,z8,j6,HK,HB⟩:=hrel
                 cases gk with
                 | zero => exact absurd HA.out (by simp [spec_l22Safe.l3])
                 | succ k5 =>
                  have H:=HA.out;clear HA;simp only [spec_l22Safe.l3] at H;by_cases c36 : z5 < ((rd_L3 z2 z0).length : Int)
                  ·rw [if_pos c36] at H
                   have zb3 : decide (z5 < ((rd_L3 z2 z0).length : Int)) = true:=decide_eq_true c36;(try simp only [z3] at zb3);(try simp only [z4] at zb3);clear c36;by_cases c37 : 0 ≤ z5
                   ·rw [if_pos c37] at H
                    have zr3 : decide (0 ≤ z5) = true:=decide_eq_true c37;clear c37;by_cases c38 : z5 < ((rd_L3 z2 z0).length : Int)
                    ·rw [if_pos c38] at H
                     have zf6 : decide (z5 < ((rd_L3 z2 z0).length : Int)) = true:=decide_eq_true c38;(try simp only [z3] at zf6);(try simp only [z4] at zf6);clear c38;by_cases c39 : za1 = true
                     ·subst c39
                      rw [if_pos rfl] at H;by_cases c40 : m9 = true
                      ·subst c40
                       rw [if_pos rfl] at H;by_cases c41 : 0 ≤ (rd (rd_L3 z2 z0) z5)
                       ·rw [if_pos c41] at H
                        have zr4 : decide (0 ≤ (rd (rd_L3 z2 z0) z5)) = true:=decide_eq_true c41;clear c41;by_cases c42 : (rd (rd_L3 z2 z0) z5) < (j0.length : Int)
                        ·rw [if_pos c42] at H
                         have zf7 : decide ((rd (rd_L3 z2 z0) z5) < (j0.length : Int)) = true:=decide_eq_true c42;(try simp only [z3] at zf7);(try simp only [z4] at zf7);clear c42;have H':=Aside0.mk H;clear H;have r9 : 0 ≤ (z5 : Int):=of_decide_eq_true as_;have m0 : z5 < ((rd_L3 z2 z0).length : Int):=of_decide_eq_true as_;obtain ⟨zc7,e347,r3⟩:=Kd.at_int j6.out z5 r9 m0;cases e347;(try replace r3:=hc_ HB r3);replace r9:=eq_true r9;replace m0:=eq_true m0;have zd7 : 0 ≤ ((rd (rd_L3 z2 z0) z5) : Int):=of_decide_eq_true as_;have zd8 : (rd (rd_L3 z2 z0) z5) < (j0.length : Int):=of_decide_eq_true as_;obtain ⟨zr5,e348,zl4⟩:=Kd.at_int (Kd.R_reads' z6.out).2.2 (rd (rd_L3 z2 z0) z5) zd7 zd8;cases e348;replace zd7:=eq_true zd7;replace zd8:=eq_true zd8;go_wp2;go_roundg k5
                         case measure => have:=HK1.out;have:=HK2.out;have:=HK3.out;have:=r6.out;have:=HK5.out;omega
                         case rel => exact ⟨(true),(decide ((rd j0 (rd (rd_L3 z2 z0) z5)) ≥ 0)),(wrap64 (z5 + 1)),es_,es_,es_,H',⟨by have:=HK1.out;have:=HK2.out;have:=HK3.out;have:=r6.out;have:=HK5.out;omega⟩,⟨by (try simp only [z3]);(try simp only [z4]);exact ra_ z6.out⟩,⟨by (try simp only [z3]);(try simp only [z4]);exact bk_ z1.out⟩,⟨by (try simp only [z3]);(try simp only [z4]);exact bk_ z8.out⟩,⟨by repeat (first | (with_reducible exact j6.out) | (with_reducible refine Kd.C_alloc ?_ _) | (with_reducible refine Kd.C_drewN ?_ _) | (with_reducible refine Kd.C_drew ?_) | exact j6.out)⟩,⟨by repeat (first | (with_reducible first | exact HK.out | apply Kept.alloc | apply Kept.drewN | apply Kept.drew | refine Kept.setCell ?_ (.inr j3.out) _ | refine Kept.setCell ?_ (.inr j4.out) _) | exact HK.out)⟩,⟨hb_⟩⟩
                        ·rw [if_neg c42] at H
                         exact absurd H (by simp)
                       ·rw [if_neg c41] at H
                        exact absurd H (by simp)
                      ·replace c40:=Bool.eq_false_iff.mpr c40
                       subst c40;rw [if_neg (show ¬ (false = true) by decide)] at H;have H':=Aside0.mk H;clear H;have r9 : 0 ≤ (z5 : Int):=of_decide_eq_true as_;have m0 : z5 < ((rd_L3 z2 z0).length : Int):=of_decide_eq_true as_;obtain ⟨zc7,e347,r3⟩:=Kd.at_int j6.out z5 r9 m0;cases e347;(try replace r3:=hc_ HB r3);replace r9:=eq_true r9;replace m0:=eq_true m0;go_wp2;go_roundg k5
                       case measure => have:=HK1.out;have:=HK2.out;have:=HK3.out;have:=r6.out;have:=HK5.out;omega
                       case rel => exact ⟨(true),(false),(wrap64 (z5 + 1)),es_,es_,es_,H',⟨by have:=HK1.out;have:=HK2.out;have:=HK3.out;have:=r6.out;have:=HK5.out;omega⟩,⟨by (try simp only [z3]);(try simp only [z4]);exact ra_ z6.out⟩,⟨by (try simp only [z3]);(try simp only [z4]);exact bk_ z1.out⟩,⟨by (try simp only [z3]);(try simp only [z4]);exact bk_ z8.out⟩,⟨by repeat (first | (with_reducible exact j6.out) | (with_reducible refine Kd.C_alloc ?_ _) | (with_reducible refine Kd.C_drewN ?_ _) | (with_reducible refine Kd.C_drew ?_) | exact j6.out)⟩,⟨by repeat (first | (with_reducible first | exact HK.out | apply Kept.alloc | apply Kept.drewN | apply Kept.drew | refine Kept.setCell ?_ (.inr j3.out) _ | refine Kept.setCell ?_ (.inr j4.out) _) | exact HK.out)⟩,⟨hb_⟩⟩
                     ·replace c39:=Bool.eq_false_iff.mpr c39
                      subst c39;rw [if_neg (show ¬ (false = true) by decide)] at H;by_cases c43 : 0 ≤ (rd (rd_L3 z2 z0) z5)
                      ·rw [if_pos c43] at H
                       have zr6 : decide (0 ≤ (rd (rd_L3 z2 z0) z5)) = true:=decide_eq_true c43;clear c43;by_cases c44 : (rd (rd_L3 z2 z0) z5) < (j0.length : Int)
                       ·rw [if_pos c44] at H
                        have zf8 : decide ((rd (rd_L3 z2 z0) z5) < (j0.length : Int)) = true:=decide_eq_true c44;(try simp only [z3] at zf8);(try simp only [z4] at zf8);clear c44;by_cases c45 : m9 = true
                        ·subst c45
                         rw [if_pos rfl] at H;have H':=Aside0.mk H;clear H;have r9 : 0 ≤ (z5 : Int):=of_decide_eq_true as_;have m0 : z5 < ((rd_L3 z2 z0).length : Int):=of_decide_eq_true as_;obtain ⟨zc7,e347,r3⟩:=Kd.at_int j6.out z5 r9 m0;cases e347;(try replace r3:=hc_ HB r3);replace r9:=eq_true r9;replace m0:=eq_true m0;have za6 : 0 ≤ ((rd (rd_L3 z2 z0) z5) : Int):=of_decide_eq_true as_;have za7 : (rd (rd_L3 z2 z0) z5) < (j0.length : Int):=of_decide_eq_true as_;obtain ⟨zf9,e349,zg5⟩:=Kd.at_int (Kd.R_reads' z6.out).2.2 (rd (rd_L3 z2 z0) z5) za6 za7;cases e349;replace za6:=eq_true za6;replace za7:=eq_true za7;have zd9 : 0 ≤ ((rd (rd_L3 z2 z0) z5) : Int):=of_decide_eq_true as_;have ze0 : (rd (rd_L3 z2 z0) z5) < (j0.length : Int):=of_decide_eq_true as_;obtain ⟨zh9,e350,zl5⟩:=Kd.at_int (Kd.R_reads' z6.out).2.2 (rd (rd_L3 z2 z0) z5) zd9 ze0
                         obtain rfl : zf9 = zh9:=(by injection e350)
                         replace zd9:=eq_true zd9;replace ze0:=eq_true ze0;go_wp2;go_roundg k5
                         case measure => have:=HK1.out;have:=HK2.out;have:=HK3.out;have:=r6.out;have:=HK5.out;omega
                         case rel => exact ⟨(decide ((rd j0 (rd (rd_L3 z2 z0) z5)) ≥ 0)),(decide ((rd j0 (rd (rd_L3 z2 z0) z5)) ≥ 0)),(wrap64 (z5 + 1)),es_,es_,es_,H',⟨by have:=HK1.out;have:=HK2.out;have:=HK3.out;have:=r6.out;have:=HK5.out;omega⟩,⟨by (try simp only [z3]);(try simp only [z4]);exact ra_ z6.out⟩,⟨by (try simp only [z3]);(try simp only [z4]);exact bk_ z1.out⟩,⟨by (try simp only [z3]);(try simp only [z4]);exact bk_ z8.out⟩,⟨by repeat (first | (with_reducible exact j6.out) | (with_reducible refine Kd.C_alloc ?_ _) | (with_reducible refine Kd.C_drewN ?_ _) | (with_reducible refine Kd.C_drew ?_) | exact j6.out)⟩,⟨by repeat (first | (with_reducible first | exact HK.out | apply Kept.alloc | apply Kept.drewN | apply Kept.drew | refine Kept.setCell ?_ (.inr j3.out) _ | refine Kept.setCell ?_ (.inr j4.out) _) | exact HK.out)⟩,⟨hb_⟩⟩
                        ·replace c45:=Bool.eq_false_iff.mpr c45
                         subst c45;rw [if_neg (show ¬ (false = true) by decide)] at H;have H':=Aside0.mk H;clear H;have r9 : 0 ≤ (z5 : Int):=of_decide_eq_true as_;have m0 : z5 < ((rd_L3 z2 z0).length : Int):=of_decide_eq_true as_;obtain ⟨zc7,e347,r3⟩:=Kd.at_int j6.out z5 r9 m0;cases e347;(try replace r3:=hc_ HB r3);replace r9:=eq_true r9;replace m0:=eq_true m0;have za6 : 0 ≤ ((rd (rd_L3 z2 z0) z5) : Int):=of_decide_eq_true as_;have za7 : (rd (rd_L3 z2 z0) z5) < (j0.length : Int):=of_decide_eq_true as_;obtain ⟨zf9,e349,zg5⟩:=Kd.at_int (Kd.R_reads' z6.out).2.2 (rd (rd_L3 z2 z0) z5) za6 za7;cases e349;replace za6:=eq_true za6;replace za7:=eq_true za7;go_wp2;go_roundg k5
                         case measure => have:=HK1.out;have:=HK2.out;have:=HK3.out;have:=r6.out;have:=HK5.out;omega
                         case rel => exact ⟨(decide ((rd j0 (rd (rd_L3 z2 z0) z5)) ≥ 0)),(false),(wrap64 (z5 + 1)),es_,es_,es_,H',⟨by have:=HK1.out;have:=HK2.out;have:=HK3.out;have:=r6.out;have:=HK5.out;omega⟩,⟨by (try simp only [z3]);(try simp only [z4]);exact ra_ z6.out⟩,⟨by (try simp only [z3]);(try simp only [z4]);exact bk_ z1.out⟩,⟨by (try simp only [z3]);(try simp only [z4]);exact bk_ z8.out⟩,⟨by repeat (first | (with_reducible exact j6.out) | (with_reducible refine Kd.C_alloc ?_ _) | (with_reducible refine Kd.C_drewN ?_ _) | (with_reducible refine Kd.C_drew ?_) | exact j6.out)⟩,⟨by repeat (first | (with_reducible first | exact HK.out | apply Kept.alloc | apply Kept.drewN | apply Kept.drew | refine Kept.setCell ?_ (.inr j3.out) _ | refine Kept.setCell ?_ (.inr j4.out) _) | exact HK.out)⟩,⟨hb_⟩⟩
                       ·rw [if_neg c44] at H
                        exact absurd H (by simp)
                      ·rw [if_neg c43] at H
                       exact absurd H (by simp)
                    ·rw [if_neg c38] at H
                     exact absurd H (by simp)
                   ·rw [if_neg c37] at H
                    exact absurd H (by simp)
                  ·rw [if_neg c36] at H
                   have zb3 : decide (z5 < ((rd_L3 z2 z0).length : Int)) = false:=decide_eq_false c36;(try simp only [z3] at zb3);(try simp only [z4] at zb3);clear c36;by_cases c46 : 0 ≤ z0
                   ·rw [if_pos c46] at H
                    have zr7 : decide (0 ≤ z0) = true:=decide_eq_true c46;clear c46;by_cases c47 : z0 < (z9.length : Int)
                    ·rw [if_pos c47] at H
                     have zg0 : decide (z0 < (z9.length : Int)) = true:=decide_eq_true c47;(try simp only [z3] at zg0);(try simp only [z4] at zg0);clear c47;obtain ⟨bq48,hbq48⟩ : ∃ b_ : Bool,b_ = (rdOf false z9 z0):=⟨_,rfl⟩;(replace H : (if bq48 = true then (if za1 = true then (spec_l22Safe.l2 k5 j0 (j5.length : Int) r2 (r7.length : Int) (wrap64 (z0 + 1)) z7 z9 z2) else (if z0 < (j0.length : Int) then (spec_l22Safe.l2 k5 (j0.set (z0 : Int).toNat (-1)) (j5.length : Int) r2 (r7.length : Int) (wrap64 (z0 + 1)) z7 z9 z2) else (none))) else (if m9 = true then (spec_l22Safe.l2 k5 j0 (j5.length : Int) r2 (r7.length : Int) (wrap64 (z0 + 1)) z7 z9 z2) else (if z0 < (j0.length : Int) then (spec_l22Safe.l2 k5 (j0.set (z0 : Int).toNat (-1)) (j5.length : Int) r2 (r7.length : Int) (wrap64 (z0 + 1)) z7 z9 z2) else (none)))) = some r:=by rw [← hbq48] at H;exact H);have Nbq48:=Aside0.mk hbq48;clear hbq48;by_cases c49 : bq48 = true
                     ·subst c49
                      rw [if_pos rfl] at H;by_cases c50 : za1 = true
                      ·subst c50
                       rw [if_pos rfl] at H;have H':=Aside0.mk H;clear H;have zr8:=j8.out;have zr9:=j9.out;have zl6:=b30 z1;have zl7:=b31 z1;have zl8:=b32 z1;have zl9:=blk_frozen z1.out 0;have zm0:=blk_frozen z1.out 1;have zm1:=blk_frozen z1.out 2;have m1 : 0 ≤ (z0 : Int):=of_decide_eq_true as_;have m2 : z0 < (z9.length : Int):=of_decide_eq_true as_;obtain ⟨m6,e351,m5⟩:=Kd.at_bool (Kd.C_kept_now m7.out HK.out) z0 m1 m2;(try rw [← Nbq48.out] at m5);cases e351;replace m1:=eq_true m1;replace m2:=eq_true m2;have ze1 : 0 ≤ (z0 : Int):=of_decide_eq_true as_;have ze2 : z0 < (z9.length : Int):=of_decide_eq_true as_;obtain ⟨zi0,e352,zg6⟩:=Kd.at_bool (Kd.C_kept_now m7.out HK.out) z0 ze1 ze2;(try rw [← Nbq48.out] at zg6)
                       obtain rfl : m6 = zi0:=(by injection e352)
                       replace ze1:=eq_true ze1;replace ze2:=eq_true ze2;go_wp2;(try simp only [← z4]);go_roundg k5
                       case measure => have:=HK1.out;have:=HK2.out;have:=HK3.out;have:=r6.out;have:=HK5.out;omega
                       case rel => exact ⟨(j0),(wrap64 (z0 + 1)),es_,H',⟨by have:=HK1.out;have:=HK2.out;have:=HK3.out;have:=r6.out;have:=HK5.out;omega⟩,⟨by (try simp only [z3]);(try simp only [z4]);exact ra_ z6.out⟩,⟨by (try simp only [z3]);(try simp only [z4]);exact bk_ z1.out⟩,⟨by (try simp only [z3]);(try simp only [z4]);exact bk_ z8.out⟩,⟨by repeat (first | (with_reducible first | exact HK.out | apply Kept.alloc | apply Kept.drewN | apply Kept.drew | refine Kept.setCell ?_ (.inr j3.out) _ | refine Kept.setCell ?_ (.inr j4.out) _) | exact HK.out)⟩,⟨hb_⟩⟩
                      ·replace c50:=Bool.eq_false_iff.mpr c50
                       subst c50;rw [if_neg (show ¬ (false = true) by decide)] at H;by_cases c53 : z0 < (j0.length : Int)
                       ·rw [if_pos c53] at H
                        have zg1 : decide (z0 < (j0.length : Int)) = true:=decide_eq_true c53;(try simp only [z3] at zg1);(try simp only [z4] at zg1);clear c53;obtain ⟨ze3,zb4⟩ : ∃ y_ : List Int,y_ = (j0.set (z0 : Int).toNat (-1)):=⟨_,rfl⟩;(replace H : (spec_l22Safe.l2 k5 ze3 (j5.length : Int) r2 (r7.length : Int) (wrap64 (z0 + 1)) z7 z9 z2) = some r:=by first | (rw [zb4];with_reducible exact H) | (have H2_:=(Option.bind_some _ _).symm.trans H;rw [zb4];with_reducible exact H2_) | (have H2_:=(Option.bind_some _ _).symm.trans H;with_reducible exact H2_) | with_reducible exact H | (rw [zb4];exact H) | exact H);have zi1:=Aside0.mk zb4;clear zb4;have H':=Aside0.mk H;clear H;have zs0:=j8.out;have zs1:=j9.out;have zm2:=b30 z1;have zm3:=b31 z1;have zm4:=b32 z1;have zm5:=blk_frozen z1.out 0;have zm6:=blk_frozen z1.out 1;have zm7:=blk_frozen z1.out 2;have m1 : 0 ≤ (z0 : Int):=of_decide_eq_true as_;have m2 : z0 < (z9.length : Int):=of_decide_eq_true as_;obtain ⟨m6,e351,m5⟩:=Kd.at_bool (Kd.C_kept_now m7.out HK.out) z0 m1 m2;(try rw [← Nbq48.out] at m5);cases e351;replace m1:=eq_true m1;replace m2:=eq_true m2;have p54 : 0 ≤ (z0 : Int):=of_decide_eq_true as_;have q54 : (z0 : Int) < ((j0.length : Int) : Int):=of_decide_eq_true as_;obtain ⟨zb9,zt2,zh2,zh3,gl54,cl54,HG54⟩:=Kd.R_form z6.out (by omega);(first | cases zh2 | (injection zh2 with ea_ en_ ec_;(first | subst ea_ | (injection ea_ with ea_;subst ea_));subst ec_;clear en_));have zi7:=Aside0.mk zh3;have zt3:=Aside0.mk HG54;clear zh3 gl54 HG54;have HMgo54:=ak (show (P2_ zb9 ∨ w.heap.size ≤ zb9) from (z6.out.1 _ rfl));obtain ⟨zo9,zp0⟩:=Kd.R_celln 0 z6.out (z0 : Int) p54 q54;replace p54:=eq_true p54;replace q54:=eq_true q54;have ze4:=Kd.R_putg z6.out (z0 : Int) (-1);go_wp2_with (first | ((with_reducible refine gate_store (t:=3) (p:=105) rfl ?_);refine store_event (t:=3) (p:=105) (v:=?vo_w58) (w1:=(wr.setCell ⟨zb9,(z0 : Int).toNat,none⟩ (.int .i64 (-1)))) ?hg ?ho ?hn ?hr ?_;(case ho => rfl);(case hg => rfl);(case hn => rfl);(case hr => first | (go_simp;done) | (go_simp;rfl));intro w58 hw;have hg : wr.grownBy w58 (some zb9):=(by rw [hw];exact ze4.2);have hp_ : Kd.R (Kd.int .i64) 3 w58 w0.heap.size (fun k_ => (P2_ k_ ∨ w.heap.size ≤ k_)) (.slice (some ⟨zb9,0,none⟩) j0.length zb6) ze3:=(by rw [hw,zi1.out];exact ze4.1);clear ze4;replace z1:=ak (blk_grown (g:=j2) (o:=.cells #[.slice r4 z7.length c0_0,.slice (some m6) z9.length c0_1,.slice (some m8) z2.length c0_2] 34 (0,0)) (bk_ z1.out) hg (Kd.R_ne z6.out z1.out (by decide)));replace z8:=ak (blk_grown (g:=r1) (o:=.cells #[.slice m4 r0.length c1_0,.slice r8 j7.length c1_1] 36 (0,0)) (bk_ z8.out) hg (Kd.R_ne z6.out z8.out (by decide)));replace HK:=ak (Kept.of_grown (S:=(fun k_ => P2_ k_)) hg (by repeat (first | (with_reducible first | exact HK.out | apply Kept.alloc | apply Kept.drewN | apply Kept.drew | refine Kept.setCell ?_ (.inr j3.out) _ | refine Kept.setCell ?_ (.inr j4.out) _) | exact HK.out)) (fun k_ e_ => (z6.out.1 k_ e_)));replace z6:=ak (hp_);replace HB:=ak ((by rw [hw];exact below_set (HB.out) zi7.out : Below w0.heap.size w0 w58));clear hg hw hp_));(try simp only [← z4]);go_roundg k5
                        case measure => have:=HK1.out;have:=HK2.out;have:=HK3.out;have:=r6.out;have:=HK5.out;omega
                        case rel => exact ⟨(ze3),(wrap64 (z0 + 1)),es_,H',⟨by have:=HK1.out;have:=HK2.out;have:=HK3.out;have:=r6.out;have:=HK5.out;omega⟩,⟨by (try simp only [z3]);(try simp only [z4]);exact ra_ z6.out⟩,⟨by (try simp only [z3]);(try simp only [z4]);exact bk_ z1.out⟩,⟨by (try simp only [z3]);(try simp only [z4]);exact bk_ z8.out⟩,⟨by repeat (first | (with_reducible first | exact HK.out | apply Kept.alloc | apply Kept.drewN | apply Kept.drew | refine Kept.setCell ?_ (.inr j3.out) _ | refine Kept.setCell ?_ (.inr j4.out) _) | exact HK.out)⟩,⟨hb_⟩⟩
                       ·rw [if_neg c53] at H
                        exact absurd H (by simp)
                     ·replace c49:=Bool.eq_false_iff.mpr c49
                      subst c49;rw [if_neg (show ¬ (false = true) by decide)] at H;by_cases c59 : m9 = true
                      ·subst c59
                       rw [if_pos rfl] at H;have H':=Aside0.mk H;clear H;have zs2:=j8.out;have zs3:=j9.out;have zm8:=b30 z1;have zm9:=b31 z1;have zn0:=b32 z1;have zn1:=blk_frozen z1.out 0;have zn2:=blk_frozen z1.out 1;have zn3:=blk_frozen z1.out 2;have m1 : 0 ≤ (z0 : Int):=of_decide_eq_true as_;have m2 : z0 < (z9.length : Int):=of_decide_eq_true as_;obtain ⟨m6,e351,m5⟩:=Kd.at_bool (Kd.C_kept_now m7.out HK.out) z0 m1 m2;(try rw [← Nbq48.out] at m5);cases e351;replace m1:=eq_true m1;replace m2:=eq_true m2;have za8 : 0 ≤ (z0 : Int):=of_decide_eq_true as_;have za9 : z0 < (z9.length : Int):=of_decide_eq_true as_;obtain ⟨zc8,e354,zb7⟩:=Kd.at_bool (Kd.C_kept_now m7.out HK.out) z0 za8 za9;(try rw [← Nbq48.out] at zb7)
                       obtain rfl : m6 = zc8:=(by injection e354)
                       replace za8:=eq_true za8;replace za9:=eq_true za9;go_wp2;(try simp only [← z4]);go_roundg k5
                       case measure => have:=HK1.out;have:=HK2.out;have:=HK3.out;have:=r6.out;have:=HK5.out;omega
                       case rel => exact ⟨(j0),(wrap64 (z0 + 1)),es_,H',⟨by have:=HK1.out;have:=HK2.out;have:=HK3.out;have:=r6.out;have:=HK5.out;omega⟩,⟨by (try simp only [z3]);(try simp only [z4]);exact ra_ z6.out⟩,⟨by (try simp only [z3]);(try simp only [z4]);exact bk_ z1.out⟩,⟨by (try simp only [z3]);(try simp only [z4]);exact bk_ z8.out⟩,⟨by repeat (first | (with_reducible first | exact HK.out | apply Kept.alloc | apply Kept.drewN | apply Kept.drew | refine Kept.setCell ?_ (.inr j3.out) _ | refine Kept.setCell ?_ (.inr j4.out) _) | exact HK.out)⟩,⟨hb_⟩⟩
                      ·replace c59:=Bool.eq_false_iff.mpr c59
                       subst c59;rw [if_neg (show ¬ (false = true) by decide)] at H;by_cases c62 : z0 < (j0.length : Int)
                       ·rw [if_pos c62] at H
                        have zg2 : decide (z0 < (j0.length : Int)) = true:=decide_eq_true c62;(try simp only [z3] at zg2);(try simp only [z4] at zg2);clear c62;obtain ⟨ze5,zb5⟩ : ∃ y_ : List Int,y_ = (j0.set (z0 : Int).toNat (-1)):=⟨_,rfl⟩;(replace H : (spec_l22Safe.l2 k5 ze5 (j5.length : Int) r2 (r7.length : Int) (wrap64 (z0 + 1)) z7 z9 z2) = some r:=by first | (rw [zb5];with_reducible exact H) | (have H2_:=(Option.bind_some _ _).symm.trans H;rw [zb5];with_reducible exact H2_) | (have H2_:=(Option.bind_some _ _).symm.trans H;with_reducible exact H2_) | with_reducible exact H | (rw [zb5];exact H) | exact H);have zi2:=Aside0.mk zb5;clear zb5;have H':=Aside0.mk H;clear H;have zs4:=j8.out;have zs5:=j9.out;have zn4:=b30 z1;have zn5:=b31 z1;have zn6:=b32 z1;have zn7:=blk_frozen z1.out 0;have zn8:=blk_frozen z1.out 1;have zn9:=blk_frozen z1.out 2;have m1 : 0 ≤ (z0 : Int):=of_decide_eq_true as_;have m2 : z0 < (z9.length : Int):=of_decide_eq_true as_;obtain ⟨m6,e351,m5⟩:=Kd.at_bool (Kd.C_kept_now m7.out HK.out) z0 m1 m2;(try rw [← Nbq48.out] at m5);cases e351;replace m1:=eq_true m1;replace m2:=eq_true m2;have za8 : 0 ≤ (z0 : Int):=of_decide_eq_true as_;have za9 : z0 < (z9.length : Int):=of_decide_eq_true as_;obtain ⟨zc8,e354,zb7⟩:=Kd.at_bool (Kd.C_kept_now m7.out HK.out) z0 za8 za9;(try rw [← Nbq48.out] at zb7)
                        obtain rfl : m6 = zc8:=(by injection e354)
                        replace za8:=eq_true za8;replace za9:=eq_true za9;have p63 : 0 ≤ (z0 : Int):=of_decide_eq_true as_;have q63 : (z0 : Int) < ((j0.length : Int) : Int):=of_decide_eq_true as_;obtain ⟨zc0,zt4,zh4,zh5,gl63,cl63,HG63⟩:=Kd.R_form z6.out (by omega);(first | cases zh4 | (injection zh4 with ea_ en_ ec_;(first | subst ea_ | (injection ea_ with ea_;subst ea_));subst ec_;clear en_));have zi8:=Aside0.mk zh5;have zt5:=Aside0.mk HG63;clear zh5 gl63 HG63;have HMgo63:=ak (show (P2_ zc0 ∨ w.heap.size ≤ zc0) from (z6.out.1 _ rfl));obtain ⟨zp1,zp2⟩:=Kd.R_celln 0 z6.out (z0 : Int) p63 q63;replace p63:=eq_true p63;replace q63:=eq_true q63;have ze6:=Kd.R_putg z6.out (z0 : Int) (-1);go_wp2_with (first | ((with_reducible refine gate_store (t:=3) (p:=105) rfl ?_);refine store_event (t:=3) (p:=105) (v:=?vo_w67) (w1:=(wr.setCell ⟨zc0,(z0 : Int).toNat,none⟩ (.int .i64 (-1)))) ?hg ?ho ?hn ?hr ?_;(case ho => rfl);(case hg => rfl);(case hn => rfl);(case hr => first | (go_simp;done) | (go_simp;rfl));intro w67 hw;have hg : wr.grownBy w67 (some zc0):=(by rw [hw];exact ze6.2);have hp_ : Kd.R (Kd.int .i64) 3 w67 w0.heap.size (fun k_ => (P2_ k_ ∨ w.heap.size ≤ k_)) (.slice (some ⟨zc0,0,none⟩) j0.length zb6) ze5:=(by rw [hw,zi2.out];exact ze6.1);clear ze6;replace z1:=ak (blk_grown (g:=j2) (o:=.cells #[.slice r4 z7.length c0_0,.slice (some m6) z9.length c0_1,.slice (some m8) z2.length c0_2] 34 (0,0)) (bk_ z1.out) hg (Kd.R_ne z6.out z1.out (by decide)));replace z8:=ak (blk_grown (g:=r1) (o:=.cells #[.slice m4 r0.length c1_0,.slice r8 j7.length c1_1] 36 (0,0)) (bk_ z8.out) hg (Kd.R_ne z6.out z8.out (by decide)));replace HK:=ak (Kept.of_grown (S:=(fun k_ => P2_ k_)) hg (by repeat (first | (with_reducible first | exact HK.out | apply Kept.alloc | apply Kept.drewN | apply Kept.drew | refine Kept.setCell ?_ (.inr j3.out) _ | refine Kept.setCell ?_ (.inr j4.out) _) | exact HK.out)) (fun k_ e_ => (z6.out.1 k_ e_)));replace z6:=ak (hp_);replace HB:=ak ((by rw [hw];exact below_set (HB.out) zi8.out : Below w0.heap.size w0 w67));clear hg hw hp_));(try simp only [← z4]);go_roundg k5
                        case measure => have:=HK1.out;have:=HK2.out;have:=HK3.out;have:=r6.out;have:=HK5.out;omega
                        case rel => exact ⟨(ze5),(wrap64 (z0 + 1)),es_,H',⟨by have:=HK1.out;have:=HK2.out;have:=HK3.out;have:=r6.out;have:=HK5.out;omega⟩,⟨by (try simp only [z3]);(try simp only [z4]);exact ra_ z6.out⟩,⟨by (try simp only [z3]);(try simp only [z4]);exact bk_ z1.out⟩,⟨by (try simp only [z3]);(try simp only [z4]);exact bk_ z8.out⟩,⟨by repeat (first | (with_reducible first | exact HK.out | apply Kept.alloc | apply Kept.drewN | apply Kept.drew | refine Kept.setCell ?_ (.inr j3.out) _ | refine Kept.setCell ?_ (.inr j4.out) _) | exact HK.out)⟩,⟨hb_⟩⟩
                       ·rw [if_neg c62] at H
                        exact absurd H (by simp)
                    ·rw [if_neg c47] at H
                     exact absurd H (by simp)
                   ·rw [if_neg c46] at H
                    exact absurd H (by simp)
               ·rw [if_neg c33] at H
                exact absurd H (by simp)
              ·rw [if_neg c32] at H
               exact absurd H (by simp)
          ·rw [if_neg c23] at H
           have zb1 : decide (z0 < (r7.length : Int)) = false:=decide_eq_false c23;(try simp only [z3] at zb1);(try simp only [z4] at zb1);clear c23;have H':=Aside0.mk H;clear H;go_wp2;(try simp only [← z3,← z4]);go_roundg k3
           case measure => have:=HK1.out;have:=HK2.out;have:=HK3.out;omega
           case rel => exact ⟨(j0),(wrap64 (r2 + 1)),es_,H',⟨by have:=HK1.out;have:=HK2.out;have:=HK3.out;omega⟩,⟨by (try simp only [z3]);(try simp only [z4]);exact ra_ z6.out⟩,⟨by (try simp only [z3]);(try simp only [z4]);exact bk_ z1.out⟩,⟨by (try simp only [z3]);(try simp only [z4]);exact bk_ z8.out⟩,⟨by repeat (first | (with_reducible first | exact HK.out | apply Kept.alloc | apply Kept.drewN | apply Kept.drew | refine Kept.setCell ?_ (.inr j3.out) _ | refine Kept.setCell ?_ (.inr j4.out) _) | exact HK.out)⟩,⟨hb_⟩⟩
       ·rw [if_neg c22] at H
        have zc6 : decide (r2 < (j5.length : Int)) = false:=decide_eq_false c22;(try simp only [z3] at zc6);clear c22
        obtain rfl:=Option.some.inj H
        go_wp2
        first | go_end0 | ((try simp only [Exit.inBlock,Exit.then]);refine bodyPost_ret (results_none rfl _ _ _) rfl ?_)
        exact ⟨er_,(by first | exact (ra_ z6.out) | (simp only [z3];exact (ra_ z6.out))),hb_,by repeat (first | (with_reducible first | exact HK.out | apply Kept.alloc | apply Kept.drewN | apply Kept.drew | refine Kept.setCell ?_ (.inr j3.out) _ | refine Kept.setCell ?_ (.inr j4.out) _) | exact HK.out)⟩

end Go.Proofs.YtdihodboopeakaaDoor.Pr
