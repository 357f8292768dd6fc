-- Joined and pruned by wip/tools/prune.py out of this session's own texts (Pr12, Pr13, Pr14, HdAlong, Prd2, Pr15, HAlong)
import Derived.Test.YtcldlljnaijmhaaZfc6
namespace Go.Proofs.Ytcldlljnaijmhaa.Pr
open Go.RowKit Go.Proofs.YtcldlljnaijmhaaW.PrintWords Go.Proofs.YtcldlljnaijmhaaW.PrintLast Go.Proofs.YtcldlljnaijmhaaW.PrintMore
attribute [local go_sem] max2_int min2_int max_two min_two max_three min_three max_four min_four
set_option linter.unusedVariables false
set_option linter.unusedSimpArgs false

set_option maxHeartbeats 8000000 in
set_option maxRecDepth 100000 in
theorem impl_FirstMeet.calls (k : Nat) (A0 : Option Addr) (c0 : Nat) (l0 : List (List Int)) (r : Int) (w : World) (hr0 : Kd.C (Kd.slice 3 (Kd.int .i64)) w A0 l0.length l0) (hc0 : l0.length ≤ c0) (h : impl_FirstMeet.f k l0 = some r) :
   Calls Try.prog 21 #[.slice A0 l0.length c0] w fun e w' => e = .returned (.int .i64 r) ∧ Drawn0 w w':=by
  have HR0:=Aside0.mk hr0;have HC0:=Aside0.mk hc0;clear hr0 hc0;have H : (if (l0.length : Int) > 5 then (some (-1)) else (impl_FirstMeet.l0 k l0 l0 (l0.length : Int) 0)) = some r:=h;clear h;by_cases c2 : (l0.length : Int) > 5
  ·rw [if_pos c2] at H
   have ze1 : decide (5 < (l0.length : Int)) = true:=decide_eq_true c2;have ze2 : decide (5 < l0.length) = true:=decide_eq_true (by omega);clear c2
   obtain rfl:=Option.some.inj H
   go_enter Try.func21,Try.ntmps21;go_wp2;(repeat (go_quiet (fail);try go_wp2));go_ret;exact ⟨es_,by repeat (first | exact Drawn0.refl _ | apply Drawn0.step)⟩
  ·rw [if_neg c2] at H
   have ze1 : decide (5 < (l0.length : Int)) = false:=decide_eq_false c2;have ze2 : decide (5 < l0.length) = false:=decide_eq_false (by omega);clear c2;have H':=Aside0.mk H;clear H;go_enter Try.func21,Try.ntmps21;go_wp2;(repeat (go_quiet (fail);try go_wp2))
   go_loopg [15] k (fun kq v15 w' => ∃ (z4 : Int),v15 = .int .i64 z4 ∧ Aside0 (impl_FirstMeet.l0 kq l0 l0 (l0.length : Int) z4 = some r) ∧ Aside0 (kq ≤ k) ∧ Drawn0 w w')
   case atStart => exact ⟨(0),es_,H',⟨Nat.le_refl _⟩,by repeat (first | exact Drawn0.refl _ | apply Drawn0.step)⟩
   case round =>
    clear H';obtain ⟨z4,rfl,HA,HK1,⟨m1,rfl⟩⟩:=hrel
    cases gk with
    | zero => exact absurd HA.out (by simp [impl_FirstMeet.l0])
    | succ k1 =>
     have H:=HA.out;clear HA;simp only [impl_FirstMeet.l0] at H;by_cases c3 : z4 < (l0.length : Int)
     ·rw [if_pos c3] at H
      have ze3 : decide (z4 < (l0.length : Int)) = true:=decide_eq_true c3;clear c3;by_cases c4 : 0 ≤ z4
      ·rw [if_pos c4] at H
       have zg9 : decide (0 ≤ z4) = true:=decide_eq_true c4;clear c4;by_cases c5 : z4 < (l0.length : Int)
       ·rw [if_pos c5] at H
        have zh0 : decide (z4 < (l0.length : Int)) = true:=decide_eq_true c5;clear c5;by_cases c6 : 0 < (l0.length : Int)
        ·rw [if_pos c6] at H
         have zh1 : decide (0 < (l0.length : Int)) = true:=decide_eq_true c6;have zh2 : decide (0 < l0.length) = true:=decide_eq_true (by omega);clear c6;by_cases c7 : ((rd_L1 l0 z4).length : Int) = ((rd_L1 l0 0).length : Int)
         ·rw [if_pos c7] at H
          have ze4 : (((rd_L1 l0 z4).length : Int) == ((rd_L1 l0 0).length : Int)) = true:=beq_iff_eq.mpr c7;have ze5 : (((rd_L1 l0 z4).length : Int) != ((rd_L1 l0 0).length : Int)) = false:=bne_eq_false_iff_eq.mpr c7;(have ze6 : ((rd_L1 l0 z4).length == (rd_L1 l0 0).length) = true:=by first | simpa using c7 | (simp at c7 ⊢;omega));clear c7;have H':=Aside0.mk H;clear H;have r9 : 0 ≤ (z4 : Int):=of_decide_eq_true as_;have m0 : z4 < (l0.length : Int):=of_decide_eq_true as_;obtain ⟨zb1,zc8,c211_0,e211,zc1,r2,hi211_0⟩:=at_L1 HR0.out z4 r9 m0;cases e211;have zc2:=Aside0.mk hi211_0;have zc3:=Aside0.mk r2;clear hi211_0 r2;replace r9:=eq_true r9;replace m0:=eq_true m0;have m5 : 0 ≤ (0 : Int):=(by omega);have m6 : 0 < (l0.length : Int):=of_decide_eq_true as_;obtain ⟨zb2,zc9,c212_0,e212,r3,r4,hi212_0⟩:=at_L1 HR0.out 0 m5 m6
          obtain rfl : zb1 = zb2:=(by injection e212)
          have qi212 : (0 < l0.length) = True:=eq_true (by omega);(try rw [show ((0 : Int)).toNat = 0 from rfl] at r3);(try rw [Addr.add_zero'] at r3);have zc4:=Aside0.mk hi212_0;have zc5:=Aside0.mk r4;clear hi212_0 r4;replace m5:=eq_true m5;replace m6:=eq_true m6;go_wp2;(repeat (go_quiet (fail);try go_wp2));go_roundg k1
          case measure => have:=HK1.out;omega
          case rel => exact ⟨(wrap64 (z4 + 1)),es_,H',⟨by have:=HK1.out;omega⟩,by repeat (first | exact Drawn0.refl _ | apply Drawn0.step)⟩
         ·rw [if_neg c7] at H
          have ze4 : (((rd_L1 l0 z4).length : Int) == ((rd_L1 l0 0).length : Int)) = false:=beq_eq_false_iff_ne.mpr c7;have ze5 : (((rd_L1 l0 z4).length : Int) != ((rd_L1 l0 0).length : Int)) = true:=bne_iff_ne.mpr c7;(have ze6 : ((rd_L1 l0 z4).length == (rd_L1 l0 0).length) = false:=by first | simpa using c7 | (simp at c7 ⊢;omega))
          obtain rfl:=Option.some.inj H
          have r9 : 0 ≤ (z4 : Int):=of_decide_eq_true as_;have m0 : z4 < (l0.length : Int):=of_decide_eq_true as_;obtain ⟨zb1,zc8,c211_0,e211,zc1,r2,hi211_0⟩:=at_L1 HR0.out z4 r9 m0;cases e211;have zc2:=Aside0.mk hi211_0;have zc3:=Aside0.mk r2;clear hi211_0 r2;replace r9:=eq_true r9;replace m0:=eq_true m0;have m5 : 0 ≤ (0 : Int):=(by omega);have m6 : 0 < (l0.length : Int):=of_decide_eq_true as_;obtain ⟨zb2,zc9,c212_0,e212,r3,r4,hi212_0⟩:=at_L1 HR0.out 0 m5 m6
          obtain rfl : zb1 = zb2:=(by injection e212)
          have qi212 : (0 < l0.length) = True:=eq_true (by omega);(try rw [show ((0 : Int)).toNat = 0 from rfl] at r3);(try rw [Addr.add_zero'] at r3);have zc4:=Aside0.mk hi212_0;have zc5:=Aside0.mk r4;clear hi212_0 r4;replace m5:=eq_true m5;replace m6:=eq_true m6;go_wp2;(repeat (go_quiet (fail);try go_wp2));go_ret;exact ⟨es_,by repeat (first | exact Drawn0.refl _ | apply Drawn0.step)⟩
        ·rw [if_neg c6] at H
         exact absurd H (by simp)
       ·rw [if_neg c5] at H
        exact absurd H (by simp)
      ·rw [if_neg c4] at H
       exact absurd H (by simp)
     ·rw [if_neg c3] at H
      have ze3 : decide (z4 < (l0.length : Int)) = false:=decide_eq_false c3;clear c3;by_cases c8 : (l0.length : Int) = 0
      ·rw [if_pos c8] at H
       have ze7 : ((l0.length : Int) == 0) = true:=beq_iff_eq.mpr c8;have ze8 : ((l0.length : Int) != 0) = false:=bne_eq_false_iff_eq.mpr c8;clear c8
       obtain rfl:=Option.some.inj H
       go_wp2;(repeat (go_quiet (fail);try go_wp2));go_ret;exact ⟨es_,by repeat (first | exact Drawn0.refl _ | apply Drawn0.step)⟩
      ·rw [if_neg c8] at H
       have ze7 : ((l0.length : Int) == 0) = false:=beq_eq_false_iff_ne.mpr c8;have ze8 : ((l0.length : Int) != 0) = true:=bne_iff_ne.mpr c8;(have zh3 : ¬ (l0 = []):=fun h_ => c8 (by rw [h_];rfl));by_cases c9 : 0 < (l0.length : Int)
       ·rw [if_pos c9] at H
        have zh4 : decide (0 < (l0.length : Int)) = true:=decide_eq_true c9;have zh5 : decide (0 < l0.length) = true:=decide_eq_true (by omega);clear c9;have H':=Aside0.mk H;clear H;have zb5 : 0 ≤ (0 : Int):=(by omega);have zb6 : 0 < (l0.length : Int):=of_decide_eq_true as_;obtain ⟨r1,zf3,c213_0,e213,za6,za7,hi213_0⟩:=at_L1 HR0.out 0 zb5 zb6;cases e213;have qi213 : (0 < l0.length) = True:=eq_true (by omega);(try rw [show ((0 : Int)).toNat = 0 from rfl] at za6);(try rw [Addr.add_zero'] at za6);have ze9:=Aside0.mk hi213_0;have zf0:=Aside0.mk za7;clear hi213_0 za7;replace zb5:=eq_true zb5;replace zb6:=eq_true zb6;go_wp2;(repeat (go_quiet (fail);try go_wp2))
        go_loopg [34] k1 (fun kq v34 w' => ∃ (z0 : Int),v34 = .int .i64 z0 ∧ Aside0 (impl_FirstMeet.l1 kq l0 ((rd_L1 l0 0).length : Int) z0 = some r) ∧ Aside0 (kq ≤ k1) ∧ Drawn0 w w')
        case atStart => exact ⟨(0),es_,H',⟨Nat.le_refl _⟩,by repeat (first | exact Drawn0.refl _ | apply Drawn0.step)⟩
        case round =>
         clear H';obtain ⟨z0,rfl,HA,HK2,⟨m2,rfl⟩⟩:=hrel
         cases gk with
         | zero => exact absurd HA.out (by simp [impl_FirstMeet.l1])
         | succ k2 =>
          have H:=HA.out;clear HA;simp only [impl_FirstMeet.l1] at H;by_cases c10 : z0 < ((rd_L1 l0 0).length : Int)
          ·rw [if_pos c10] at H
           have zd0 : decide (z0 < ((rd_L1 l0 0).length : Int)) = true:=decide_eq_true c10;clear c10;have H':=Aside0.mk H;clear H;go_wp2;(repeat (go_quiet (fail);try go_wp2))
           go_loopg [39] k2 (fun kq v39 w' => ∃ (z1 : Int),v39 = .int .i64 z1 ∧ Aside0 (impl_FirstMeet.l2 kq l0 z0 ((rd_L1 l0 0).length : Int) z0 l0 (l0.length : Int) z1 = some r) ∧ Aside0 (kq ≤ k2) ∧ Drawn0 w w')
           case atStart => exact ⟨(0),es_,H',⟨Nat.le_refl _⟩,by repeat (first | exact Drawn0.refl _ | apply Drawn0.step)⟩
           case round =>
            clear H';obtain ⟨z1,rfl,HA,HK3,⟨m3,rfl⟩⟩:=hrel
            cases gk with
            | zero => exact absurd HA.out (by simp [impl_FirstMeet.l2])
            | succ k3 =>
             have H:=HA.out;clear HA;simp only [impl_FirstMeet.l2] at H;by_cases c11 : z1 < (l0.length : Int)
             ·rw [if_pos c11] at H
              have zd1 : decide (z1 < (l0.length : Int)) = true:=decide_eq_true c11;clear c11;by_cases c12 : 0 ≤ z1
              ·rw [if_pos c12] at H
               have zf5 : decide (0 ≤ z1) = true:=decide_eq_true c12;clear c12;by_cases c13 : z1 < (l0.length : Int)
               ·rw [if_pos c13] at H
                have zf6 : decide (z1 < (l0.length : Int)) = true:=decide_eq_true c13;clear c13;have zf7:=eq_true (of_decide_eq_true as_ : 0 ≤ z1);by_cases c15 : z1 ≤ (l0.length : Int)
                ·rw [if_pos c15] at H
                 have zf8:=eq_true c15;have zf9 : decide (z1 ≤ (l0.length : Int)) = true:=decide_eq_true c15;clear c15;obtain ⟨z3,za1⟩ : ∃ y_ : List (List Int),y_ = (l0.take (z1 : Int).toNat):=⟨_,rfl⟩;(replace H : (impl_FirstMeet.l3 k3 l0 z0 (rd_L1 l0 z1) ((rd_L1 l0 0).length : Int) z0 l0 (l0.length : Int) z1 z3 (z3.length : Int) 0) = some r:=by first | (rw [za1];with_reducible exact H) | (have H2_:=(Option.bind_some _ _).symm.trans H;rw [za1];with_reducible exact H2_) | (have H2_:=(Option.bind_some _ _).symm.trans H;with_reducible exact H2_) | with_reducible exact H | (rw [za1];exact H) | exact H);have zc0:=Aside0.mk za1;clear za1;have H':=Aside0.mk H;clear H;have zb7 : 0 ≤ (z1 : Int):=of_decide_eq_true as_;have zb8 : z1 < (l0.length : Int):=of_decide_eq_true as_;obtain ⟨zd2,zf4,c214_0,e214,zf1,za8,hi214_0⟩:=at_L1 HR0.out z1 zb7 zb8
                 obtain rfl : r1 = zd2:=(by injection e214)
                 have j3:=Aside0.mk hi214_0;have zf2:=Aside0.mk za8;clear hi214_0 za8;replace zb7:=eq_true zb7;replace zb8:=eq_true zb8;have q16 : (z1 : Int) ≤ ((l0.length : Int) : Int):=of_decide_eq_true as_;obtain ⟨i016,hi016,_,hsz16,_⟩:=info_parts info22;have hroom16 : l0.length ≤ c0:=HC0.out;have hC16 : Kd.C (Kd.slice 3 (Kd.int .i64)) _ (some r1) l0.length l0:=HR0.out;have hcut16:=cut_to (P:=Try.prog) 27 22 .i64 Try.underlying27 hi016 (some r1) l0.length c0 z1 (of_decide_eq_true as_) q16 hroom16;have hr16:=Kd.C_take (m:=(z1 : Int).toNat) hC16 (by omega);have zb9 : z3.length = (z1 : Int).toNat:=(by rw [zc0.out,List.length_take];omega);rw [← zc0.out] at hr16;rw [← zb9] at hcut16;have za2:=Aside0.mk hr16;have zg0:=ak (show z3.length ≤ c0 from by omega);clear hr16 hC16 hroom16 hi016 hsz16;have KY16:=Aside0.mk zb9;clear zb9;replace q16:=eq_true q16;go_wp2;(repeat (go_quiet (fail);try go_wp2))
                 go_loopg [48] k3 (fun kq v48 w' => ∃ (z2 : Int),v48 = .int .i64 z2 ∧ Aside0 (impl_FirstMeet.l3 kq l0 z0 (rd_L1 l0 z1) ((rd_L1 l0 0).length : Int) z0 l0 (l0.length : Int) z1 z3 (z3.length : Int) z2 = some r) ∧ Aside0 (kq ≤ k3) ∧ Drawn0 w w')
                 case atStart => exact ⟨(0),es_,H',⟨Nat.le_refl _⟩,by repeat (first | exact Drawn0.refl _ | apply Drawn0.step)⟩
                 case round =>
                  clear H';obtain ⟨z2,rfl,HA,HK4,⟨m4,rfl⟩⟩:=hrel
                  cases gk with
                  | zero => exact absurd HA.out (by simp [impl_FirstMeet.l3])
                  | succ k4 =>
                   have H:=HA.out;clear HA;simp only [impl_FirstMeet.l3] at H;by_cases c17 : z2 < (z3.length : Int)
                   ·rw [if_pos c17] at H
                    have zd3 : decide (z2 < (z3.length : Int)) = true:=decide_eq_true c17;clear c17;by_cases c18 : 0 ≤ z2
                    ·rw [if_pos c18] at H
                     have zg1 : decide (0 ≤ z2) = true:=decide_eq_true c18;clear c18;by_cases c19 : z2 < (z3.length : Int)
                     ·rw [if_pos c19] at H
                      have zg2 : decide (z2 < (z3.length : Int)) = true:=decide_eq_true c19;clear c19;by_cases c20 : 0 ≤ z0
                      ·rw [if_pos c20] at H
                       have zg3 : decide (0 ≤ z0) = true:=decide_eq_true c20;clear c20;by_cases c21 : z0 < ((rd_L1 l0 z1).length : Int)
                       ·rw [if_pos c21] at H
                        have zg4 : decide (z0 < ((rd_L1 l0 z1).length : Int)) = true:=decide_eq_true c21;clear c21;by_cases c22 : z0 < ((rd_L1 z3 z2).length : Int)
                        ·rw [if_pos c22] at H
                         have zg5 : decide (z0 < ((rd_L1 z3 z2).length : Int)) = true:=decide_eq_true c22;clear c22;by_cases c23 : (rd (rd_L1 l0 z1) z0) = (rd (rd_L1 z3 z2) z0)
                         ·rw [if_pos c23] at H
                          have zd4 : ((rd (rd_L1 l0 z1) z0) == (rd (rd_L1 z3 z2) z0)) = true:=beq_iff_eq.mpr c23;have zd5 : ((rd (rd_L1 l0 z1) z0) != (rd (rd_L1 z3 z2) z0)) = false:=bne_eq_false_iff_eq.mpr c23;clear c23
                          obtain rfl:=Option.some.inj H
                          have z7 : 0 ≤ (z2 : Int):=of_decide_eq_true as_;have z8 : z2 < (z3.length : Int):=of_decide_eq_true as_;obtain ⟨j4,za3,c219_0,e219,r5,z5,hi219_0⟩:=at_L1 za2.out z2 z7 z8
                          obtain rfl : r1 = j4:=(by injection e219)
                          have z6:=Aside0.mk hi219_0;have r6:=Aside0.mk z5;clear hi219_0 z5;replace z7:=eq_true z7;replace z8:=eq_true z8;have z9 : 0 ≤ (z0 : Int):=of_decide_eq_true as_;have j0 : z0 < ((rd_L1 l0 z1).length : Int):=of_decide_eq_true as_;obtain ⟨j5,e220,r7⟩:=Kd.at_int j3.out z0 z9 j0;cases e220;replace z9:=eq_true z9;replace j0:=eq_true j0;have j1 : 0 ≤ (z0 : Int):=of_decide_eq_true as_;have j2 : z0 < ((rd_L1 z3 z2).length : Int):=of_decide_eq_true as_;obtain ⟨j6,e221,r8⟩:=Kd.at_int z6.out z0 j1 j2;cases e221;replace j1:=eq_true j1;replace j2:=eq_true j2;go_wp2;(repeat (go_quiet (fail);try go_wp2));go_ret;exact ⟨es_,by repeat (first | exact Drawn0.refl _ | apply Drawn0.step)⟩
                         ·rw [if_neg c23] at H
                          have zd4 : ((rd (rd_L1 l0 z1) z0) == (rd (rd_L1 z3 z2) z0)) = false:=beq_eq_false_iff_ne.mpr c23;have zd5 : ((rd (rd_L1 l0 z1) z0) != (rd (rd_L1 z3 z2) z0)) = true:=bne_iff_ne.mpr c23;by_cases c24 : z0 > 0
                          ·rw [if_pos c24] at H
                           have zd6 : decide (0 < z0) = true:=decide_eq_true c24;clear c24;obtain ⟨ji25,hji25⟩ : ∃ j_ : Int,(wrap64 (z0 - 1)) = j_:=⟨_,rfl⟩;(replace H : (if 0 ≤ (ji25) then (if (ji25) < ((rd_L1 z3 z2).length : Int) then (if (rd (rd_L1 l0 z1) z0) = (rd (rd_L1 z3 z2) (ji25)) then (if (ji25) < ((rd_L1 l0 z1).length : Int) then (if (rd (rd_L1 z3 z2) z0) = (rd (rd_L1 l0 z1) (ji25)) then (some z0) else (impl_FirstMeet.l3 k4 l0 z0 (rd_L1 l0 z1) ((rd_L1 l0 0).length : Int) z0 l0 (l0.length : Int) z1 z3 (z3.length : Int) (wrap64 (z2 + 1)))) else (none)) else (impl_FirstMeet.l3 k4 l0 z0 (rd_L1 l0 z1) ((rd_L1 l0 0).length : Int) z0 l0 (l0.length : Int) z1 z3 (z3.length : Int) (wrap64 (z2 + 1)))) else (none)) else (none)) = some r:=by first | (rw [hji25] at H;exact H) | (simp only [hji25] at H ⊢;exact H));have hji25w : (IntKind.i64.wrap (z0 - 1)) = ji25:=(i64_w _).trans hji25;by_cases c26 : 0 ≤ (ji25)
                           ·rw [if_pos c26] at H
                            have zg6 : decide (0 ≤ (ji25)) = true:=decide_eq_true c26;clear c26;by_cases c27 : (ji25) < ((rd_L1 z3 z2).length : Int)
                            ·rw [if_pos c27] at H
                             have zg7 : decide ((ji25) < ((rd_L1 z3 z2).length : Int)) = true:=decide_eq_true c27;clear c27;by_cases c28 : (rd (rd_L1 l0 z1) z0) = (rd (rd_L1 z3 z2) (ji25))
                             ·rw [if_pos c28] at H
                              have zd7 : ((rd (rd_L1 l0 z1) z0) == (rd (rd_L1 z3 z2) (ji25))) = true:=beq_iff_eq.mpr c28;have zd8 : ((rd (rd_L1 l0 z1) z0) != (rd (rd_L1 z3 z2) (ji25))) = false:=bne_eq_false_iff_eq.mpr c28;clear c28;by_cases c29 : (ji25) < ((rd_L1 l0 z1).length : Int)
                              ·rw [if_pos c29] at H
                               have zg8 : decide ((ji25) < ((rd_L1 l0 z1).length : Int)) = true:=decide_eq_true c29;clear c29;by_cases c30 : (rd (rd_L1 z3 z2) z0) = (rd (rd_L1 l0 z1) (ji25))
                               ·rw [if_pos c30] at H
                                have zd9 : ((rd (rd_L1 z3 z2) z0) == (rd (rd_L1 l0 z1) (ji25))) = true:=beq_iff_eq.mpr c30;have ze0 : ((rd (rd_L1 z3 z2) z0) != (rd (rd_L1 l0 z1) (ji25))) = false:=bne_eq_false_iff_eq.mpr c30;clear c30
                                obtain rfl:=Option.some.inj H
                                have z7 : 0 ≤ (z2 : Int):=of_decide_eq_true as_;have z8 : z2 < (z3.length : Int):=of_decide_eq_true as_;obtain ⟨j4,za3,c219_0,e219,r5,z5,hi219_0⟩:=at_L1 za2.out z2 z7 z8
                                obtain rfl : r1 = j4:=(by injection e219)
                                have z6:=Aside0.mk hi219_0;have r6:=Aside0.mk z5;clear hi219_0 z5;replace z7:=eq_true z7;replace z8:=eq_true z8;have z9 : 0 ≤ (z0 : Int):=of_decide_eq_true as_;have j0 : z0 < ((rd_L1 l0 z1).length : Int):=of_decide_eq_true as_;obtain ⟨j5,e220,r7⟩:=Kd.at_int j3.out z0 z9 j0;cases e220;replace z9:=eq_true z9;replace j0:=eq_true j0;have j1 : 0 ≤ (z0 : Int):=of_decide_eq_true as_;have j2 : z0 < ((rd_L1 z3 z2).length : Int):=of_decide_eq_true as_;obtain ⟨j6,e221,r8⟩:=Kd.at_int z6.out z0 j1 j2;cases e221;replace j1:=eq_true j1;replace j2:=eq_true j2;have j7 : 0 ≤ (z0 : Int):=of_decide_eq_true as_;have j8 : z0 < ((rd_L1 l0 z1).length : Int):=of_decide_eq_true as_;obtain ⟨za4,e222,za9⟩:=Kd.at_int j3.out z0 j7 j8
                                obtain rfl : j5 = za4:=(by injection e222)
                                replace j7:=eq_true j7;replace j8:=eq_true j8;have j9 : 0 ≤ ((ji25) : Int):=of_decide_eq_true as_;have r0 : (ji25) < ((rd_L1 z3 z2).length : Int):=of_decide_eq_true as_;obtain ⟨za5,e223,zb0⟩:=Kd.at_int z6.out (ji25) j9 r0
                                obtain rfl : j6 = za5:=(by injection e223)
                                replace j9:=eq_true j9;replace r0:=eq_true r0;have m7 : 0 ≤ (z0 : Int):=of_decide_eq_true as_;have m8 : z0 < ((rd_L1 z3 z2).length : Int):=of_decide_eq_true as_;obtain ⟨zb3,e224,zc6⟩:=Kd.at_int z6.out z0 m7 m8
                                obtain rfl : j6 = zb3:=(by injection e224)
                                replace m7:=eq_true m7;replace m8:=eq_true m8;have m9 : 0 ≤ ((ji25) : Int):=of_decide_eq_true as_;have za0 : (ji25) < ((rd_L1 l0 z1).length : Int):=of_decide_eq_true as_;obtain ⟨zb4,e225,zc7⟩:=Kd.at_int j3.out (ji25) m9 za0
                                obtain rfl : j5 = zb4:=(by injection e225)
                                replace m9:=eq_true m9;replace za0:=eq_true za0;go_wp2;(repeat (go_quiet (fail);try go_wp2));go_ret;exact ⟨by first | rfl | (simp;done) | (simp only [← hji25] <;> (first | rfl | simp)) | (simp [*];done),by repeat (first | exact Drawn0.refl _ | apply Drawn0.step)⟩
                               ·rw [if_neg c30] at H
                                have zd9 : ((rd (rd_L1 z3 z2) z0) == (rd (rd_L1 l0 z1) (ji25))) = false:=beq_eq_false_iff_ne.mpr c30;have ze0 : ((rd (rd_L1 z3 z2) z0) != (rd (rd_L1 l0 z1) (ji25))) = true:=bne_iff_ne.mpr c30;have H':=Aside0.mk H;clear H;have z7 : 0 ≤ (z2 : Int):=of_decide_eq_true as_;have z8 : z2 < (z3.length : Int):=of_decide_eq_true as_;obtain ⟨j4,za3,c219_0,e219,r5,z5,hi219_0⟩:=at_L1 za2.out z2 z7 z8
                                obtain rfl : r1 = j4:=(by injection e219)
                                have z6:=Aside0.mk hi219_0;have r6:=Aside0.mk z5;clear hi219_0 z5;replace z7:=eq_true z7;replace z8:=eq_true z8;have z9 : 0 ≤ (z0 : Int):=of_decide_eq_true as_;have j0 : z0 < ((rd_L1 l0 z1).length : Int):=of_decide_eq_true as_;obtain ⟨j5,e220,r7⟩:=Kd.at_int j3.out z0 z9 j0;cases e220;replace z9:=eq_true z9;replace j0:=eq_true j0;have j1 : 0 ≤ (z0 : Int):=of_decide_eq_true as_;have j2 : z0 < ((rd_L1 z3 z2).length : Int):=of_decide_eq_true as_;obtain ⟨j6,e221,r8⟩:=Kd.at_int z6.out z0 j1 j2;cases e221;replace j1:=eq_true j1;replace j2:=eq_true j2;have j7 : 0 ≤ (z0 : Int):=of_decide_eq_true as_;have j8 : z0 < ((rd_L1 l0 z1).length : Int):=of_decide_eq_true as_;obtain ⟨za4,e222,za9⟩:=Kd.at_int j3.out z0 j7 j8
                                obtain rfl : j5 = za4:=(by injection e222)
                                replace j7:=eq_true j7;replace j8:=eq_true j8;have j9 : 0 ≤ ((ji25) : Int):=of_decide_eq_true as_;have r0 : (ji25) < ((rd_L1 z3 z2).length : Int):=of_decide_eq_true as_;obtain ⟨za5,e223,zb0⟩:=Kd.at_int z6.out (ji25) j9 r0
                                obtain rfl : j6 = za5:=(by injection e223)
                                replace j9:=eq_true j9;replace r0:=eq_true r0;have m7 : 0 ≤ (z0 : Int):=of_decide_eq_true as_;have m8 : z0 < ((rd_L1 z3 z2).length : Int):=of_decide_eq_true as_;obtain ⟨zb3,e224,zc6⟩:=Kd.at_int z6.out z0 m7 m8
                                obtain rfl : j6 = zb3:=(by injection e224)
                                replace m7:=eq_true m7;replace m8:=eq_true m8;have m9 : 0 ≤ ((ji25) : Int):=of_decide_eq_true as_;have za0 : (ji25) < ((rd_L1 l0 z1).length : Int):=of_decide_eq_true as_;obtain ⟨zb4,e225,zc7⟩:=Kd.at_int j3.out (ji25) m9 za0
                                obtain rfl : j5 = zb4:=(by injection e225)
                                replace m9:=eq_true m9;replace za0:=eq_true za0;go_wp2;(repeat (go_quiet (fail);try go_wp2));go_roundg k4
                                case measure => have:=HK1.out;have:=HK2.out;have:=HK3.out;have:=HK4.out;omega
                                case rel => exact ⟨(wrap64 (z2 + 1)),es_,H',⟨by have:=HK1.out;have:=HK2.out;have:=HK3.out;have:=HK4.out;omega⟩,by repeat (first | exact Drawn0.refl _ | apply Drawn0.step)⟩
                              ·rw [if_neg c29] at H
                               exact absurd H (by simp)
                             ·rw [if_neg c28] at H
                              have zd7 : ((rd (rd_L1 l0 z1) z0) == (rd (rd_L1 z3 z2) (ji25))) = false:=beq_eq_false_iff_ne.mpr c28;have zd8 : ((rd (rd_L1 l0 z1) z0) != (rd (rd_L1 z3 z2) (ji25))) = true:=bne_iff_ne.mpr c28;have H':=Aside0.mk H;clear H;have z7 : 0 ≤ (z2 : Int):=of_decide_eq_true as_;have z8 : z2 < (z3.length : Int):=of_decide_eq_true as_;obtain ⟨j4,za3,c219_0,e219,r5,z5,hi219_0⟩:=at_L1 za2.out z2 z7 z8
                              obtain rfl : r1 = j4:=(by injection e219)
                              have z6:=Aside0.mk hi219_0;have r6:=Aside0.mk z5;clear hi219_0 z5;replace z7:=eq_true z7;replace z8:=eq_true z8;have z9 : 0 ≤ (z0 : Int):=of_decide_eq_true as_;have j0 : z0 < ((rd_L1 l0 z1).length : Int):=of_decide_eq_true as_;obtain ⟨j5,e220,r7⟩:=Kd.at_int j3.out z0 z9 j0;cases e220;replace z9:=eq_true z9;replace j0:=eq_true j0;have j1 : 0 ≤ (z0 : Int):=of_decide_eq_true as_;have j2 : z0 < ((rd_L1 z3 z2).length : Int):=of_decide_eq_true as_;obtain ⟨j6,e221,r8⟩:=Kd.at_int z6.out z0 j1 j2;cases e221;replace j1:=eq_true j1;replace j2:=eq_true j2;have j7 : 0 ≤ (z0 : Int):=of_decide_eq_true as_;have j8 : z0 < ((rd_L1 l0 z1).length : Int):=of_decide_eq_true as_;obtain ⟨za4,e222,za9⟩:=Kd.at_int j3.out z0 j7 j8
                              obtain rfl : j5 = za4:=(by injection e222)
                              replace j7:=eq_true j7;replace j8:=eq_true j8;have j9 : 0 ≤ ((ji25) : Int):=of_decide_eq_true as_;have r0 : (ji25) < ((rd_L1 z3 z2).length : Int):=of_decide_eq_true as_;obtain ⟨za5,e223,zb0⟩:=Kd.at_int z6.out (ji25) j9 r0
                              obtain rfl : j6 = za5:=(by injection e223)
                              replace j9:=eq_true j9;replace r0:=eq_true r0;go_wp2;(repeat (go_quiet (fail);try go_wp2));go_roundg k4
                              case measure => have:=HK1.out;have:=HK2.out;have:=HK3.out;have:=HK4.out;omega
                              case rel => exact ⟨(wrap64 (z2 + 1)),es_,H',⟨by have:=HK1.out;have:=HK2.out;have:=HK3.out;have:=HK4.out;omega⟩,by repeat (first | exact Drawn0.refl _ | apply Drawn0.step)⟩
                            ·rw [if_neg c27] at H
                             exact absurd H (by simp)
                           ·rw [if_neg c26] at H
                            exact absurd H (by simp)
                          ·rw [if_neg c24] at H
                           have zd6 : decide (0 < z0) = false:=decide_eq_false c24;clear c24;have H':=Aside0.mk H;clear H;have z7 : 0 ≤ (z2 : Int):=of_decide_eq_true as_;have z8 : z2 < (z3.length : Int):=of_decide_eq_true as_;obtain ⟨j4,za3,c219_0,e219,r5,z5,hi219_0⟩:=at_L1 za2.out z2 z7 z8
                           obtain rfl : r1 = j4:=(by injection e219)
                           have z6:=Aside0.mk hi219_0;have r6:=Aside0.mk z5;clear hi219_0 z5;replace z7:=eq_true z7;replace z8:=eq_true z8;have z9 : 0 ≤ (z0 : Int):=of_decide_eq_true as_;have j0 : z0 < ((rd_L1 l0 z1).length : Int):=of_decide_eq_true as_;obtain ⟨j5,e220,r7⟩:=Kd.at_int j3.out z0 z9 j0;cases e220;replace z9:=eq_true z9;replace j0:=eq_true j0;have j1 : 0 ≤ (z0 : Int):=of_decide_eq_true as_;have j2 : z0 < ((rd_L1 z3 z2).length : Int):=of_decide_eq_true as_;obtain ⟨j6,e221,r8⟩:=Kd.at_int z6.out z0 j1 j2;cases e221;replace j1:=eq_true j1;replace j2:=eq_true j2;go_wp2;(repeat (go_quiet (fail);try go_wp2));go_roundg k4
                           case measure => have:=HK1.out;have:=HK2.out;have:=HK3.out;have:=HK4.out;omega
                           case rel => exact ⟨(wrap64 (z2 + 1)),es_,H',⟨by have:=HK1.out;have:=HK2.out;have:=HK3.out;have:=HK4.out;omega⟩,by repeat (first | exact Drawn0.refl _ | apply Drawn0.step)⟩
                        ·rw [if_neg c22] at H
                         exact absurd H (by simp)
                       ·rw [if_neg c21] at H
                        exact absurd H (by simp)
                      ·rw [if_neg c20] at H
                       exact absurd H (by simp)
                     ·rw [if_neg c19] at H
                      exact absurd H (by simp)
                    ·rw [if_neg c18] at H
                     exact absurd H (by simp)
                   ·rw [if_neg c17] at H
                    have zd3 : decide (z2 < (z3.length : Int)) = false:=decide_eq_false c17;clear c17;have H':=Aside0.mk H;clear H;go_wp2;(repeat (go_quiet (fail);try go_wp2));go_roundg k4
                    case measure => have:=HK1.out;have:=HK2.out;have:=HK3.out;have:=HK4.out;omega
                    case rel => exact ⟨(wrap64 (z1 + 1)),es_,H',⟨by have:=HK1.out;have:=HK2.out;have:=HK3.out;have:=HK4.out;omega⟩,by repeat (first | exact Drawn0.refl _ | apply Drawn0.step)⟩
                ·rw [if_neg c15] at H
                 exact absurd H (by simp)
               ·rw [if_neg c13] at H
                exact absurd H (by simp)
              ·rw [if_neg c12] at H
               exact absurd H (by simp)
             ·rw [if_neg c11] at H
              have zd1 : decide (z1 < (l0.length : Int)) = false:=decide_eq_false c11;clear c11;have H':=Aside0.mk H;clear H;go_wp2;(repeat (go_quiet (fail);try go_wp2));go_roundg k3
              case measure => have:=HK1.out;have:=HK2.out;have:=HK3.out;omega
              case rel => exact ⟨(wrap64 (z0 + 1)),es_,H',⟨by have:=HK1.out;have:=HK2.out;have:=HK3.out;omega⟩,by repeat (first | exact Drawn0.refl _ | apply Drawn0.step)⟩
          ·rw [if_neg c10] at H
           have zd0 : decide (z0 < ((rd_L1 l0 0).length : Int)) = false:=decide_eq_false c10;clear c10
           obtain rfl:=Option.some.inj H
           go_wp2;(repeat (go_quiet (fail);try go_wp2));go_ret;exact ⟨es_,by repeat (first | exact Drawn0.refl _ | apply Drawn0.step)⟩
       ·rw [if_neg c9] at H
        exact absurd H (by simp)

end Go.Proofs.Ytcldlljnaijmhaa.Pr
namespace Go.Proofs.Ytcldlljnaijmhaa.Pr
open Go.RowKit Go.Proofs.YtcldlljnaijmhaaW.PrintWords Go.Proofs.YtcldlljnaijmhaaW.PrintLast Go.Proofs.YtcldlljnaijmhaaW.PrintMore
attribute [local go_sem] max2_int min2_int max_two min_two max_three min_three max_four min_four
set_option linter.unusedVariables false
set_option linter.unusedSimpArgs false

set_option maxHeartbeats 8000000 in
set_option maxRecDepth 100000 in
theorem impl_squared.calls (a0 : Int) (a1 : Int) (r : Bool) (w : World) (h : impl_squared.f a0 a1 = some r) :
   Calls Try.prog 68 #[.int .i64 a0,.int .i64 a1] w fun e w' => e = .returned (.bool r) ∧ Drawn0 w w':=by
  have H : (if a0 ≥ 1 then (if a0 ≤ 16 then (if a0 = 0 then (none) else (if (Int.tmod a1 a0) = 0 then (if (wrap64 (Int.tdiv a1 a0)) ≥ 1 then (some (decide ((wrap64 (Int.tdiv a1 a0)) ≤ 16))) else (some false)) else (some false))) else (some false)) else (some false)) = some r:=h;clear h;by_cases c3 : a0 ≥ 1
  ·rw [if_pos c3] at H
   have z0 : decide (1 ≤ a0) = true:=decide_eq_true c3;clear c3;by_cases c4 : a0 ≤ 16
   ·rw [if_pos c4] at H
    have z1 : decide (a0 ≤ 16) = true:=decide_eq_true c4;clear c4;by_cases c5 : a0 = 0
    ·rw [if_pos c5] at H
     exact absurd H (by simp)
    ·rw [if_neg c5] at H
     have z5 : (a0 == 0) = false:=beq_eq_false_iff_ne.mpr c5;have z6 : (a0 != 0) = true:=bne_iff_ne.mpr c5;by_cases c6 : (Int.tmod a1 a0) = 0
     ·rw [if_pos c6] at H
      have z2 : ((Int.tmod a1 a0) == 0) = true:=beq_iff_eq.mpr c6;have z3 : ((Int.tmod a1 a0) != 0) = false:=bne_eq_false_iff_eq.mpr c6;clear c6;by_cases c7 : (wrap64 (Int.tdiv a1 a0)) ≥ 1
      ·rw [if_pos c7] at H
       have z4 : decide (1 ≤ (wrap64 (Int.tdiv a1 a0))) = true:=decide_eq_true c7;clear c7
       obtain rfl:=Option.some.inj H
       go_enter Try.func68,Try.ntmps68;go_wp2;go_ret;exact ⟨es_,by repeat (first | exact Drawn0.refl _ | apply Drawn0.step)⟩
      ·rw [if_neg c7] at H
       have z4 : decide (1 ≤ (wrap64 (Int.tdiv a1 a0))) = false:=decide_eq_false c7;clear c7
       obtain rfl:=Option.some.inj H
       go_enter Try.func68,Try.ntmps68;go_wp2;go_ret;exact ⟨es_,by repeat (first | exact Drawn0.refl _ | apply Drawn0.step)⟩
     ·rw [if_neg c6] at H
      have z2 : ((Int.tmod a1 a0) == 0) = false:=beq_eq_false_iff_ne.mpr c6;have z3 : ((Int.tmod a1 a0) != 0) = true:=bne_iff_ne.mpr c6
      obtain rfl:=Option.some.inj H
      go_enter Try.func68,Try.ntmps68;go_wp2;go_ret;exact ⟨es_,by repeat (first | exact Drawn0.refl _ | apply Drawn0.step)⟩
   ·rw [if_neg c4] at H
    have z1 : decide (a0 ≤ 16) = false:=decide_eq_false c4;clear c4
    obtain rfl:=Option.some.inj H
    go_enter Try.func68,Try.ntmps68;go_wp2;go_ret;exact ⟨es_,by repeat (first | exact Drawn0.refl _ | apply Drawn0.step)⟩
  ·rw [if_neg c3] at H
   have z0 : decide (1 ≤ a0) = false:=decide_eq_false c3;clear c3
   obtain rfl:=Option.some.inj H
   go_enter Try.func68,Try.ntmps68;go_wp2;go_ret;exact ⟨es_,by repeat (first | exact Drawn0.refl _ | apply Drawn0.step)⟩

set_option maxHeartbeats 8000000 in
set_option maxRecDepth 100000 in
theorem impl_GoodCells.calls (k : Nat) (a0_0 : Int) (z7 : Option Addr) (c0_1 : Nat) (z0 : List Int) (r : Bool) (w : World) (hr0_1 : Kd.C (Kd.int .i64) w z7 z0.length z0) (hc0_1 : z0.length ≤ c0_1) (h : impl_GoodCells.f k a0_0 z0 = some r) :
   Calls Try.prog 54 #[.agg #[.int .i64 a0_0,.slice z7 z0.length c0_1]] w fun e w' => e = .returned (.bool r) ∧ Below w.heap.size w w':=by
  have r5:=Try.underlying39;have z8:=Aside0.mk hr0_1;have r4:=Aside0.mk hc0_1;clear hr0_1 hc0_1;have HB:=ak (Below.refl w.heap.size w);have H : ((impl_squared.f a0_0 (z0.length : Int)).bind fun z9 => (if z9 = true then (impl_GoodCells.l0 k z0 (z0.length : Int) 0) else (some false))) = some r:=h;clear h;replace H:=Option.bind_eq_some_iff.mp H;obtain ⟨z9,A20,H⟩:=H;replace H : (if z9 = true then (impl_GoodCells.l0 k z0 (z0.length : Int) 0) else (some false)) = some r:=H;have A2:=Aside0.mk A20;clear A20;by_cases c3 : z9 = true
  ·subst c3
   rw [if_pos rfl] at H;have H':=Aside0.mk H;clear H;go_enter Try.func54,Try.ntmps54;go_wp2_with (first | ((with_reducible refine gate_dst (N:=1) rfl ?_);refine box_event ?hg (N:=1) ?hd (cs:=#[.int .i64 a0_0,.slice z7 z0.length c0_1]) (t:=39) ?hr ?_;(case hd => rfl);(case hg => rfl);(case hr => first | (go_simp;done) | (go_simp;rfl));intro z4 hg w4 hbox hb;have z2:=ak (hbox);have j1 : Aside0 (w.heap.size ≤ z4):=gz_;have j2 : Aside0 (w.heap.size ≤ z4):=gz_;replace HB:=ak (below_step hb_ hb);clear hb hbox hg;have r0:=b20 z2;have r1:=b21 z2;have r2:=blk_frozen z2.out 0;have r3:=blk_frozen z2.out 1) | ((with_reducible refine gate_callee (f:=68) rfl ?_);refine goesL_ (some 10) rfl rfl Try.func68 (by kernel_rfl) rfl #[.int .i64 a0_0,.int .i64 (z0.length : Int)] rfl ls_ ?_;(with_reducible refine (impl_squared.calls a0_0 (z0.length : Int) true _ A2.out).mono ?_);rintro e w' ⟨rfl,⟨nd,rfl⟩⟩;refine ⟨_,rfl,?_⟩))
   go_loopg [15] k (fun kq v15 w' => ∃ (z1 : Int),v15 = .int .i64 z1 ∧ Aside0 (impl_GoodCells.l0 kq z0 (z0.length : Int) z1 = some r) ∧ Aside0 (kq ≤ k) ∧ Aside0 (w'.heap[z4]? = some (.cells #[.int .i64 a0_0,(.slice z7 z0.length c0_1)] 39 (0,0))) ∧ Aside0 (Below w.heap.size w w'))
   case atStart => exact ⟨(0),es_,H',⟨Nat.le_refl _⟩,⟨bk_ z2.out⟩,⟨hb_⟩⟩
   case round =>
    clear H';obtain ⟨z1,rfl,HA,HK1,z2,HB⟩:=hrel
    cases gk with
    | zero => exact absurd HA.out (by simp [impl_GoodCells.l0])
    | succ k1 =>
     have H:=HA.out;clear HA;simp only [impl_GoodCells.l0] at H;by_cases c6 : z1 < (z0.length : Int)
     ·rw [if_pos c6] at H
      have j4 : decide (z1 < (z0.length : Int)) = true:=decide_eq_true c6;clear c6;by_cases c7 : 0 ≤ z1
      ·rw [if_pos c7] at H
       have r6 : decide (0 ≤ z1) = true:=decide_eq_true c7;clear c7;by_cases c8 : z1 < (z0.length : Int)
       ·rw [if_pos c8] at H
        have r7 : decide (z1 < (z0.length : Int)) = true:=decide_eq_true c8;clear c8;by_cases c9 : (rd z0 z1) < 0
        ·rw [if_pos c9] at H
         have j5 : decide ((rd z0 z1) < 0) = true:=decide_eq_true c9;clear c9
         obtain rfl:=Option.some.inj H
         have z5 : 0 ≤ (z1 : Int):=of_decide_eq_true as_;have z6 : z1 < (z0.length : Int):=of_decide_eq_true as_;obtain ⟨j0,e228,z3⟩:=Kd.at_int z8.out z1 z5 z6;cases e228;replace z3:=hc_ HB z3;replace z5:=eq_true z5;replace z6:=eq_true z6;go_wp2;go_ret;exact ⟨er_,hb_⟩
        ·rw [if_neg c9] at H
         have j5 : decide ((rd z0 z1) < 0) = false:=decide_eq_false c9;clear c9;by_cases c10 : (rd z0 z1) > 2
         ·rw [if_pos c10] at H
          have j3 : decide (2 < (rd z0 z1)) = true:=decide_eq_true c10;clear c10
          obtain rfl:=Option.some.inj H
          have z5 : 0 ≤ (z1 : Int):=of_decide_eq_true as_;have z6 : z1 < (z0.length : Int):=of_decide_eq_true as_;obtain ⟨j0,e228,z3⟩:=Kd.at_int z8.out z1 z5 z6;cases e228;replace z3:=hc_ HB z3;replace z5:=eq_true z5;replace z6:=eq_true z6;go_wp2;go_ret;exact ⟨er_,hb_⟩
         ·rw [if_neg c10] at H
          have j3 : decide (2 < (rd z0 z1)) = false:=decide_eq_false c10;clear c10;have H':=Aside0.mk H;clear H;have z5 : 0 ≤ (z1 : Int):=of_decide_eq_true as_;have z6 : z1 < (z0.length : Int):=of_decide_eq_true as_;obtain ⟨j0,e228,z3⟩:=Kd.at_int z8.out z1 z5 z6;cases e228;replace z3:=hc_ HB z3;replace z5:=eq_true z5;replace z6:=eq_true z6;go_wp2;go_roundg k1
          case measure => have:=HK1.out;omega
          case rel => exact ⟨(wrap64 (z1 + 1)),es_,H',⟨by have:=HK1.out;omega⟩,⟨bk_ z2.out⟩,⟨hb_⟩⟩
       ·rw [if_neg c8] at H
        exact absurd H (by simp)
      ·rw [if_neg c7] at H
       exact absurd H (by simp)
     ·rw [if_neg c6] at H
      have j4 : decide (z1 < (z0.length : Int)) = false:=decide_eq_false c6;clear c6
      obtain rfl:=Option.some.inj H
      go_wp2;go_ret;exact ⟨er_,hb_⟩
  ·replace c3:=Bool.eq_false_iff.mpr c3
   subst c3;rw [if_neg (show ¬ (false = true) by decide)] at H
   obtain rfl:=Option.some.inj H
   go_enter Try.func54,Try.ntmps54;go_wp2_with (first | ((with_reducible refine gate_dst (N:=1) rfl ?_);refine box_event ?hg (N:=1) ?hd (cs:=#[.int .i64 a0_0,.slice z7 z0.length c0_1]) (t:=39) ?hr ?_;(case hd => rfl);(case hg => rfl);(case hr => first | (go_simp;done) | (go_simp;rfl));intro z4 hg w11 hbox hb;have z2:=ak (hbox);have j1 : Aside0 (w.heap.size ≤ z4):=gz_;have j2 : Aside0 (w.heap.size ≤ z4):=gz_;replace HB:=ak (below_step hb_ hb);clear hb hbox hg;have j6:=b20 z2;have j7:=b21 z2;have j8:=blk_frozen z2.out 0;have j9:=blk_frozen z2.out 1) | ((with_reducible refine gate_callee (f:=68) rfl ?_);refine goesL_ (some 10) rfl rfl Try.func68 (by kernel_rfl) rfl #[.int .i64 a0_0,.int .i64 (z0.length : Int)] rfl ls_ ?_;(with_reducible refine (impl_squared.calls a0_0 (z0.length : Int) false _ A2.out).mono ?_);rintro e w' ⟨rfl,⟨nd,rfl⟩⟩;refine ⟨_,rfl,?_⟩));go_ret;exact ⟨er_,hb_⟩

set_option maxHeartbeats 8000000 in
set_option maxRecDepth 100000 in
theorem impl_Cells_free.calls (a0_0 : Int) (z3 : Option Addr) (c0_1 : Nat) (z0 : List Int) (a1 : Int) (r : Bool) (w : World) (hr0_1 : Kd.C (Kd.int .i64) w z3 z0.length z0) (hc0_1 : z0.length ≤ c0_1) (h : impl_Cells_free.f a0_0 z0 a1 = some r) :
   Calls Try.prog 55 #[.agg #[.int .i64 a0_0,.slice z3 z0.length c0_1],.int .i64 a1] w fun e w' => e = .returned (.bool r) ∧ Below w.heap.size w w':=by
  have r2:=Try.underlying39;have z9:=Aside0.mk hr0_1;have r0:=Aside0.mk hc0_1;clear hr0_1 hc0_1;have HB:=ak (Below.refl w.heap.size w);have H : (if a1 ≥ 0 then (if a1 < (z0.length : Int) then (if 0 ≤ a1 then (some ((rd z0 a1) == 0)) else (none)) else (some false)) else (some false)) = some r:=h;clear h;by_cases c3 : a1 ≥ 0
  ·rw [if_pos c3] at H
   have j0 : decide (0 ≤ a1) = true:=decide_eq_true c3;clear c3;by_cases c4 : a1 < (z0.length : Int)
   ·rw [if_pos c4] at H
    have j1 : decide (a1 < (z0.length : Int)) = true:=decide_eq_true c4;clear c4;by_cases c5 : 0 ≤ a1
    ·rw [if_pos c5] at H
     have r3 : decide (0 ≤ a1) = true:=decide_eq_true c5;clear c5
     obtain rfl:=Option.some.inj H
     go_enter Try.func55,Try.ntmps55;go_wp2_with (first | ((with_reducible refine gate_dst (N:=2) rfl ?_);(try (refine gate_guard (by rfl) ?_;dsimp only));refine box_event ?hg (N:=2) ?hd (cs:=#[.int .i64 a0_0,.slice z3 z0.length c0_1]) (t:=39) ?hr ?_;(case hd => rfl);(case hg => rfl);(case hr => first | (go_simp;done) | (go_simp;rfl));intro z1 hg w6 hbox hb;have z2:=ak (hbox);have z7 : Aside0 (w.heap.size ≤ z1):=gz_;have z8 : Aside0 (w.heap.size ≤ z1):=gz_;replace HB:=ak (below_step hb_ hb);clear hb hbox hg;have j2:=b20 z2;have j3:=b21 z2;have j4:=blk_frozen z2.out 0;have j5:=blk_frozen z2.out 1;have z5 : 0 ≤ (a1 : Int):=of_decide_eq_true as_;have z6 : a1 < (z0.length : Int):=of_decide_eq_true as_;obtain ⟨r1,e230,z4⟩:=Kd.at_int z9.out a1 z5 z6;cases e230;replace z4:=hc_ HB z4;replace z5:=eq_true z5;replace z6:=eq_true z6));go_ret;exact ⟨er_,hb_⟩
    ·rw [if_neg c5] at H
     exact absurd H (by simp)
   ·rw [if_neg c4] at H
    have j1 : decide (a1 < (z0.length : Int)) = false:=decide_eq_false c4;clear c4
    obtain rfl:=Option.some.inj H
    go_enter Try.func55,Try.ntmps55;go_wp2_with (first | ((with_reducible refine gate_dst (N:=2) rfl ?_);(try (refine gate_guard (by rfl) ?_;dsimp only));refine box_event ?hg (N:=2) ?hd (cs:=#[.int .i64 a0_0,.slice z3 z0.length c0_1]) (t:=39) ?hr ?_;(case hd => rfl);(case hg => rfl);(case hr => first | (go_simp;done) | (go_simp;rfl));intro z1 hg w8 hbox hb;have z2:=ak (hbox);have z7 : Aside0 (w.heap.size ≤ z1):=gz_;have z8 : Aside0 (w.heap.size ≤ z1):=gz_;replace HB:=ak (below_step hb_ hb);clear hb hbox hg;have j6:=b20 z2;have j7:=b21 z2;have j8:=blk_frozen z2.out 0;have j9:=blk_frozen z2.out 1));go_ret;exact ⟨er_,hb_⟩
  ·rw [if_neg c3] at H
   have j0 : decide (0 ≤ a1) = false:=decide_eq_false c3;clear c3
   obtain rfl:=Option.some.inj H
   go_enter Try.func55,Try.ntmps55;go_wp2_with (first | ((with_reducible refine gate_dst (N:=2) rfl ?_);(try (refine gate_guard (by rfl) ?_;dsimp only));refine box_event ?hg (N:=2) ?hd (cs:=#[.int .i64 a0_0,.slice z3 z0.length c0_1]) (t:=39) ?hr ?_;(case hd => rfl);(case hg => rfl);(case hr => first | (go_simp;done) | (go_simp;rfl));intro z1 hg w10 hbox hb;have z2:=ak (hbox);have z7 : Aside0 (w.heap.size ≤ z1):=gz_;have z8 : Aside0 (w.heap.size ≤ z1):=gz_;replace HB:=ak (below_step hb_ hb);clear hb hbox hg));go_ret;exact ⟨er_,hb_⟩

end Go.Proofs.Ytcldlljnaijmhaa.Pr
namespace Go.Proofs.Ytcldlljnaijmhaa.Pr
open Go.RowKit Go.Proofs.YtcldlljnaijmhaaW.PrintWords Go.Proofs.YtcldlljnaijmhaaW.PrintLast Go.Proofs.YtcldlljnaijmhaaW.PrintMore
attribute [local go_sem] max2_int min2_int max_two min_two max_three min_three max_four min_four
set_option linter.unusedVariables false
set_option linter.unusedSimpArgs false

set_option maxHeartbeats 8000000 in
set_option maxRecDepth 100000 in
theorem impl_GoodTrips.calls (k : Nat) (a0_0 : Int) (z8 : Option Addr) (c0_1 : Nat) (z3 : List Int) (A1 : Option Addr) (c1 : Nat) (l1 : List (S49)) (r : Bool) (w : World) (hr0_1 : Kd.C (Kd.int .i64) w z8 z3.length z3) (hc0_1 : z3.length ≤ c0_1) (hr1 : Kd.C k49 w A1 l1.length l1) (hc1 : l1.length ≤ c1) (h : impl_GoodTrips.f k a0_0 z3 l1 = some r) :
   Calls Try.prog 28 #[.agg #[.int .i64 a0_0,.slice z8 z3.length c0_1],.slice A1 l1.length c1] w fun e w' => e = .returned (.bool r) ∧ Below w.heap.size w w':=by
  have zl0:=Try.underlying39;have zl1:=Try.underlying49;have r3:=Aside0.mk hr0_1;have r4:=Aside0.mk hc0_1;clear hr0_1 hc0_1;have HR1:=Aside0.mk hr1;have HC1:=Aside0.mk hc1;clear hr1 hc1;have HB:=ak (Below.refl w.heap.size w);have H : ((impl_GoodCells.f k a0_0 z3).bind fun m3 => (if m3 = true then (impl_GoodTrips.j0 k l1 (decide ((l1.length : Int) > 5)) a0_0 z3) else (impl_GoodTrips.j0 k l1 true a0_0 z3))) = some r:=h;clear h;have HC3:=Aside0.mk H;clear H;go_enter Try.func28,Try.ntmps28
  go_upto_region 1 with (first | ((with_reducible refine gate_dst (N:=2) rfl ?_);(try (refine gate_guard (by rfl) ?_;dsimp only));refine box_event ?hg (N:=2) ?hd (cs:=#[.int .i64 a0_0,.slice z8 z3.length c0_1]) (t:=39) ?hr ?_;(case hd => rfl);(case hg => rfl);(case hr => first | (go_simp;done) | (go_simp;rfl));intro z4 hg w4 hbox hb;have z1:=ak (hbox);have zh3 : Aside0 (w.heap.size ≤ z4):=gz_;have zh4 : Aside0 (w.heap.size ≤ z4):=gz_;replace HB:=ak (below_step hb_ hb);clear hb hbox hg))
  (try simp only [Act.put,aS,aZ,aN])
  go_cut [16] (fun v16 wc => ∃ (kq : Nat) (r9 : Bool),v16 = .bool r9 ∧ Aside0 (impl_GoodTrips.j0 kq l1 r9 a0_0 z3 = some r) ∧ Aside0 (kq ≤ k) ∧ Aside0 (wc.heap[z4]? = some (.cells #[.int .i64 a0_0,(.slice z8 z3.length c0_1)] 39 (0,0))) ∧ Aside0 (Below w.heap.size w wc))
  case first =>
   have H:=HC3.out;clear HC3;replace H:=Option.bind_eq_some_iff.mp H;obtain ⟨m3,A50,H⟩:=H;replace H : (if m3 = true then (impl_GoodTrips.j0 k l1 (decide ((l1.length : Int) > 5)) a0_0 z3) else (impl_GoodTrips.j0 k l1 true a0_0 z3)) = some r:=H;have A5:=Aside0.mk A50;clear A50;by_cases c6 : m3 = true
   ·subst c6
    rw [if_pos rfl] at H;have H':=Aside0.mk H;clear H;have zg5:=b20 z1;have zg6:=b21 z1;have zg7:=blk_frozen z1.out 0;have zg8:=blk_frozen z1.out 1;go_wp2_with (first | ((with_reducible refine gate_callee (f:=54) rfl ?_);refine goesL_ (some 10) rfl rfl Try.func54 (by kernel_rfl) rfl #[.agg #[.int .i64 a0_0,.slice z8 z3.length c0_1]] rfl ls_ ?_;(with_reducible refine (impl_GoodCells.calls k a0_0 _ _ z3 true _ ?j9 ?r0 A5.out).mono ?_);(case j9 => exact cb_ r3.out);(case r0 => exact r4.out);rintro e w8 ⟨rfl,hb⟩;refine ⟨_,rfl,?_⟩;replace z1:=bb_ z1 hb;replace HB:=ak (below_step hb_ hb);(try clear hb);(try clear hb2);(try clear hk);(try clear hi)));go_meet
    case rel => exact ⟨_,(decide ((l1.length : Int) > 5)),es_,H',⟨by first | omega | exact Nat.le_refl _⟩,⟨bk_ z1.out⟩,⟨hb_⟩⟩
   ·replace c6:=Bool.eq_false_iff.mpr c6
    subst c6;rw [if_neg (show ¬ (false = true) by decide)] at H;have H':=Aside0.mk H;clear H;have zg9:=b20 z1;have zh0:=b21 z1;have zh1:=blk_frozen z1.out 0;have zh2:=blk_frozen z1.out 1;go_wp2_with (first | ((with_reducible refine gate_callee (f:=54) rfl ?_);refine goesL_ (some 10) rfl rfl Try.func54 (by kernel_rfl) rfl #[.agg #[.int .i64 a0_0,.slice z8 z3.length c0_1]] rfl ls_ ?_;(with_reducible refine (impl_GoodCells.calls k a0_0 _ _ z3 false _ ?j9 ?r0 A5.out).mono ?_);(case j9 => exact cb_ r3.out);(case r0 => exact r4.out);rintro e w10 ⟨rfl,hb⟩;refine ⟨_,rfl,?_⟩;replace z1:=bb_ z1 hb;replace HB:=ak (below_step hb_ hb);(try clear hb);(try clear hb2);(try clear hk);(try clear hi)));go_meet
    case rel => exact ⟨_,(true),es_,H',⟨by first | omega | exact Nat.le_refl _⟩,⟨bk_ z1.out⟩,⟨hb_⟩⟩
  case rest =>
   clear HC3;obtain ⟨kq,r9,rfl,HA,HJ2,z1,HB⟩:=hcut
   cases kq with
   | zero => exact absurd HA.out (by simp [impl_GoodTrips.j0])
   | succ kj2 =>
    have H:=HA.out;clear HA;simp only [impl_GoodTrips.j0] at H;by_cases c11 : r9 = true
    ·subst c11
     rw [if_pos rfl] at H
     obtain rfl:=Option.some.inj H
     go_wp2;go_ret;exact ⟨er_,hb_⟩
    ·replace c11:=Bool.eq_false_iff.mpr c11
     subst c11;rw [if_neg (show ¬ (false = true) by decide)] at H;have H':=Aside0.mk H;clear H;go_wp2
     go_loopg [19] kj2 (fun kq v19 w' => ∃ (z0 : Int),v19 = .int .i64 z0 ∧ Aside0 (impl_GoodTrips.l0 kq l1 l1 (l1.length : Int) z0 a0_0 z3 = some r) ∧ Aside0 (kq ≤ kj2) ∧ Aside0 (w'.heap[z4]? = some (.cells #[.int .i64 a0_0,(.slice z8 z3.length c0_1)] 39 (0,0))) ∧ Aside0 (Below w.heap.size w w'))
     case atStart => exact ⟨(0),es_,H',⟨Nat.le_refl _⟩,⟨bk_ z1.out⟩,⟨hb_⟩⟩
     case round =>
      clear H';obtain ⟨z0,rfl,HA,HK2,z1,HB⟩:=hrel
      cases gk with
      | zero => exact absurd HA.out (by simp [impl_GoodTrips.l0])
      | succ k2 =>
       have H:=HA.out;clear HA;simp only [impl_GoodTrips.l0] at H;by_cases c12 : z0 < (l1.length : Int)
       ·rw [if_pos c12] at H
        have za7 : decide (z0 < (l1.length : Int)) = true:=decide_eq_true c12;clear c12;by_cases c13 : 0 ≤ z0
        ·rw [if_pos c13] at H
         have zh5 : decide (0 ≤ z0) = true:=decide_eq_true c13;clear c13;by_cases c14 : z0 < (l1.length : Int)
         ·rw [if_pos c14] at H
          have zh6 : decide (z0 < (l1.length : Int)) = true:=decide_eq_true c14;clear c14;have m6:=Aside0.mk H;clear H;have m7 : 0 ≤ (z0 : Int):=of_decide_eq_true as_;have m8 : z0 < (l1.length : Int):=of_decide_eq_true as_;obtain ⟨r5,e233,m1,m2⟩:=at_T49 HR1.out z0 m7 m8;cases e233;replace m1:=hc_ HB m1;replace m2:=hc_ HB m2;replace m7:=eq_true m7;replace m8:=eq_true m8
          go_upto_region 6 with (first | ((with_reducible refine gate_dst (N:=6) rfl ?_);(try (refine gate_guard (by rfl) ?_;dsimp only));refine box_event ?hg (N:=6) ?hd (cs:=#[.int .i64 0,.int .i64 0]) (t:=49) ?hr ?_;(case hd => rfl);(case hg => rfl);(case hr => first | (go_simp;done) | (go_simp;rfl));intro z5 hg w16 hbox hb;have z2:=ak (hbox);have zh7 : Aside0 (w.heap.size ≤ z5):=gz_;have zh8 : Aside0 (w.heap.size ≤ z5):=gz_;have j0:=ak ((by rw [hg];exact Nat.ne_of_lt (blk_lt (g:=z4) (o:=.cells #[.int .i64 a0_0,.slice z8 z3.length c0_1] 39 (0,0)) (bk_ z1.out)) : z4 ≠ z5));have j4:=ak ((by rw [hg];exact Nat.ne_of_gt (blk_lt (g:=z4) (o:=.cells #[.int .i64 a0_0,.slice z8 z3.length c0_1] 39 (0,0)) (bk_ z1.out)) : z5 ≠ z4));replace z1:=bb_ z1 hb;replace HB:=ak (below_step hb_ hb);clear hb hbox hg;have zh9:=j4.out;have zi0:=j0.out;have zb3:=b20 z2;have zb4:=b21 z2;have zb5:=blk_frozen z2.out 0;have zb6:=blk_frozen z2.out 1))
          (try simp only [Act.put,aS,aZ,aN])
          go_cut [35] (fun v35 wc => ∃ (kq : Nat) (r6 : Bool),v35 = .bool r6 ∧ Aside0 (impl_GoodTrips.j2 kq l1 z0 l1 (l1.length : Int) z0 r6 a0_0 z3 ((rd_T49 l1 z0).f0) ((rd_T49 l1 z0).f1) = some r) ∧ Aside0 (kq ≤ k2) ∧ Aside0 (wc.heap[z4]? = some (.cells #[.int .i64 a0_0,(.slice z8 z3.length c0_1)] 39 (0,0))) ∧ Aside0 (wc.heap[z5]? = some (.cells #[.int .i64 ((rd_T49 l1 z0).f0),.int .i64 ((rd_T49 l1 z0).f1)] 49 (0,0))) ∧ Aside0 (Below w.heap.size w wc))
          case first =>
           have H:=m6.out;clear m6;replace H:=Option.bind_eq_some_iff.mp H;obtain ⟨za4,za5,H⟩:=H;replace H : (if za4 = true then ((impl_Cells_free.f a0_0 z3 ((rd_T49 l1 z0).f1)).bind fun m0 => (impl_GoodTrips.j2 k2 l1 z0 l1 (l1.length : Int) z0 (!m0) a0_0 z3 ((rd_T49 l1 z0).f0) ((rd_T49 l1 z0).f1))) else (impl_GoodTrips.j2 k2 l1 z0 l1 (l1.length : Int) z0 true a0_0 z3 ((rd_T49 l1 z0).f0) ((rd_T49 l1 z0).f1))) = some r:=H;have A19:=Aside0.mk za5;clear za5;by_cases c20 : za4 = true
           ·subst c20
            rw [if_pos rfl] at H;replace H:=Option.bind_eq_some_iff.mp H;obtain ⟨m0,za6,H⟩:=H;replace H : (impl_GoodTrips.j2 k2 l1 z0 l1 (l1.length : Int) z0 (!m0) a0_0 z3 ((rd_T49 l1 z0).f0) ((rd_T49 l1 z0).f1)) = some r:=H;have A21:=Aside0.mk za6;clear za6;have H':=Aside0.mk H;clear H;have zi1:=j0.out;have zi2:=j4.out;have zb7:=b20 z1;have zb8:=b21 z1;have zb9:=blk_frozen z1.out 0;have zc0:=blk_frozen z1.out 1;have zc1:=b20 z2;have zc2:=b21 z2;have zc3:=blk_frozen z2.out 0;have zc4:=blk_frozen z2.out 1;go_wp2_with (first | ((with_reducible refine gate_callee (f:=55) rfl ?_);refine goesL_ (some 27) rfl rfl Try.func55 (by kernel_rfl) rfl #[.agg #[.int .i64 a0_0,.slice z8 z3.length c0_1],.int .i64 ((rd_T49 l1 z0).f0)] rfl ls_ ?_;(with_reducible refine (impl_Cells_free.calls a0_0 _ _ z3 ((rd_T49 l1 z0).f0) true _ ?j9 ?r0 A19.out).mono ?_);(case j9 => exact Kd.C_below r3.out hb_);(case r0 => exact r4.out);rintro e w25 ⟨rfl,hb⟩;refine ⟨_,rfl,?_⟩;replace z1:=ak (blk_below (g:=z4) (o:=.cells #[.int .i64 a0_0,.slice z8 z3.length c0_1] 39 (0,0)) (by (with_reducible repeat (first | refine blk_drewN ?_ _ | refine blk_drew ?_ | refine blk_alloc ?_ _));refine blk_far ?_ j0.out _;(with_reducible repeat (first | refine blk_drewN ?_ _ | refine blk_drew ?_ | refine blk_alloc ?_ _));refine blk_far ?_ j0.out _;exact bk_ z1.out) hb);replace z2:=ak (blk_below (g:=z5) (o:=.cells #[.int .i64 ((rd_T49 l1 z0).f0),.int .i64 ((rd_T49 l1 z0).f1)] 49 (0,0)) (by (with_reducible repeat (first | refine blk_drewN ?_ _ | refine blk_drew ?_ | refine blk_alloc ?_ _));refine blk_put (cs:=#[.int .i64 ((rd_T49 l1 z0).f0),.int .i64 0]) ?_ 1 _ rfl;(with_reducible repeat (first | refine blk_drewN ?_ _ | refine blk_drew ?_ | refine blk_alloc ?_ _));refine blk_put (cs:=#[.int .i64 0,.int .i64 0]) ?_ 0 _ rfl;exact bk_ z2.out) hb);replace HB:=ak (below_step hb_ hb);(try clear hb);(try clear hb2);(try clear hk);(try clear hi);have zc5:=b20 z1;have zc6:=b21 z1;have zc7:=blk_frozen z1.out 0;have zc8:=blk_frozen z1.out 1;have zc9:=b20 z2;have zd0:=b21 z2;have zd1:=blk_frozen z2.out 0;have zd2:=blk_frozen z2.out 1) | (go_at_call 55;(with_reducible refine (impl_Cells_free.calls a0_0 _ _ z3 ((rd_T49 l1 z0).f1) m0 _ ?j9 ?r0 A21.out).mono ?_);(case j9 => exact cb_ r3.out);(case r0 => exact r4.out);rintro e w28 ⟨rfl,hb⟩;replace z1:=bb_ z1 hb;replace z2:=bb_ z2 hb;replace HB:=ak (below_step hb_ hb);(try clear hb);(try clear hb2);(try clear hk);(try clear hi)));go_meet
            case rel => exact ⟨_,(!m0),es_,H',⟨by have:=HJ2.out;have:=HK2.out;first | omega | exact Nat.le_refl _⟩,⟨bk_ z1.out⟩,⟨bk_ z2.out⟩,⟨hb_⟩⟩
           ·replace c20:=Bool.eq_false_iff.mpr c20
            subst c20;rw [if_neg (show ¬ (false = true) by decide)] at H;have H':=Aside0.mk H;clear H;have zi3:=j0.out;have zi4:=j4.out;have zd3:=b20 z1;have zd4:=b21 z1;have zd5:=blk_frozen z1.out 0;have zd6:=blk_frozen z1.out 1;have zd7:=b20 z2;have zd8:=b21 z2;have zd9:=blk_frozen z2.out 0;have ze0:=blk_frozen z2.out 1;go_wp2_with (first | ((with_reducible refine gate_callee (f:=55) rfl ?_);refine goesL_ (some 27) rfl rfl Try.func55 (by kernel_rfl) rfl #[.agg #[.int .i64 a0_0,.slice z8 z3.length c0_1],.int .i64 ((rd_T49 l1 z0).f0)] rfl ls_ ?_;(with_reducible refine (impl_Cells_free.calls a0_0 _ _ z3 ((rd_T49 l1 z0).f0) false _ ?j9 ?r0 A19.out).mono ?_);(case j9 => exact Kd.C_below r3.out hb_);(case r0 => exact r4.out);rintro e w32 ⟨rfl,hb⟩;refine ⟨_,rfl,?_⟩;replace z1:=ak (blk_below (g:=z4) (o:=.cells #[.int .i64 a0_0,.slice z8 z3.length c0_1] 39 (0,0)) (by (with_reducible repeat (first | refine blk_drewN ?_ _ | refine blk_drew ?_ | refine blk_alloc ?_ _));refine blk_far ?_ j0.out _;(with_reducible repeat (first | refine blk_drewN ?_ _ | refine blk_drew ?_ | refine blk_alloc ?_ _));refine blk_far ?_ j0.out _;exact bk_ z1.out) hb);replace z2:=ak (blk_below (g:=z5) (o:=.cells #[.int .i64 ((rd_T49 l1 z0).f0),.int .i64 ((rd_T49 l1 z0).f1)] 49 (0,0)) (by (with_reducible repeat (first | refine blk_drewN ?_ _ | refine blk_drew ?_ | refine blk_alloc ?_ _));refine blk_put (cs:=#[.int .i64 ((rd_T49 l1 z0).f0),.int .i64 0]) ?_ 1 _ rfl;(with_reducible repeat (first | refine blk_drewN ?_ _ | refine blk_drew ?_ | refine blk_alloc ?_ _));refine blk_put (cs:=#[.int .i64 0,.int .i64 0]) ?_ 0 _ rfl;exact bk_ z2.out) hb);replace HB:=ak (below_step hb_ hb);(try clear hb);(try clear hb2);(try clear hk);(try clear hi)));go_meet
            case rel => exact ⟨_,(true),es_,H',⟨by have:=HJ2.out;have:=HK2.out;first | omega | exact Nat.le_refl _⟩,⟨bk_ z1.out⟩,⟨bk_ z2.out⟩,⟨hb_⟩⟩
          case rest =>
           clear m6;obtain ⟨kq,r6,rfl,HA,m4,z1,z2,HB⟩:=hcut
           cases kq with
           | zero => exact absurd HA.out (by simp [impl_GoodTrips.j2])
           | succ m9 =>
            have H:=HA.out;clear HA;simp only [impl_GoodTrips.j2] at H;by_cases c33 : r6 = true
            ·subst c33
             rw [if_pos rfl] at H
             obtain rfl:=Option.some.inj H
             go_wp2;go_ret;exact ⟨er_,hb_⟩
            ·replace c33:=Bool.eq_false_iff.mpr c33
             subst c33;rw [if_neg (show ¬ (false = true) by decide)] at H;by_cases c34 : 0 ≤ z0
             ·rw [if_pos c34] at H
              have zi5:=eq_true c34;have zi6 : decide (0 ≤ z0) = true:=decide_eq_true c34;clear c34;by_cases c35 : z0 ≤ (l1.length : Int)
              ·rw [if_pos c35] at H
               have zi7:=eq_true c35;have zi8 : decide (z0 ≤ (l1.length : Int)) = true:=decide_eq_true c35;clear c35;obtain ⟨z9,r7⟩ : ∃ y_ : List (S49),y_ = (l1.take (z0 : Int).toNat):=⟨_,rfl⟩;(replace H : (impl_GoodTrips.l1 m9 l1 l1 (l1.length : Int) z0 z9 (z9.length : Int) 0 a0_0 z3 ((rd_T49 l1 z0).f0) ((rd_T49 l1 z0).f1)) = some r:=by first | (rw [r7];with_reducible exact H) | (have H2_:=(Option.bind_some _ _).symm.trans H;rw [r7];with_reducible exact H2_) | (have H2_:=(Option.bind_some _ _).symm.trans H;with_reducible exact H2_) | with_reducible exact H | (rw [r7];exact H) | exact H);have za1:=Aside0.mk r7;clear r7;have H':=Aside0.mk H;clear H;have q36 : (z0 : Int) ≤ ((l1.length : Int) : Int):=of_decide_eq_true as_;obtain ⟨i036,hi036,_,hsz36,_⟩:=info_parts info49;have hroom36 : l1.length ≤ c1:=HC1.out;have hC36 : Kd.C k49 _ (some r5) l1.length l1:=HR1.out;have hcut36:=cut_to (P:=Try.prog) 41 49 .i64 Try.underlying41 hi036 (some r5) l1.length c1 z0 (of_decide_eq_true as_) q36 hroom36;have hr36:=Kd.C_take (m:=(z0 : Int).toNat) hC36 (by omega);have za0 : z9.length = (z0 : Int).toNat:=(by rw [za1.out,List.length_take];omega);rw [← za1.out] at hr36;rw [← za0] at hcut36;have m5:=Aside0.mk hr36;have zi9:=ak (show z9.length ≤ c1 from by omega);clear hr36 hC36 hroom36 hi036 hsz36;have KY36:=Aside0.mk za0;clear za0;replace q36:=eq_true q36;go_wp2
               go_loopg [40] m9 (fun kq v40 w' => ∃ (z6 : Int),v40 = .int .i64 z6 ∧ Aside0 (impl_GoodTrips.l1 kq l1 l1 (l1.length : Int) z0 z9 (z9.length : Int) z6 a0_0 z3 ((rd_T49 l1 z0).f0) ((rd_T49 l1 z0).f1) = some r) ∧ Aside0 (kq ≤ m9) ∧ Aside0 (w'.heap[z4]? = some (.cells #[.int .i64 a0_0,(.slice z8 z3.length c0_1)] 39 (0,0))) ∧ Aside0 (w'.heap[z5]? = some (.cells #[.int .i64 ((rd_T49 l1 z0).f0),.int .i64 ((rd_T49 l1 z0).f1)] 49 (0,0))) ∧ Aside0 (Below w.heap.size w w'))
               case atStart => exact ⟨(0),es_,H',⟨Nat.le_refl _⟩,⟨bk_ z1.out⟩,⟨bk_ z2.out⟩,⟨hb_⟩⟩
               case round =>
                clear H';obtain ⟨z6,rfl,HA,HK4,z1,z2,HB⟩:=hrel
                cases gk with
                | zero => exact absurd HA.out (by simp [impl_GoodTrips.l1])
                | succ k4 =>
                 have H:=HA.out;clear HA;simp only [impl_GoodTrips.l1] at H;by_cases c37 : z6 < (z9.length : Int)
                 ·rw [if_pos c37] at H
                  have za8 : decide (z6 < (z9.length : Int)) = true:=decide_eq_true c37;clear c37;by_cases c38 : 0 ≤ z6
                  ·rw [if_pos c38] at H
                   have zj0 : decide (0 ≤ z6) = true:=decide_eq_true c38;clear c38;by_cases c39 : z6 < (z9.length : Int)
                   ·rw [if_pos c39] at H
                    have zj1 : decide (z6 < (z9.length : Int)) = true:=decide_eq_true c39;clear c39;by_cases c40 : ((rd_T49 z9 z6).f0) = ((rd_T49 l1 z0).f0)
                    ·rw [if_pos c40] at H
                     have za9 : (((rd_T49 z9 z6).f0) == ((rd_T49 l1 z0).f0)) = true:=beq_iff_eq.mpr c40;have zb0 : (((rd_T49 z9 z6).f0) != ((rd_T49 l1 z0).f0)) = false:=bne_eq_false_iff_eq.mpr c40;clear c40
                     obtain rfl:=Option.some.inj H
                     have r1 : 0 ≤ (z6 : Int):=of_decide_eq_true as_;have r2 : z6 < (z9.length : Int):=of_decide_eq_true as_;obtain ⟨r8,e241,j5,j6⟩:=at_T49 m5.out z6 r1 r2
                     obtain rfl : r5 = r8:=(by injection e241)
                     replace j5:=hc_ HB j5;replace j6:=hc_ HB j6;replace r1:=eq_true r1;replace r2:=eq_true r2;go_wp2_with (first | ((with_reducible refine gate_dst (N:=8) rfl ?_);(try (refine gate_guard (by rfl) ?_;dsimp only));refine box_event ?hg (N:=8) ?hd (cs:=#[.int .i64 0,.int .i64 0]) (t:=49) ?hr ?_;(case hd => rfl);(case hg => rfl);(case hr => first | (go_simp;done) | (go_simp;rfl));intro z7 hg w41 hbox hb;have j1:=ak (hbox);have za2 : Aside0 (w.heap.size ≤ z7):=gz_;have za3 : Aside0 (w.heap.size ≤ z7):=gz_;have j2:=ak ((by rw [hg];exact Nat.ne_of_lt (blk_lt (g:=z4) (o:=.cells #[.int .i64 a0_0,.slice z8 z3.length c0_1] 39 (0,0)) (bk_ z1.out)) : z4 ≠ z7));have j7:=ak ((by rw [hg];exact Nat.ne_of_gt (blk_lt (g:=z4) (o:=.cells #[.int .i64 a0_0,.slice z8 z3.length c0_1] 39 (0,0)) (bk_ z1.out)) : z7 ≠ z4));replace z1:=bb_ z1 hb;have j3:=ak ((by rw [hg];exact Nat.ne_of_lt (blk_lt (g:=z5) (o:=.cells #[.int .i64 ((rd_T49 l1 z0).f0),.int .i64 ((rd_T49 l1 z0).f1)] 49 (0,0)) (bk_ z2.out)) : z5 ≠ z7));have j8:=ak ((by rw [hg];exact Nat.ne_of_gt (blk_lt (g:=z5) (o:=.cells #[.int .i64 ((rd_T49 l1 z0).f0),.int .i64 ((rd_T49 l1 z0).f1)] 49 (0,0)) (bk_ z2.out)) : z7 ≠ z5));replace z2:=bb_ z2 hb;replace HB:=ak (below_step hb_ hb);clear hb hbox hg;have zj2:=j7.out;have zj3:=j2.out;have zj4:=j8.out;have zj5:=j3.out;have ze1:=b20 j1;have ze2:=b21 j1;have ze3:=blk_frozen j1.out 0;have ze4:=blk_frozen j1.out 1;have zj6:=j4.out;have zj7:=j0.out;have ze5:=b20 z2;have ze6:=b21 z2;have ze7:=blk_frozen z2.out 0;have ze8:=blk_frozen z2.out 1));go_ret;exact ⟨er_,hb_⟩
                    ·rw [if_neg c40] at H
                     have za9 : (((rd_T49 z9 z6).f0) == ((rd_T49 l1 z0).f0)) = false:=beq_eq_false_iff_ne.mpr c40;have zb0 : (((rd_T49 z9 z6).f0) != ((rd_T49 l1 z0).f0)) = true:=bne_iff_ne.mpr c40;by_cases c47 : ((rd_T49 z9 z6).f1) = ((rd_T49 l1 z0).f1)
                     ·rw [if_pos c47] at H
                      have zb1 : (((rd_T49 z9 z6).f1) == ((rd_T49 l1 z0).f1)) = true:=beq_iff_eq.mpr c47;have zb2 : (((rd_T49 z9 z6).f1) != ((rd_T49 l1 z0).f1)) = false:=bne_eq_false_iff_eq.mpr c47;clear c47
                      obtain rfl:=Option.some.inj H
                      have r1 : 0 ≤ (z6 : Int):=of_decide_eq_true as_;have r2 : z6 < (z9.length : Int):=of_decide_eq_true as_;obtain ⟨r8,e241,j5,j6⟩:=at_T49 m5.out z6 r1 r2
                      obtain rfl : r5 = r8:=(by injection e241)
                      replace j5:=hc_ HB j5;replace j6:=hc_ HB j6;replace r1:=eq_true r1;replace r2:=eq_true r2;go_wp2_with (first | ((with_reducible refine gate_dst (N:=8) rfl ?_);(try (refine gate_guard (by rfl) ?_;dsimp only));refine box_event ?hg (N:=8) ?hd (cs:=#[.int .i64 0,.int .i64 0]) (t:=49) ?hr ?_;(case hd => rfl);(case hg => rfl);(case hr => first | (go_simp;done) | (go_simp;rfl));intro z7 hg w48 hbox hb;have j1:=ak (hbox);have za2 : Aside0 (w.heap.size ≤ z7):=gz_;have za3 : Aside0 (w.heap.size ≤ z7):=gz_;have j2:=ak ((by rw [hg];exact Nat.ne_of_lt (blk_lt (g:=z4) (o:=.cells #[.int .i64 a0_0,.slice z8 z3.length c0_1] 39 (0,0)) (bk_ z1.out)) : z4 ≠ z7));have j7:=ak ((by rw [hg];exact Nat.ne_of_gt (blk_lt (g:=z4) (o:=.cells #[.int .i64 a0_0,.slice z8 z3.length c0_1] 39 (0,0)) (bk_ z1.out)) : z7 ≠ z4));replace z1:=bb_ z1 hb;have j3:=ak ((by rw [hg];exact Nat.ne_of_lt (blk_lt (g:=z5) (o:=.cells #[.int .i64 ((rd_T49 l1 z0).f0),.int .i64 ((rd_T49 l1 z0).f1)] 49 (0,0)) (bk_ z2.out)) : z5 ≠ z7));have j8:=ak ((by rw [hg];exact Nat.ne_of_gt (blk_lt (g:=z5) (o:=.cells #[.int .i64 ((rd_T49 l1 z0).f0),.int .i64 ((rd_T49 l1 z0).f1)] 49 (0,0)) (bk_ z2.out)) : z7 ≠ z5));replace z2:=bb_ z2 hb;replace HB:=ak (below_step hb_ hb);clear hb hbox hg;have zj8:=j7.out;have zj9:=j2.out;have zk0:=j8.out;have zk1:=j3.out;have ze9:=b20 j1;have zf0:=b21 j1;have zf1:=blk_frozen j1.out 0;have zf2:=blk_frozen j1.out 1;have zk2:=j4.out;have zk3:=j0.out;have zf3:=b20 z2;have zf4:=b21 z2;have zf5:=blk_frozen z2.out 0;have zf6:=blk_frozen z2.out 1));go_ret;exact ⟨er_,hb_⟩
                     ·rw [if_neg c47] at H
                      have zb1 : (((rd_T49 z9 z6).f1) == ((rd_T49 l1 z0).f1)) = false:=beq_eq_false_iff_ne.mpr c47;have zb2 : (((rd_T49 z9 z6).f1) != ((rd_T49 l1 z0).f1)) = true:=bne_iff_ne.mpr c47;have H':=Aside0.mk H;clear H;have r1 : 0 ≤ (z6 : Int):=of_decide_eq_true as_;have r2 : z6 < (z9.length : Int):=of_decide_eq_true as_;obtain ⟨r8,e241,j5,j6⟩:=at_T49 m5.out z6 r1 r2
                      obtain rfl : r5 = r8:=(by injection e241)
                      replace j5:=hc_ HB j5;replace j6:=hc_ HB j6;replace r1:=eq_true r1;replace r2:=eq_true r2;go_wp2_with (first | ((with_reducible refine gate_dst (N:=8) rfl ?_);(try (refine gate_guard (by rfl) ?_;dsimp only));refine box_event ?hg (N:=8) ?hd (cs:=#[.int .i64 0,.int .i64 0]) (t:=49) ?hr ?_;(case hd => rfl);(case hg => rfl);(case hr => first | (go_simp;done) | (go_simp;rfl));intro z7 hg w54 hbox hb;have j1:=ak (hbox);have za2 : Aside0 (w.heap.size ≤ z7):=gz_;have za3 : Aside0 (w.heap.size ≤ z7):=gz_;have j2:=ak ((by rw [hg];exact Nat.ne_of_lt (blk_lt (g:=z4) (o:=.cells #[.int .i64 a0_0,.slice z8 z3.length c0_1] 39 (0,0)) (bk_ z1.out)) : z4 ≠ z7));have j7:=ak ((by rw [hg];exact Nat.ne_of_gt (blk_lt (g:=z4) (o:=.cells #[.int .i64 a0_0,.slice z8 z3.length c0_1] 39 (0,0)) (bk_ z1.out)) : z7 ≠ z4));replace z1:=bb_ z1 hb;have j3:=ak ((by rw [hg];exact Nat.ne_of_lt (blk_lt (g:=z5) (o:=.cells #[.int .i64 ((rd_T49 l1 z0).f0),.int .i64 ((rd_T49 l1 z0).f1)] 49 (0,0)) (bk_ z2.out)) : z5 ≠ z7));have j8:=ak ((by rw [hg];exact Nat.ne_of_gt (blk_lt (g:=z5) (o:=.cells #[.int .i64 ((rd_T49 l1 z0).f0),.int .i64 ((rd_T49 l1 z0).f1)] 49 (0,0)) (bk_ z2.out)) : z7 ≠ z5));replace z2:=bb_ z2 hb;replace HB:=ak (below_step hb_ hb);clear hb hbox hg;have zk4:=j7.out;have zk5:=j2.out;have zk6:=j8.out;have zk7:=j3.out;have zf7:=b20 j1;have zf8:=b21 j1;have zf9:=blk_frozen j1.out 0;have zg0:=blk_frozen j1.out 1;have zk8:=j4.out;have zk9:=j0.out;have zg1:=b20 z2;have zg2:=b21 z2;have zg3:=blk_frozen z2.out 0;have zg4:=blk_frozen z2.out 1));go_roundg k4
                      case measure => have:=HJ2.out;have:=HK2.out;have:=m4.out;have:=HK4.out;omega
                      case rel => exact ⟨(wrap64 (z6 + 1)),es_,H',⟨by have:=HJ2.out;have:=HK2.out;have:=m4.out;have:=HK4.out;omega⟩,⟨by (with_reducible repeat (first | refine blk_drewN ?_ _ | refine blk_drew ?_ | refine blk_alloc ?_ _));refine blk_far ?_ j2.out _;(with_reducible repeat (first | refine blk_drewN ?_ _ | refine blk_drew ?_ | refine blk_alloc ?_ _));refine blk_far ?_ j2.out _;exact bk_ z1.out⟩,⟨by (with_reducible repeat (first | refine blk_drewN ?_ _ | refine blk_drew ?_ | refine blk_alloc ?_ _));refine blk_far ?_ j3.out _;(with_reducible repeat (first | refine blk_drewN ?_ _ | refine blk_drew ?_ | refine blk_alloc ?_ _));refine blk_far ?_ j3.out _;exact bk_ z2.out⟩,⟨hb_⟩⟩
                   ·rw [if_neg c39] at H
                    exact absurd H (by simp)
                  ·rw [if_neg c38] at H
                   exact absurd H (by simp)
                 ·rw [if_neg c37] at H
                  have za8 : decide (z6 < (z9.length : Int)) = false:=decide_eq_false c37;clear c37;have H':=Aside0.mk H;clear H;go_wp2;go_roundg k4
                  case measure => have:=HJ2.out;have:=HK2.out;have:=m4.out;have:=HK4.out;omega
                  case rel => exact ⟨(wrap64 (z0 + 1)),es_,H',⟨by have:=HJ2.out;have:=HK2.out;have:=m4.out;have:=HK4.out;omega⟩,⟨bk_ z1.out⟩,⟨hb_⟩⟩
              ·rw [if_neg c35] at H
               exact absurd H (by simp)
             ·rw [if_neg c34] at H
              exact absurd H (by simp)
         ·rw [if_neg c14] at H
          exact absurd H (by simp)
        ·rw [if_neg c13] at H
         exact absurd H (by simp)
       ·rw [if_neg c12] at H
        have za7 : decide (z0 < (l1.length : Int)) = false:=decide_eq_false c12;clear c12
        obtain rfl:=Option.some.inj H
        go_wp2;go_ret;exact ⟨er_,hb_⟩

end Go.Proofs.Ytcldlljnaijmhaa.Pr
/-
Own text,by hand: what (Cells).along comes to: the cell beside in one of the four ways.
-/
namespace Go.Proofs.Ytcldlljnaijmhaa.Pr
open Go.RowKit Go.Proofs.YtcldlljnaijmhaaW.PrintWords Go.Proofs.YtcldlljnaijmhaaW.PrintLast
def impl_Cells_along.f (a0_0 : Int) (l0_1 : List Int) (a1 : Int) (a2 : Int) : Option Int:=
  if a2 = 0 then impl_Cells_next.f a0_0 l0_1 a1 1 0 else if a2 = 1 then impl_Cells_next.f a0_0 l0_1 a1 0 1 else if a2 = 2 then impl_Cells_next.f a0_0 l0_1 a1 (-1) 0 else if a2 = 3 then impl_Cells_next.f a0_0 l0_1 a1 0 (-1) else none
end Go.Proofs.Ytcldlljnaijmhaa.Pr
namespace Go.Proofs.Ytcldlljnaijmhaa.Pr
open Go.RowKit Go.Proofs.YtcldlljnaijmhaaW.PrintWords Go.Proofs.YtcldlljnaijmhaaW.PrintLast Go.Proofs.YtcldlljnaijmhaaW.PrintMore
attribute [local go_sem] max2_int min2_int max_two min_two max_three min_three max_four min_four
set_option linter.unusedVariables false
set_option linter.unusedSimpArgs false

/-! ### impl_Cells_goes: function 58 -/
def impl_Cells_goes.l0 : Nat → List Int → List Int → Int → Int → Int → List Int → Option (List Int)
  | 0,_,_,_,_,_,_ => none
  | k + 1,x5,x21,x22,x23,x245000,x245001 => if x23 < x22 then (if 0 ≤ x23 then (if x23 < (x21.length : Int) then ((impl_Cells_free.f x245000 x245001 (rd x21 x23)).bind fun t253 => (if t253 = true then (if x5.length < 17592186044416 then (impl_Cells_goes.l0 k (x5 ++ [rd x21 x23]) x21 x22 (wrap64 (x23 + 1)) x245000 x245001) else (none)) else (impl_Cells_goes.l0 k x5 x21 x22 (wrap64 (x23 + 1)) x245000 x245001))) else (none)) else (none)) else (some x5)
def impl_Cells_goes.f (k : Nat) (a0_0 : Int) (l0_1 : List Int) (a1 : Int) : Option (List Int):=(impl_Cells_along.f a0_0 l0_1 a1 3).bind fun t245 => ((impl_Cells_along.f a0_0 l0_1 a1 2).bind fun t246 => ((impl_Cells_along.f a0_0 l0_1 a1 0).bind fun t247 => ((impl_Cells_along.f a0_0 l0_1 a1 1).bind fun t248 => ((some (([t245,t246,a1,t247,t248] : List Int) : List Int)).bind fun y249 => (impl_Cells_goes.l0 k ([] : List Int) y249 (y249.length : Int) 0 a0_0 l0_1)))))
/-! ### impl_GoodPaths: function 37 -/
mutual
def impl_GoodPaths.j0 : Nat → List (S49) → List (List Int) → Bool → Int → List Int → Option (Bool)
  | 0,_,_,_,_,_ => none
  | k + 1,x1,x2,x24,x258000,x258001 => if x24 = true then (some false) else (impl_GoodPaths.l0 k x1 x2 x2 (x2.length : Int) 0 x258000 x258001)
def impl_GoodPaths.l0 : Nat → List (S49) → List (List Int) → List (List Int) → Int → Int → Int → List Int → Option (Bool)
  | 0,_,_,_,_,_,_,_ => none
  | k + 1,x1,x2,x25,x26,x27,x258000,x258001 => if x27 < x26 then (if 0 ≤ x27 then (if x27 < (x25.length : Int) then (if ((rd_L1 x25 x27).length : Int) < 1 then (impl_GoodPaths.j2 k x1 x2 (rd_L1 x25 x27) ((rd_L1 x25 x27).length : Int) x25 x26 x27 true x258000 x258001) else (if 0 < (x2.length : Int) then (if ((rd_L1 x25 x27).length : Int) = ((rd_L1 x2 0).length : Int) then (if 0 < ((rd_L1 x25 x27).length : Int) then (if x27 < (x1.length : Int) then (if (rd (rd_L1 x25 x27) 0) = ((rd_T49 x1 x27).f0) then (if 0 ≤ (wrap64 (((rd_L1 x25 x27).length : Int) - 1)) then (if (wrap64 (((rd_L1 x25 x27).length : Int) - 1)) < ((rd_L1 x25 x27).length : Int) then (impl_GoodPaths.j2 k x1 x2 (rd_L1 x25 x27) ((rd_L1 x25 x27).length : Int) x25 x26 x27 ((rd (rd_L1 x25 x27) (wrap64 (((rd_L1 x25 x27).length : Int) - 1))) != ((rd_T49 x1 x27).f1)) x258000 x258001) else (none)) else (none)) else (impl_GoodPaths.j2 k x1 x2 (rd_L1 x25 x27) ((rd_L1 x25 x27).length : Int) x25 x26 x27 true x258000 x258001)) else (none)) else (none)) else (impl_GoodPaths.j2 k x1 x2 (rd_L1 x25 x27) ((rd_L1 x25 x27).length : Int) x25 x26 x27 true x258000 x258001)) else (none))) else (none)) else (none)) else ((impl_FirstMeet.f k x2).bind fun t259 => (some (decide (t259 < 0))))
def impl_GoodPaths.j2 : Nat → List (S49) → List (List Int) → List Int → Int → List (List Int) → Int → Int → Bool → Int → List Int → Option (Bool)
  | 0,_,_,_,_,_,_,_,_,_,_ => none
  | k + 1,x1,x2,x8,x9,x25,x26,x27,x67,x258000,x258001 => if x67 = true then (some false) else (impl_GoodPaths.l1 k x1 x2 x8 x9 1 x25 x26 x27 x258000 x258001)
def impl_GoodPaths.l1 : Nat → List (S49) → List (List Int) → List Int → Int → Int → List (List Int) → Int → Int → Int → List Int → Option (Bool)
  | 0,_,_,_,_,_,_,_,_,_,_ => none
  | k + 1,x1,x2,x8,x9,x10,x25,x26,x27,x258000,x258001 => if x10 < x9 then (if 0 ≤ (wrap64 (x10 - 1)) then (if (wrap64 (x10 - 1)) < (x8.length : Int) then ((impl_Cells_free.f x258000 x258001 (rd x8 (wrap64 (x10 - 1)))).bind fun t267 => (if t267 = true then ((impl_Cells_goes.f k x258000 x258001 (rd x8 (wrap64 (x10 - 1)))).bind fun t269 => (impl_GoodPaths.l2 k x1 x2 x8 x9 x10 false x25 x26 x27 t269 (t269.length : Int) 0 x258000 x258001)) else (some false))) else (none)) else (none)) else (impl_GoodPaths.l0 k x1 x2 x25 x26 (wrap64 (x27 + 1)) x258000 x258001)
def impl_GoodPaths.l2 : Nat → List (S49) → List (List Int) → List Int → Int → Int → Bool → List (List Int) → Int → Int → List Int → Int → Int → Int → List Int → Option (Bool)
  | 0,_,_,_,_,_,_,_,_,_,_,_,_,_,_ => none
  | k + 1,x1,x2,x8,x9,x10,x11,x25,x26,x27,x86,x87,x88,x258000,x258001 => if x88 < x87 then (if 0 ≤ x88 then (if x88 < (x86.length : Int) then (if x11 = true then (impl_GoodPaths.l2 k x1 x2 x8 x9 x10 true x25 x26 x27 x86 x87 (wrap64 (x88 + 1)) x258000 x258001) else (if 0 ≤ x10 then (if x10 < (x8.length : Int) then (impl_GoodPaths.l2 k x1 x2 x8 x9 x10 ((rd x86 x88) == (rd x8 x10)) x25 x26 x27 x86 x87 (wrap64 (x88 + 1)) x258000 x258001) else (none)) else (none))) else (none)) else (none)) else (if x11 = true then (impl_GoodPaths.l1 k x1 x2 x8 x9 (wrap64 (x10 + 1)) x25 x26 x27 x258000 x258001) else (some false))
end
def impl_GoodPaths.f (k : Nat) (a0_0 : Int) (l0_1 : List Int) (l1 : List (S49)) (l2 : List (List Int)) : Option (Bool):=(impl_GoodTrips.f k a0_0 l0_1 l1).bind fun t258 => (if t258 = true then (impl_GoodPaths.j0 k l1 l2 ((l2.length : Int) != (l1.length : Int)) a0_0 l0_1) else (impl_GoodPaths.j0 k l1 l2 true a0_0 l0_1))
/-! ### laws_FnExactGoodPaths: function 8 -/
/-! ### spec_AloneTicks: function 31 -/
end Go.Proofs.Ytcldlljnaijmhaa.Pr
namespace Go.Proofs.Ytcldlljnaijmhaa.Pr
open Go.RowKit Go.Proofs.YtcldlljnaijmhaaW.PrintWords Go.Proofs.YtcldlljnaijmhaaW.PrintLast Go.Proofs.YtcldlljnaijmhaaW.PrintMore
attribute [local go_sem] max2_int min2_int max_two min_two max_three min_three max_four min_four
set_option linter.unusedVariables false
set_option linter.unusedSimpArgs false

set_option maxHeartbeats 8000000 in
set_option maxRecDepth 100000 in
theorem impl_Cells_next.calls (a0_0 : Int) (z3 : Option Addr) (c0_1 : Nat) (z2 : List Int) (a1 : Int) (a2 : Int) (a3 : Int) (r : Int) (w : World) (hr0_1 : Kd.C (Kd.int .i64) w z3 z2.length z2) (hc0_1 : z2.length ≤ c0_1) (h : impl_Cells_next.f a0_0 z2 a1 a2 a3 = some r) :
   Calls Try.prog 77 #[.agg #[.int .i64 a0_0,.slice z3 z2.length c0_1],.int .i64 a1,.int .i64 a2,.int .i64 a3] w fun e w' => e = .returned (.int .i64 r) ∧ Below w.heap.size w w':=by
  have m2:=Try.underlying39;have m0:=Aside0.mk hr0_1;have m1:=Aside0.mk hc0_1;clear hr0_1 hc0_1;have HB:=ak (Below.refl w.heap.size w);have H : (if a0_0 = 0 then (none) else (if (wrap64 ((Int.tmod a1 a0_0) + a2)) < 0 then (some (-1)) else (if (wrap64 ((Int.tmod a1 a0_0) + a2)) ≥ a0_0 then (some (-1)) else (if (wrap64 ((wrap64 (Int.tdiv a1 a0_0)) + a3)) < 0 then (some (-1)) else (if (wrap64 ((wrap64 (Int.tdiv a1 a0_0)) + a3)) ≥ (wrap64 ((z2.length : Int) / a0_0)) then (some (-1)) else (some (wrap64 ((wrap64 ((wrap64 ((wrap64 (Int.tdiv a1 a0_0)) + a3)) * a0_0)) + (wrap64 ((Int.tmod a1 a0_0) + a2)))))))))) = some r:=h;clear h;by_cases c5 : a0_0 = 0
  ·rw [if_pos c5] at H
   exact absurd H (by simp)
  ·rw [if_neg c5] at H
   have m3 : (a0_0 == 0) = false:=beq_eq_false_iff_ne.mpr c5;have m4 : (a0_0 != 0) = true:=bne_iff_ne.mpr c5;by_cases c6 : (wrap64 ((Int.tmod a1 a0_0) + a2)) < 0
   ·rw [if_pos c6] at H
    have r8 : decide ((wrap64 ((Int.tmod a1 a0_0) + a2)) < 0) = true:=decide_eq_true c6;clear c6
    obtain rfl:=Option.some.inj H
    go_enter Try.func77,Try.ntmps77;go_wp2_with (first | ((with_reducible refine gate_dst (N:=4) rfl ?_);(try (refine gate_guard (by rfl) ?_;dsimp only));refine box_event ?hg (N:=4) ?hd (cs:=#[.int .i64 a0_0,.slice z3 z2.length c0_1]) (t:=39) ?hr ?_;(case hd => rfl);(case hg => rfl);(case hr => first | (go_simp;done) | (go_simp;rfl));intro z0 hg w7 hbox hb;have z1:=ak (hbox);have z4 : Aside0 (w.heap.size ≤ z0):=gz_;have z5 : Aside0 (w.heap.size ≤ z0):=gz_;replace HB:=ak (below_step hb_ hb);clear hb hbox hg;have r2:=b20 z1;have r3:=b21 z1;have r4:=blk_frozen z1.out 0;have r5:=blk_frozen z1.out 1));(repeat (go_quiet (first | ((with_reducible refine gate_dst (N:=4) rfl ?_);(try (refine gate_guard (by rfl) ?_;dsimp only));refine box_event ?hg (N:=4) ?hd (cs:=#[.int .i64 a0_0,.slice z3 z2.length c0_1]) (t:=39) ?hr ?_;(case hd => rfl);(case hg => rfl);(case hr => first | (go_simp;done) | (go_simp;rfl));intro z0 hg w7 hbox hb;have z1:=ak (hbox);have z4 : Aside0 (w.heap.size ≤ z0):=gz_;have z5 : Aside0 (w.heap.size ≤ z0):=gz_;replace HB:=ak (below_step hb_ hb);clear hb hbox hg;have r2:=b20 z1;have r3:=b21 z1;have r4:=blk_frozen z1.out 0;have r5:=blk_frozen z1.out 1));try go_wp2_with (first | ((with_reducible refine gate_dst (N:=4) rfl ?_);(try (refine gate_guard (by rfl) ?_;dsimp only));refine box_event ?hg (N:=4) ?hd (cs:=#[.int .i64 a0_0,.slice z3 z2.length c0_1]) (t:=39) ?hr ?_;(case hd => rfl);(case hg => rfl);(case hr => first | (go_simp;done) | (go_simp;rfl));intro z0 hg w7 hbox hb;have z1:=ak (hbox);have z4 : Aside0 (w.heap.size ≤ z0):=gz_;have z5 : Aside0 (w.heap.size ≤ z0):=gz_;replace HB:=ak (below_step hb_ hb);clear hb hbox hg;have r2:=b20 z1;have r3:=b21 z1;have r4:=blk_frozen z1.out 0;have r5:=blk_frozen z1.out 1))));go_ret;exact ⟨er_,hb_⟩
   ·rw [if_neg c6] at H
    have r8 : decide ((wrap64 ((Int.tmod a1 a0_0) + a2)) < 0) = false:=decide_eq_false c6;clear c6;by_cases c9 : (wrap64 ((Int.tmod a1 a0_0) + a2)) ≥ a0_0
    ·rw [if_pos c9] at H
     have r9 : decide (a0_0 ≤ (wrap64 ((Int.tmod a1 a0_0) + a2))) = true:=decide_eq_true c9;clear c9
     obtain rfl:=Option.some.inj H
     go_enter Try.func77,Try.ntmps77;go_wp2_with (first | ((with_reducible refine gate_dst (N:=4) rfl ?_);(try (refine gate_guard (by rfl) ?_;dsimp only));refine box_event ?hg (N:=4) ?hd (cs:=#[.int .i64 a0_0,.slice z3 z2.length c0_1]) (t:=39) ?hr ?_;(case hd => rfl);(case hg => rfl);(case hr => first | (go_simp;done) | (go_simp;rfl));intro z0 hg w10 hbox hb;have z1:=ak (hbox);have z4 : Aside0 (w.heap.size ≤ z0):=gz_;have z5 : Aside0 (w.heap.size ≤ z0):=gz_;replace HB:=ak (below_step hb_ hb);clear hb hbox hg;have z6:=b20 z1;have z7:=b21 z1;have z8:=blk_frozen z1.out 0;have z9:=blk_frozen z1.out 1));(repeat (go_quiet (first | ((with_reducible refine gate_dst (N:=4) rfl ?_);(try (refine gate_guard (by rfl) ?_;dsimp only));refine box_event ?hg (N:=4) ?hd (cs:=#[.int .i64 a0_0,.slice z3 z2.length c0_1]) (t:=39) ?hr ?_;(case hd => rfl);(case hg => rfl);(case hr => first | (go_simp;done) | (go_simp;rfl));intro z0 hg w10 hbox hb;have z1:=ak (hbox);have z4 : Aside0 (w.heap.size ≤ z0):=gz_;have z5 : Aside0 (w.heap.size ≤ z0):=gz_;replace HB:=ak (below_step hb_ hb);clear hb hbox hg;have z6:=b20 z1;have z7:=b21 z1;have z8:=blk_frozen z1.out 0;have z9:=blk_frozen z1.out 1));try go_wp2_with (first | ((with_reducible refine gate_dst (N:=4) rfl ?_);(try (refine gate_guard (by rfl) ?_;dsimp only));refine box_event ?hg (N:=4) ?hd (cs:=#[.int .i64 a0_0,.slice z3 z2.length c0_1]) (t:=39) ?hr ?_;(case hd => rfl);(case hg => rfl);(case hr => first | (go_simp;done) | (go_simp;rfl));intro z0 hg w10 hbox hb;have z1:=ak (hbox);have z4 : Aside0 (w.heap.size ≤ z0):=gz_;have z5 : Aside0 (w.heap.size ≤ z0):=gz_;replace HB:=ak (below_step hb_ hb);clear hb hbox hg;have z6:=b20 z1;have z7:=b21 z1;have z8:=blk_frozen z1.out 0;have z9:=blk_frozen z1.out 1))));go_ret;exact ⟨er_,hb_⟩
    ·rw [if_neg c9] at H
     have r9 : decide (a0_0 ≤ (wrap64 ((Int.tmod a1 a0_0) + a2))) = false:=decide_eq_false c9;clear c9;by_cases c12 : (wrap64 ((wrap64 (Int.tdiv a1 a0_0)) + a3)) < 0
     ·rw [if_pos c12] at H
      have r6 : decide ((wrap64 ((wrap64 (Int.tdiv a1 a0_0)) + a3)) < 0) = true:=decide_eq_true c12;clear c12
      obtain rfl:=Option.some.inj H
      go_enter Try.func77,Try.ntmps77;go_wp2_with (first | ((with_reducible refine gate_dst (N:=4) rfl ?_);(try (refine gate_guard (by rfl) ?_;dsimp only));refine box_event ?hg (N:=4) ?hd (cs:=#[.int .i64 a0_0,.slice z3 z2.length c0_1]) (t:=39) ?hr ?_;(case hd => rfl);(case hg => rfl);(case hr => first | (go_simp;done) | (go_simp;rfl));intro z0 hg w13 hbox hb;have z1:=ak (hbox);have z4 : Aside0 (w.heap.size ≤ z0):=gz_;have z5 : Aside0 (w.heap.size ≤ z0):=gz_;replace HB:=ak (below_step hb_ hb);clear hb hbox hg;have j0:=b20 z1;have j1:=b21 z1;have j2:=blk_frozen z1.out 0;have j3:=blk_frozen z1.out 1));(repeat (go_quiet (first | ((with_reducible refine gate_dst (N:=4) rfl ?_);(try (refine gate_guard (by rfl) ?_;dsimp only));refine box_event ?hg (N:=4) ?hd (cs:=#[.int .i64 a0_0,.slice z3 z2.length c0_1]) (t:=39) ?hr ?_;(case hd => rfl);(case hg => rfl);(case hr => first | (go_simp;done) | (go_simp;rfl));intro z0 hg w13 hbox hb;have z1:=ak (hbox);have z4 : Aside0 (w.heap.size ≤ z0):=gz_;have z5 : Aside0 (w.heap.size ≤ z0):=gz_;replace HB:=ak (below_step hb_ hb);clear hb hbox hg;have j0:=b20 z1;have j1:=b21 z1;have j2:=blk_frozen z1.out 0;have j3:=blk_frozen z1.out 1));try go_wp2_with (first | ((with_reducible refine gate_dst (N:=4) rfl ?_);(try (refine gate_guard (by rfl) ?_;dsimp only));refine box_event ?hg (N:=4) ?hd (cs:=#[.int .i64 a0_0,.slice z3 z2.length c0_1]) (t:=39) ?hr ?_;(case hd => rfl);(case hg => rfl);(case hr => first | (go_simp;done) | (go_simp;rfl));intro z0 hg w13 hbox hb;have z1:=ak (hbox);have z4 : Aside0 (w.heap.size ≤ z0):=gz_;have z5 : Aside0 (w.heap.size ≤ z0):=gz_;replace HB:=ak (below_step hb_ hb);clear hb hbox hg;have j0:=b20 z1;have j1:=b21 z1;have j2:=blk_frozen z1.out 0;have j3:=blk_frozen z1.out 1))));go_ret;exact ⟨er_,hb_⟩
     ·rw [if_neg c12] at H
      have r6 : decide ((wrap64 ((wrap64 (Int.tdiv a1 a0_0)) + a3)) < 0) = false:=decide_eq_false c12;clear c12;by_cases c15 : (wrap64 ((wrap64 (Int.tdiv a1 a0_0)) + a3)) ≥ (wrap64 ((z2.length : Int) / a0_0))
      ·rw [if_pos c15] at H
       have r7 : decide ((wrap64 ((z2.length : Int) / a0_0)) ≤ (wrap64 ((wrap64 (Int.tdiv a1 a0_0)) + a3))) = true:=decide_eq_true c15;clear c15
       obtain rfl:=Option.some.inj H
       go_enter Try.func77,Try.ntmps77;go_wp2_with (first | ((with_reducible refine gate_dst (N:=4) rfl ?_);(try (refine gate_guard (by rfl) ?_;dsimp only));refine box_event ?hg (N:=4) ?hd (cs:=#[.int .i64 a0_0,.slice z3 z2.length c0_1]) (t:=39) ?hr ?_;(case hd => rfl);(case hg => rfl);(case hr => first | (go_simp;done) | (go_simp;rfl));intro z0 hg w16 hbox hb;have z1:=ak (hbox);have z4 : Aside0 (w.heap.size ≤ z0):=gz_;have z5 : Aside0 (w.heap.size ≤ z0):=gz_;replace HB:=ak (below_step hb_ hb);clear hb hbox hg;have j4:=b20 z1;have j5:=b21 z1;have j6:=blk_frozen z1.out 0;have j7:=blk_frozen z1.out 1));(repeat (go_quiet (first | ((with_reducible refine gate_dst (N:=4) rfl ?_);(try (refine gate_guard (by rfl) ?_;dsimp only));refine box_event ?hg (N:=4) ?hd (cs:=#[.int .i64 a0_0,.slice z3 z2.length c0_1]) (t:=39) ?hr ?_;(case hd => rfl);(case hg => rfl);(case hr => first | (go_simp;done) | (go_simp;rfl));intro z0 hg w16 hbox hb;have z1:=ak (hbox);have z4 : Aside0 (w.heap.size ≤ z0):=gz_;have z5 : Aside0 (w.heap.size ≤ z0):=gz_;replace HB:=ak (below_step hb_ hb);clear hb hbox hg;have j4:=b20 z1;have j5:=b21 z1;have j6:=blk_frozen z1.out 0;have j7:=blk_frozen z1.out 1));try go_wp2_with (first | ((with_reducible refine gate_dst (N:=4) rfl ?_);(try (refine gate_guard (by rfl) ?_;dsimp only));refine box_event ?hg (N:=4) ?hd (cs:=#[.int .i64 a0_0,.slice z3 z2.length c0_1]) (t:=39) ?hr ?_;(case hd => rfl);(case hg => rfl);(case hr => first | (go_simp;done) | (go_simp;rfl));intro z0 hg w16 hbox hb;have z1:=ak (hbox);have z4 : Aside0 (w.heap.size ≤ z0):=gz_;have z5 : Aside0 (w.heap.size ≤ z0):=gz_;replace HB:=ak (below_step hb_ hb);clear hb hbox hg;have j4:=b20 z1;have j5:=b21 z1;have j6:=blk_frozen z1.out 0;have j7:=blk_frozen z1.out 1))));go_ret;exact ⟨er_,hb_⟩
      ·rw [if_neg c15] at H
       have r7 : decide ((wrap64 ((z2.length : Int) / a0_0)) ≤ (wrap64 ((wrap64 (Int.tdiv a1 a0_0)) + a3))) = false:=decide_eq_false c15;clear c15
       obtain rfl:=Option.some.inj H
       go_enter Try.func77,Try.ntmps77;go_wp2_with (first | ((with_reducible refine gate_dst (N:=4) rfl ?_);(try (refine gate_guard (by rfl) ?_;dsimp only));refine box_event ?hg (N:=4) ?hd (cs:=#[.int .i64 a0_0,.slice z3 z2.length c0_1]) (t:=39) ?hr ?_;(case hd => rfl);(case hg => rfl);(case hr => first | (go_simp;done) | (go_simp;rfl));intro z0 hg w18 hbox hb;have z1:=ak (hbox);have z4 : Aside0 (w.heap.size ≤ z0):=gz_;have z5 : Aside0 (w.heap.size ≤ z0):=gz_;replace HB:=ak (below_step hb_ hb);clear hb hbox hg;have j8:=b20 z1;have j9:=b21 z1;have r0:=blk_frozen z1.out 0;have r1:=blk_frozen z1.out 1));(repeat (go_quiet (first | ((with_reducible refine gate_dst (N:=4) rfl ?_);(try (refine gate_guard (by rfl) ?_;dsimp only));refine box_event ?hg (N:=4) ?hd (cs:=#[.int .i64 a0_0,.slice z3 z2.length c0_1]) (t:=39) ?hr ?_;(case hd => rfl);(case hg => rfl);(case hr => first | (go_simp;done) | (go_simp;rfl));intro z0 hg w18 hbox hb;have z1:=ak (hbox);have z4 : Aside0 (w.heap.size ≤ z0):=gz_;have z5 : Aside0 (w.heap.size ≤ z0):=gz_;replace HB:=ak (below_step hb_ hb);clear hb hbox hg;have j8:=b20 z1;have j9:=b21 z1;have r0:=blk_frozen z1.out 0;have r1:=blk_frozen z1.out 1));try go_wp2_with (first | ((with_reducible refine gate_dst (N:=4) rfl ?_);(try (refine gate_guard (by rfl) ?_;dsimp only));refine box_event ?hg (N:=4) ?hd (cs:=#[.int .i64 a0_0,.slice z3 z2.length c0_1]) (t:=39) ?hr ?_;(case hd => rfl);(case hg => rfl);(case hr => first | (go_simp;done) | (go_simp;rfl));intro z0 hg w18 hbox hb;have z1:=ak (hbox);have z4 : Aside0 (w.heap.size ≤ z0):=gz_;have z5 : Aside0 (w.heap.size ≤ z0):=gz_;replace HB:=ak (below_step hb_ hb);clear hb hbox hg;have j8:=b20 z1;have j9:=b21 z1;have r0:=blk_frozen z1.out 0;have r1:=blk_frozen z1.out 1))));go_ret;exact ⟨er_,hb_⟩

end Go.Proofs.Ytcldlljnaijmhaa.Pr
/-
Own text,by hand: the contract of (Cells).along.
-/
namespace Go.Proofs.Ytcldlljnaijmhaa.Pr
open Go.RowKit Go.Proofs.YtcldlljnaijmhaaW.PrintWords Go.Proofs.YtcldlljnaijmhaaW.PrintLast Go.Proofs.YtcldlljnaijmhaaW.PrintMore

set_option maxHeartbeats 1000000 in
set_option maxRecDepth 100000 in
theorem along0 (a0_0 : Int) (A0_1 : Option Addr) (c0_1 : Nat) (l0_1 : List Int) (a1 : Int) (r : Int) (w : World) (hr0_1 : Kd.C (Kd.int .i64) w A0_1 l0_1.length l0_1) (hc0_1 : l0_1.length ≤ c0_1) (h : impl_Cells_next.f a0_0 l0_1 a1 1 0 = some r) :
    Calls Try.prog 70 #[.agg #[.int .i64 a0_0,.slice A0_1 l0_1.length c0_1],.int .i64 a1,.int .i64 0] w fun e w' => e = .returned (.int .i64 r) ∧ Below w.heap.size w w':=by
  have H:=Aside0.mk h;clear h;have HR:=Aside0.mk hr0_1;clear hr0_1;have HC:=Aside0.mk hc0_1;clear hc0_1;(have i0 : ∀ w,(Instr.index 105 (.agg #[.int .i64 1,.int .i64 0,.int .i64 0,.int .i64 1,.int .i64 (-1),.int .i64 0,.int .i64 0,.int .i64 (-1)]) (.int .i64 0)).run Try.prog w = .ok (.agg #[.int .i64 1,.int .i64 0]) w:=fun _ => by kernel_rfl);have hu:=Try.underlying39;go_enter Try.func70,Try.ntmps70;go_wp2_with (go_at_call 77;(with_reducible refine (impl_Cells_next.calls _ _ _ _ _ _ _ _ _ ?s1 HC.out H.out).mono ?_);(case s1 => exact Kd.C_below HR.out (below_alloc (below_alloc (Below.refl _ _) _) _));rintro e w1 ⟨rfl,hb⟩);go_ret;exact ⟨rfl,below_step (below_alloc (below_alloc (Below.refl _ _) _) _) hb⟩
set_option maxHeartbeats 1000000 in
set_option maxRecDepth 100000 in
theorem along1 (a0_0 : Int) (A0_1 : Option Addr) (c0_1 : Nat) (l0_1 : List Int) (a1 : Int) (r : Int) (w : World) (hr0_1 : Kd.C (Kd.int .i64) w A0_1 l0_1.length l0_1) (hc0_1 : l0_1.length ≤ c0_1) (h : impl_Cells_next.f a0_0 l0_1 a1 0 1 = some r) :
    Calls Try.prog 70 #[.agg #[.int .i64 a0_0,.slice A0_1 l0_1.length c0_1],.int .i64 a1,.int .i64 1] w fun e w' => e = .returned (.int .i64 r) ∧ Below w.heap.size w w':=by
  have H:=Aside0.mk h;clear h;have HR:=Aside0.mk hr0_1;clear hr0_1;have HC:=Aside0.mk hc0_1;clear hc0_1;(have i0 : ∀ w,(Instr.index 105 (.agg #[.int .i64 1,.int .i64 0,.int .i64 0,.int .i64 1,.int .i64 (-1),.int .i64 0,.int .i64 0,.int .i64 (-1)]) (.int .i64 1)).run Try.prog w = .ok (.agg #[.int .i64 0,.int .i64 1]) w:=fun _ => by kernel_rfl);have hu:=Try.underlying39;go_enter Try.func70,Try.ntmps70;go_wp2_with (go_at_call 77;(with_reducible refine (impl_Cells_next.calls _ _ _ _ _ _ _ _ _ ?s1 HC.out H.out).mono ?_);(case s1 => exact Kd.C_below HR.out (below_alloc (below_alloc (Below.refl _ _) _) _));rintro e w1 ⟨rfl,hb⟩);go_ret;exact ⟨rfl,below_step (below_alloc (below_alloc (Below.refl _ _) _) _) hb⟩
set_option maxHeartbeats 1000000 in
set_option maxRecDepth 100000 in
theorem along2 (a0_0 : Int) (A0_1 : Option Addr) (c0_1 : Nat) (l0_1 : List Int) (a1 : Int) (r : Int) (w : World) (hr0_1 : Kd.C (Kd.int .i64) w A0_1 l0_1.length l0_1) (hc0_1 : l0_1.length ≤ c0_1) (h : impl_Cells_next.f a0_0 l0_1 a1 (-1) 0 = some r) :
    Calls Try.prog 70 #[.agg #[.int .i64 a0_0,.slice A0_1 l0_1.length c0_1],.int .i64 a1,.int .i64 2] w fun e w' => e = .returned (.int .i64 r) ∧ Below w.heap.size w w':=by
  have H:=Aside0.mk h;clear h;have HR:=Aside0.mk hr0_1;clear hr0_1;have HC:=Aside0.mk hc0_1;clear hc0_1;(have i0 : ∀ w,(Instr.index 105 (.agg #[.int .i64 1,.int .i64 0,.int .i64 0,.int .i64 1,.int .i64 (-1),.int .i64 0,.int .i64 0,.int .i64 (-1)]) (.int .i64 2)).run Try.prog w = .ok (.agg #[.int .i64 (-1),.int .i64 0]) w:=fun _ => by kernel_rfl);have hu:=Try.underlying39;go_enter Try.func70,Try.ntmps70;go_wp2_with (go_at_call 77;(with_reducible refine (impl_Cells_next.calls _ _ _ _ _ _ _ _ _ ?s1 HC.out H.out).mono ?_);(case s1 => exact Kd.C_below HR.out (below_alloc (below_alloc (Below.refl _ _) _) _));rintro e w1 ⟨rfl,hb⟩);go_ret;exact ⟨rfl,below_step (below_alloc (below_alloc (Below.refl _ _) _) _) hb⟩
set_option maxHeartbeats 1000000 in
set_option maxRecDepth 100000 in
theorem along3 (a0_0 : Int) (A0_1 : Option Addr) (c0_1 : Nat) (l0_1 : List Int) (a1 : Int) (r : Int) (w : World) (hr0_1 : Kd.C (Kd.int .i64) w A0_1 l0_1.length l0_1) (hc0_1 : l0_1.length ≤ c0_1) (h : impl_Cells_next.f a0_0 l0_1 a1 0 (-1) = some r) :
    Calls Try.prog 70 #[.agg #[.int .i64 a0_0,.slice A0_1 l0_1.length c0_1],.int .i64 a1,.int .i64 3] w fun e w' => e = .returned (.int .i64 r) ∧ Below w.heap.size w w':=by
  have H:=Aside0.mk h;clear h;have HR:=Aside0.mk hr0_1;clear hr0_1;have HC:=Aside0.mk hc0_1;clear hc0_1;(have i0 : ∀ w,(Instr.index 105 (.agg #[.int .i64 1,.int .i64 0,.int .i64 0,.int .i64 1,.int .i64 (-1),.int .i64 0,.int .i64 0,.int .i64 (-1)]) (.int .i64 3)).run Try.prog w = .ok (.agg #[.int .i64 0,.int .i64 (-1)]) w:=fun _ => by kernel_rfl);have hu:=Try.underlying39;go_enter Try.func70,Try.ntmps70;go_wp2_with (go_at_call 77;(with_reducible refine (impl_Cells_next.calls _ _ _ _ _ _ _ _ _ ?s1 HC.out H.out).mono ?_);(case s1 => exact Kd.C_below HR.out (below_alloc (below_alloc (Below.refl _ _) _) _));rintro e w1 ⟨rfl,hb⟩);go_ret;exact ⟨rfl,below_step (below_alloc (below_alloc (Below.refl _ _) _) _) hb⟩
theorem impl_Cells_along.calls (a0_0 : Int) (z1 : Option Addr) (c0_1 : Nat) (z0 : List Int) (a1 : Int) (a2 : Int) (r : Int) (w : World) (hr0_1 : Kd.C (Kd.int .i64) w z1 z0.length z0) (hc0_1 : z0.length ≤ c0_1) (h : impl_Cells_along.f a0_0 z0 a1 a2 = some r) :
    Calls Try.prog 70 #[.agg #[.int .i64 a0_0,.slice z1 z0.length c0_1],.int .i64 a1,.int .i64 a2] w fun e w' => e = .returned (.int .i64 r) ∧ Below w.heap.size w w':=by
  unfold impl_Cells_along.f at h;by_cases h0 : a2 = 0
  · rw [if_pos h0] at h
    subst h0;exact along0 a0_0 z1 c0_1 z0 a1 r w hr0_1 hc0_1 h
  rw [if_neg h0] at h;by_cases h1 : a2 = 1
  · rw [if_pos h1] at h
    subst h1;exact along1 a0_0 z1 c0_1 z0 a1 r w hr0_1 hc0_1 h
  rw [if_neg h1] at h;by_cases h2 : a2 = 2
  · rw [if_pos h2] at h
    subst h2;exact along2 a0_0 z1 c0_1 z0 a1 r w hr0_1 hc0_1 h
  rw [if_neg h2] at h;by_cases h3 : a2 = 3
  · rw [if_pos h3] at h
    subst h3;exact along3 a0_0 z1 c0_1 z0 a1 r w hr0_1 hc0_1 h
  rw [if_neg h3] at h
  cases h
end Go.Proofs.Ytcldlljnaijmhaa.Pr
