-- Joined and pruned by wip/tools/prune.py out of this session's own texts (Pr17)
import Derived.Test.YtcldlljnaijmhaaZfc8
namespace Go.Proofs.Ytcldlljnaijmhaa.Pr
open Go.RowKit Go.Proofs.YtcldlljnaijmhaaW.PrintWords Go.Proofs.YtcldlljnaijmhaaW.PrintLast Go.Proofs.YtcldlljnaijmhaaW.PrintMore
attribute [local go_sem] max2_int min2_int max_two min_two max_three min_three max_four min_four
set_option linter.unusedVariables false
set_option linter.unusedSimpArgs false

def impl_GoodPaths.T7 : Bool × List (List Nat × List Nat):=(true,[([],[]),([0],[0]),([1],[1]),([2],[2]),([2],[2]),([4,2],[2,4]),([5,2],[2,5]),([6,2],[2,6]),([3,7,2],[2,3,7]),([2,8],[2,8]),([9,2],[9]),([10],[10]),([11,10],[10,11]),([12,10],[10,12]),([10],[10]),([10],[10]),([14,15,10],[10,14,15]),([16,10],[10,16]),([17,10],[10,17]),([13,18,10],[10,13,18]),([10,19],[10,19]),([20,10],[20]),([21],[21]),([21],[21]),([23,21],[21,23]),([22,24,21],[21,22,24]),([25,21],[21,25]),([21],[21]),([21],[21]),([27,28,21],[21,27,28]),([29,21],[21,29]),([30,21],[21,30]),([26,31,21],[21,26,31]),([21,32],[21,32])])
def impl_GoodPaths.B7 : List Nat:=[0,1,3,7,7,23,55,119,255,511,1023,2047,4095,8191,2047,2047,51199,116735,247807,524287,1048575,2097151,4194303,4194303,12582911,33554431,67108863,4194303,4194303,406847487,943718399,2017460223,4294967295,8589934591]
theorem impl_GoodPaths.tab7 : rtab .any (opsOf Try.f37 7) = impl_GoodPaths.T7:=by kernel_rfl
theorem impl_GoodPaths.bits7 : waitsOk impl_GoodPaths.T7.2 impl_GoodPaths.B7 = true:=by kernel_rfl
def impl_GoodPaths.T14 : Bool × List (List Nat × List Nat):=(true,[([],[]),([],[]),([],[]),([2],[2]),([1,3],[1,3]),([4],[4]),([0,5],[0,5]),([6],[6]),([],[])])
def impl_GoodPaths.B14 : List Nat:=[0,0,0,4,14,30,63,127,0]
theorem impl_GoodPaths.tab14 : rtab .any (opsOf Try.f37 14) = impl_GoodPaths.T14:=by kernel_rfl
theorem impl_GoodPaths.bits14 : waitsOk impl_GoodPaths.T14.2 impl_GoodPaths.B14 = true:=by kernel_rfl
set_option maxHeartbeats 8000000 in
set_option maxRecDepth 100000 in
theorem impl_GoodPaths.calls (k : Nat) (a0_0 : Int) (z9 : Option Addr) (c0_1 : Nat) (z2 : List Int) (A1 : Option Addr) (c1 : Nat) (l1 : List (S49)) (A2 : Option Addr) (c2 : Nat) (l2 : List (List Int)) (r : Bool) (w : World) (hr0_1 : Kd.C (Kd.int .i64) w z9 z2.length z2) (hc0_1 : z2.length ≤ c0_1) (hr1 : Kd.C k49 w A1 l1.length l1) (hc1 : l1.length ≤ c1) (hr2 : Kd.C (Kd.slice 3 (Kd.int .i64)) w A2 l2.length l2) (hc2 : l2.length ≤ c2) (h : impl_GoodPaths.f k a0_0 z2 l1 l2 = some r) :
   Calls Try.prog 37 #[.agg #[.int .i64 a0_0,.slice z9 z2.length c0_1],.slice A1 l1.length c1,.slice A2 l2.length c2] w fun e w' => e = .returned (.bool r) ∧ Below w.heap.size w w':=by
  have zh6:=Try.underlying39;have m7:=Aside0.mk hr0_1;have m8:=Aside0.mk hc0_1;clear hr0_1 hc0_1;have HR1:=Aside0.mk hr1;have HC1:=Aside0.mk hc1;clear hr1 hc1;have HR2:=Aside0.mk hr2;have HC2:=Aside0.mk hc2;clear hr2 hc2;have HB:=ak (Below.refl w.heap.size w);have H : ((impl_GoodTrips.f k a0_0 z2 l1).bind fun zb0 => (if zb0 = true then (impl_GoodPaths.j0 k l1 l2 ((l2.length : Int) != (l1.length : Int)) a0_0 z2) else (impl_GoodPaths.j0 k l1 l2 true a0_0 z2))) = some r:=h;clear h;have HC4:=Aside0.mk H;clear H;go_enter Try.func37,Try.ntmps37
  go_upto_region 1 with (first | ((with_reducible refine gate_dst (N:=3) rfl ?_);(try (refine gate_guard (by rfl) ?_;dsimp only));refine box_event ?hg (N:=3) ?hd (cs:=#[.int .i64 a0_0,.slice z9 z2.length c0_1]) (t:=39) ?hr ?_;(case hd => rfl);(case hg => rfl);(case hr => first | (go_simp;done) | (go_simp;rfl));intro z7 hg w5 hbox hb;have z1:=ak (hbox);have zf9 : Aside0 (w.heap.size ≤ z7):=gz_;have zg0 : Aside0 (w.heap.size ≤ z7):=gz_;replace HB:=ak (below_step hb_ hb);clear hb hbox hg))
  (try simp only [Act.put,aS,aZ,aN])
  go_cut [24] (fun v24 wc => ∃ (kq : Nat) (za4 : Bool),v24 = .bool za4 ∧ Aside0 (impl_GoodPaths.j0 kq l1 l2 za4 a0_0 z2 = some r) ∧ Aside0 (kq ≤ k) ∧ Aside0 (wc.heap[z7]? = some (.cells #[.int .i64 a0_0,(.slice z9 z2.length c0_1)] 39 (0,0))) ∧ Aside0 (Below w.heap.size w wc))
  case first =>
   have H:=HC4.out;clear HC4;replace H:=Option.bind_eq_some_iff.mp H;obtain ⟨zb0,A60,H⟩:=H;replace H : (if zb0 = true then (impl_GoodPaths.j0 k l1 l2 ((l2.length : Int) != (l1.length : Int)) a0_0 z2) else (impl_GoodPaths.j0 k l1 l2 true a0_0 z2)) = some r:=H;have A6:=Aside0.mk A60;clear A60;by_cases c7 : zb0 = true
   ·subst c7
    rw [if_pos rfl] at H;have H':=Aside0.mk H;clear H;have zf4:=b20 z1;have zf5:=b21 z1;have zf6:=blk_frozen z1.out 0;have zf7:=blk_frozen z1.out 1;go_wp2_with (first | ((with_reducible refine gate_callee (f:=28) rfl ?_);refine goesL_ (some 16) rfl rfl Try.func28 (by kernel_rfl) rfl #[.agg #[.int .i64 a0_0,.slice z9 z2.length c0_1],.slice A1 l1.length c1] rfl ls_ ?_;(with_reducible refine (impl_GoodTrips.calls k a0_0 _ _ z2 _ _ l1 true _ ?j4 ?j5 ?zb1 ?zb2 A6.out).mono ?_);(case j4 => exact cb_ m7.out);(case j5 => exact m8.out);(case zb1 => exact cb_ HR1.out);(case zb2 => exact HC1.out);rintro e w9 ⟨rfl,hb⟩;refine ⟨_,rfl,?_⟩;replace z1:=bb_ z1 hb;replace HB:=ak (below_step hb_ hb);(try clear hb);(try clear hb2);(try clear hk);(try clear hi)));go_meet
    case rel => exact ⟨_,(((l2.length : Int) != (l1.length : Int))),es_,H',⟨by first | omega | exact Nat.le_refl _⟩,⟨bk_ z1.out⟩,⟨hb_⟩⟩
   ·replace c7:=Bool.eq_false_iff.mpr c7
    subst c7;rw [if_neg (show ¬ (false = true) by decide)] at H;have H':=Aside0.mk H;clear H;have ze9:=b20 z1;have zf0:=b21 z1;have zf1:=blk_frozen z1.out 0;have zf2:=blk_frozen z1.out 1;go_wp2_with (first | ((with_reducible refine gate_callee (f:=28) rfl ?_);refine goesL_ (some 16) rfl rfl Try.func28 (by kernel_rfl) rfl #[.agg #[.int .i64 a0_0,.slice z9 z2.length c0_1],.slice A1 l1.length c1] rfl ls_ ?_;(with_reducible refine (impl_GoodTrips.calls k a0_0 _ _ z2 _ _ l1 false _ ?j4 ?j5 ?zb1 ?zb2 A6.out).mono ?_);(case j4 => exact cb_ m7.out);(case j5 => exact m8.out);(case zb1 => exact cb_ HR1.out);(case zb2 => exact HC1.out);rintro e w11 ⟨rfl,hb⟩;refine ⟨_,rfl,?_⟩;replace z1:=bb_ z1 hb;replace HB:=ak (below_step hb_ hb);(try clear hb);(try clear hb2);(try clear hk);(try clear hi)));go_meet
    case rel => exact ⟨_,(true),es_,H',⟨by first | omega | exact Nat.le_refl _⟩,⟨bk_ z1.out⟩,⟨hb_⟩⟩
  case rest =>
   clear HC4;obtain ⟨kq,za4,rfl,HA,HJ3,z1,HB⟩:=hcut
   cases kq with
   | zero => exact absurd HA.out (by simp [impl_GoodPaths.j0])
   | succ kj3 =>
    have H:=HA.out;clear HA;simp only [impl_GoodPaths.j0] at H;by_cases c12 : za4 = true
    ·subst c12
     rw [if_pos rfl] at H
     obtain rfl:=Option.some.inj H
     go_wp2;go_ret;exact ⟨er_,hb_⟩
    ·replace c12:=Bool.eq_false_iff.mpr c12
     subst c12;rw [if_neg (show ¬ (false = true) by decide)] at H;have H':=Aside0.mk H;clear H;go_wp2
     go_loopg [27] kj3 (fun kq v27 w' => ∃ (z0 : Int),v27 = .int .i64 z0 ∧ Aside0 (impl_GoodPaths.l0 kq l1 l2 l2 (l2.length : Int) z0 a0_0 z2 = some r) ∧ Aside0 (kq ≤ kj3) ∧ Aside0 (w'.heap[z7]? = some (.cells #[.int .i64 a0_0,(.slice z9 z2.length c0_1)] 39 (0,0))) ∧ Aside0 (Below w.heap.size w w'))
     case atStart => exact ⟨(0),es_,H',⟨Nat.le_refl _⟩,⟨bk_ z1.out⟩,⟨hb_⟩⟩
     case round =>
      clear H';obtain ⟨z0,rfl,HA,HK2,z1,HB⟩:=hrel
      cases gk with
      | zero => exact absurd HA.out (by simp [impl_GoodPaths.l0])
      | succ k2 =>
       have H:=HA.out;clear HA;simp only [impl_GoodPaths.l0] at H;by_cases c13 : z0 < (l2.length : Int)
       ·rw [if_pos c13] at H
        have zd3 : decide (z0 < (l2.length : Int)) = true:=decide_eq_true c13;clear c13;by_cases c14 : 0 ≤ z0
        ·rw [if_pos c14] at H
         have zg1 : decide (0 ≤ z0) = true:=decide_eq_true c14;clear c14;by_cases c15 : z0 < (l2.length : Int)
         ·rw [if_pos c15] at H
          have zg2 : decide (z0 < (l2.length : Int)) = true:=decide_eq_true c15;clear c15;have zb4:=Aside0.mk H;clear H;have zb5 : 0 ≤ (z0 : Int):=of_decide_eq_true as_;have zb6 : z0 < (l2.length : Int):=of_decide_eq_true as_;obtain ⟨r3,zf8,c260_0,e260,za6,za7,hi260_0⟩:=at_L1 HR2.out z0 zb5 zb6;cases e260;replace za6:=hc_ HB za6;have j7:=Aside0.mk hi260_0;have zf3:=Aside0.mk za7;clear hi260_0 za7;replace zb5:=eq_true zb5;replace zb6:=eq_true zb6
          go_upto_region 7 with (fail)
          go_cut [67] (fun v67 wc => ∃ (kq : Nat) (m9 : Bool),v67 = .bool m9 ∧ Aside0 (impl_GoodPaths.j2 kq l1 l2 (rd_L1 l2 z0) ((rd_L1 l2 z0).length : Int) l2 (l2.length : Int) z0 m9 a0_0 z2 = some r) ∧ Aside0 (kq ≤ k2) ∧ Aside0 (wc.heap[z7]? = some (.cells #[.int .i64 a0_0,(.slice z9 z2.length c0_1)] 39 (0,0))) ∧ Aside0 (Below w.heap.size w wc))
          case first =>
           have H:=zb4.out;clear zb4;by_cases c17 : ((rd_L1 l2 z0).length : Int) < 1
           ·rw [if_pos c17] at H
            have za0 : decide (((rd_L1 l2 z0).length : Int) < 1) = true:=decide_eq_true c17;have zd4 : decide ((rd_L1 l2 z0).length < 1) = true:=decide_eq_true (by omega);clear c17;(first | rw [za0] | (simp only [i64_w,i32_w];rw [za0]) | skip);have H':=Aside0.mk H;clear H;(try go_wp2);replace z1:=ak (blk_drew z1.out);replace HB:=ak (below_drew1 HB.out);refine start_ (n:=34) (S:=fun w' => True) (ds:=[]) (bm 34 0) (by kernel_rfl) rfl rfl trivial (fun hHeld => ?_);refine with_tabW impl_GoodPaths.tab7 impl_GoodPaths.bits7 (fun HT_ HW_ => ?_);generalize wr.drew = w18 at z1 HB hHeld ⊢;refine pz 0 34 HT_ ?_;refine pz 1 35 HT_ ?_;refine pz 2 36 HT_ ?_;refine pu 3 37 HT_ ?_;refine pu 4 38 HT_ ?_;refine pu 5 39 HT_ ?_;refine pu 6 40 HT_ ?_;refine pu 7 41 HT_ ?_;refine pu 8 42 HT_ ?_;refine pz 9 43 HT_ ?_;refine pz 10 44 HT_ ?_;refine pu 11 45 HT_ ?_;refine pu 12 46 HT_ ?_;refine pu 13 47 HT_ ?_;refine pu 14 48 HT_ ?_;refine pu 15 49 HT_ ?_;refine pu 16 50 HT_ ?_;refine pu 17 51 HT_ ?_;refine pu 18 52 HT_ ?_;refine pu 19 53 HT_ ?_;refine pz 20 54 HT_ ?_;refine pz 21 55 HT_ ?_;refine pu 22 56 HT_ ?_;refine pu 23 57 HT_ ?_;refine pu 24 58 HT_ ?_;refine pu 25 59 HT_ ?_;refine pu 26 60 HT_ ?_;refine pu 27 61 HT_ ?_;refine pu 28 62 HT_ ?_;refine pu 29 63 HT_ ?_;refine pu 30 64 HT_ ?_;refine pu 31 65 HT_ ?_;refine pu 32 66 HT_ ?_;refine pz 33 67 HT_ ?_
            refine done_ (done_of HT_.out (by kernel_rfl)) ?_;(try go_wp2);go_meet
            case rel => exact ⟨_,(true),es_,H',⟨by have:=HJ3.out;have:=HK2.out;first | omega | exact Nat.le_refl _⟩,⟨bk_ z1.out⟩,⟨hb_⟩⟩
           ·rw [if_neg c17] at H
            have za0 : decide (((rd_L1 l2 z0).length : Int) < 1) = false:=decide_eq_false c17;have zd4 : decide ((rd_L1 l2 z0).length < 1) = false:=decide_eq_false (by omega);clear c17;(first | rw [za0] | (simp only [i64_w,i32_w];rw [za0]) | skip);by_cases c19 : 0 < (l2.length : Int)
            ·rw [if_pos c19] at H
             have zg3 : decide (0 < (l2.length : Int)) = true:=decide_eq_true c19;have zg4 : decide (0 < l2.length) = true:=decide_eq_true (by omega);clear c19;by_cases c20 : ((rd_L1 l2 z0).length : Int) = ((rd_L1 l2 0).length : Int)
             ·rw [if_pos c20] at H
              have zd5 : (((rd_L1 l2 z0).length : Int) == ((rd_L1 l2 0).length : Int)) = true:=beq_iff_eq.mpr c20;have zd6 : (((rd_L1 l2 z0).length : Int) != ((rd_L1 l2 0).length : Int)) = false:=bne_eq_false_iff_eq.mpr c20;(have zd7 : ((rd_L1 l2 z0).length == (rd_L1 l2 0).length) = true:=by first | simpa using c20 | (simp at c20 ⊢;omega));clear c20;by_cases c21 : 0 < ((rd_L1 l2 z0).length : Int)
              ·rw [if_pos c21] at H
               have zg5 : decide (0 < ((rd_L1 l2 z0).length : Int)) = true:=decide_eq_true c21;have zg6 : decide (0 < (rd_L1 l2 z0).length) = true:=decide_eq_true (by omega);clear c21;by_cases c22 : z0 < (l1.length : Int)
               ·rw [if_pos c22] at H
                have zg7 : decide (z0 < (l1.length : Int)) = true:=decide_eq_true c22;clear c22;by_cases c23 : (rd (rd_L1 l2 z0) 0) = ((rd_T49 l1 z0).f0)
                ·rw [if_pos c23] at H
                 have zd8 : ((rd (rd_L1 l2 z0) 0) == ((rd_T49 l1 z0).f0)) = true:=beq_iff_eq.mpr c23;have zd9 : ((rd (rd_L1 l2 z0) 0) != ((rd_T49 l1 z0).f0)) = false:=bne_eq_false_iff_eq.mpr c23;clear c23;obtain ⟨ji24,hji24⟩ : ∃ j_ : Int,(wrap64 (((rd_L1 l2 z0).length : Int) - 1)) = j_:=⟨_,rfl⟩;(replace H : (if 0 ≤ (ji24) then (if (ji24) < ((rd_L1 l2 z0).length : Int) then (impl_GoodPaths.j2 k2 l1 l2 (rd_L1 l2 z0) ((rd_L1 l2 z0).length : Int) l2 (l2.length : Int) z0 ((rd (rd_L1 l2 z0) (ji24)) != ((rd_T49 l1 z0).f1)) a0_0 z2) else (none)) else (none)) = some r:=by first | (rw [hji24] at H;exact H) | (simp only [hji24] at H ⊢;exact H));have hji24w : (IntKind.i64.wrap (((rd_L1 l2 z0).length : Int) - 1)) = ji24:=(i64_w _).trans hji24;by_cases c25 : 0 ≤ (ji24)
                 ·rw [if_pos c25] at H
                  have zg8 : decide (0 ≤ (ji24)) = true:=decide_eq_true c25;clear c25;by_cases c26 : (ji24) < ((rd_L1 l2 z0).length : Int)
                  ·rw [if_pos c26] at H
                   have zg9 : decide ((ji24) < ((rd_L1 l2 z0).length : Int)) = true:=decide_eq_true c26;clear c26;have H':=Aside0.mk H;clear H;(try go_wp2);replace z1:=ak (blk_drew z1.out);replace HB:=ak (below_drew1 HB.out);have j8 : 0 ≤ (0 : Int):=(by omega);have j9 : 0 < (l2.length : Int):=of_decide_eq_true as_;obtain ⟨za1,r1,c261_0,e261,z3,j3,hi261_0⟩:=at_L1 HR2.out 0 j8 j9;have hw261_0:=z3;(try rw [show ((0 : Int)).toNat = 0 from rfl] at hw261_0);(try rw [show 0 * 1 = 0 from rfl] at hw261_0);(try rw [Addr.add_zero'] at hw261_0)
                   obtain rfl : r3 = za1:=(by injection e261)
                   have qi261 : (0 < l2.length) = True:=eq_true (by omega);(try rw [show ((0 : Int)).toNat = 0 from rfl] at z3);(try rw [Addr.add_zero'] at z3);replace z3:=hc_ HB z3;have r0:=Aside0.mk hi261_0;have za8:=Aside0.mk j3;clear hi261_0 j3;replace j8:=eq_true j8;replace j9:=eq_true j9;have r9 : 0 ≤ (0 : Int):=(by omega);have m0 : 0 < ((rd_L1 l2 z0).length : Int):=of_decide_eq_true as_;obtain ⟨za2,e262,z6⟩:=Kd.at_int j7.out 0 r9 m0;have hw262_0:=z6;(try rw [show ((0 : Int)).toNat = 0 from rfl] at hw262_0);(try rw [show 0 * 1 = 0 from rfl] at hw262_0);(try rw [Addr.add_zero'] at hw262_0);cases e262;have qi262 : (0 < (rd_L1 l2 z0).length) = True:=eq_true (by omega);(try rw [show ((0 : Int)).toNat = 0 from rfl] at z6);(try rw [Addr.add_zero'] at z6);replace z6:=hc_ HB z6;replace r9:=eq_true r9;replace m0:=eq_true m0;have m1 : 0 ≤ (z0 : Int):=of_decide_eq_true as_;have m2 : z0 < (l1.length : Int):=of_decide_eq_true as_;obtain ⟨j6,e263,j0,j1⟩:=at_T49 HR1.out z0 m1 m2;have hw263_1:=j1;have hw263_0:=j0;cases e263;replace j0:=hc_ HB j0;replace j1:=hc_ HB j1;replace m1:=eq_true m1;replace m2:=eq_true m2;have zb7 : 0 ≤ ((ji24) : Int):=of_decide_eq_true as_;have zb8 : (ji24) < ((rd_L1 l2 z0).length : Int):=of_decide_eq_true as_;obtain ⟨ze0,e264,r4⟩:=Kd.at_int j7.out (ji24) zb7 zb8;have hw264_0:=r4
                   obtain rfl : za2 = ze0:=(by injection e264)
                   replace r4:=hc_ HB r4;replace zb7:=eq_true zb7;replace zb8:=eq_true zb8;have zb9 : 0 ≤ (z0 : Int):=of_decide_eq_true as_;have zc0 : z0 < (l1.length : Int):=of_decide_eq_true as_;obtain ⟨ze1,e265,r5,r6⟩:=at_T49 HR1.out z0 zb9 zc0;have hw265_1:=r6;have hw265_0:=r5
                   obtain rfl : j6 = ze1:=(by injection e265)
                   replace r5:=hc_ HB r5;replace r6:=hc_ HB r6;replace zb9:=eq_true zb9;replace zc0:=eq_true zc0;refine start_ (n:=34) (S:=fun w' => w'.cell? r3 = some (.slice r1 (rd_L1 l2 0).length c261_0) ∧ w'.cell? za2 = some (.int .i64 (rd (rd_L1 l2 z0) 0)) ∧ w'.cell? (j6.add ((z0).toNat * 2)) = some (.int .i64 ((rd_T49 l1 z0).f0)) ∧ w'.cell? ⟨(j6.add ((z0).toNat * 2)).block,(j6.add ((z0).toNat * 2)).off + 1,none⟩ = some (.int .i64 ((rd_T49 l1 z0).f1)) ∧ w'.cell? (za2.add ((ji24)).toNat) = some (.int .i64 (rd (rd_L1 l2 z0) (ji24))) ∧ w'.cell? (j6.add ((z0).toNat * 2)) = some (.int .i64 ((rd_T49 l1 z0).f0)) ∧ w'.cell? ⟨(j6.add ((z0).toNat * 2)).block,(j6.add ((z0).toNat * 2)).off + 1,none⟩ = some (.int .i64 ((rd_T49 l1 z0).f1))) (ds:=[]) (bm 34 0) (by kernel_rfl) rfl rfl ⟨((HB.out.cell (World.block_lt_of_cell? w _ hw261_0)).trans hw261_0),((HB.out.cell (World.block_lt_of_cell? w _ hw262_0)).trans hw262_0),((HB.out.cell (World.block_lt_of_cell? w _ hw263_0)).trans hw263_0),((HB.out.cell (World.block_lt_of_cell? w _ hw263_1)).trans hw263_1),((HB.out.cell (World.block_lt_of_cell? w _ hw264_0)).trans hw264_0),((HB.out.cell (World.block_lt_of_cell? w _ hw265_0)).trans hw265_0),((HB.out.cell (World.block_lt_of_cell? w _ hw265_1)).trans hw265_1)⟩ (fun hHeld => ?_);refine with_tabW impl_GoodPaths.tab7 impl_GoodPaths.bits7 (fun HT_ HW_ => ?_);generalize wr.drew = w27 at z1 HB r0 z3 z6 j0 j1 r4 r5 r6 hHeld ⊢;refine pz 0 34 HT_ ?_;refine pz 1 35 HT_ ?_;refine pz 2 36 HT_ ?_;refine pz 3 37 HT_ ?_;refine pz 4 38 HT_ ?_;refine pz 5 39 HT_ ?_;refine tz 6 40 rfl HT_ HW_ hHeld (by rintro w' ⟨s0,s1,s2,s3,s4,s5,s6⟩;go_simp;with_reducible rfl) ?_
                   refine pz 7 41 HT_ ?_;refine pz 8 42 HT_ ?_;refine pz 9 43 HT_ ?_;refine pz 10 44 HT_ ?_;refine pz 11 45 HT_ ?_;refine pz 12 46 HT_ ?_;refine pz 14 48 HT_ ?_;refine pz 15 49 HT_ ?_;refine pz 16 50 HT_ ?_;refine pz 17 51 HT_ ?_;refine tz 13 47 rfl HT_ HW_ hHeld (by rintro w' ⟨s0,s1,s2,s3,s4,s5,s6⟩;go_simp;with_reducible rfl) ?_
                   refine tz 18 52 rfl HT_ HW_ hHeld (by rintro w' ⟨s0,s1,s2,s3,s4,s5,s6⟩;go_simp;with_reducible rfl) ?_
                   refine pz 19 53 HT_ ?_;refine pz 20 54 HT_ ?_;refine pz 21 55 HT_ ?_;refine pz 22 56 HT_ ?_;refine pz 23 57 HT_ ?_;refine pz 24 58 HT_ ?_;refine pz 25 59 HT_ ?_;refine pz 27 61 HT_ ?_;refine pz 28 62 HT_ ?_;refine pz 29 63 HT_ ?_;refine pz 30 64 HT_ ?_;refine tz 26 60 rfl HT_ HW_ hHeld (by rintro w' ⟨s0,s1,s2,s3,s4,s5,s6⟩;go_simp;with_reducible rfl) ?_
                   refine tz 31 65 rfl HT_ HW_ hHeld (by rintro w' ⟨s0,s1,s2,s3,s4,s5,s6⟩;go_simp;with_reducible rfl) ?_
                   refine pz 32 66 HT_ ?_;refine pz 33 67 HT_ ?_
                   refine done_ (done_of HT_.out (by kernel_rfl)) ?_;(try go_wp2);go_meet
                   case rel => exact ⟨_,(((rd (rd_L1 l2 z0) (ji24)) != ((rd_T49 l1 z0).f1))),(by first | rfl | (simp;done) | (simp only [← hji24] <;> (first | rfl | simp)) | (simp [*];done)),H',⟨by have:=HJ3.out;have:=HK2.out;first | omega | exact Nat.le_refl _⟩,⟨bk_ z1.out⟩,⟨hb_⟩⟩
                  ·rw [if_neg c26] at H
                   exact absurd H (by simp)
                 ·rw [if_neg c25] at H
                  exact absurd H (by simp)
                ·rw [if_neg c23] at H
                 have zd8 : ((rd (rd_L1 l2 z0) 0) == ((rd_T49 l1 z0).f0)) = false:=beq_eq_false_iff_ne.mpr c23;have zd9 : ((rd (rd_L1 l2 z0) 0) != ((rd_T49 l1 z0).f0)) = true:=bne_iff_ne.mpr c23;have H':=Aside0.mk H;clear H;(try go_wp2);replace z1:=ak (blk_drew z1.out);replace HB:=ak (below_drew1 HB.out);have j8 : 0 ≤ (0 : Int):=(by omega);have j9 : 0 < (l2.length : Int):=of_decide_eq_true as_;obtain ⟨za1,r1,c261_0,e261,z3,j3,hi261_0⟩:=at_L1 HR2.out 0 j8 j9;have hw261_0:=z3;(try rw [show ((0 : Int)).toNat = 0 from rfl] at hw261_0);(try rw [show 0 * 1 = 0 from rfl] at hw261_0);(try rw [Addr.add_zero'] at hw261_0)
                 obtain rfl : r3 = za1:=(by injection e261)
                 have qi261 : (0 < l2.length) = True:=eq_true (by omega);(try rw [show ((0 : Int)).toNat = 0 from rfl] at z3);(try rw [Addr.add_zero'] at z3);replace z3:=hc_ HB z3;have r0:=Aside0.mk hi261_0;have za8:=Aside0.mk j3;clear hi261_0 j3;replace j8:=eq_true j8;replace j9:=eq_true j9;have r9 : 0 ≤ (0 : Int):=(by omega);have m0 : 0 < ((rd_L1 l2 z0).length : Int):=of_decide_eq_true as_;obtain ⟨za2,e262,z6⟩:=Kd.at_int j7.out 0 r9 m0;have hw262_0:=z6;(try rw [show ((0 : Int)).toNat = 0 from rfl] at hw262_0);(try rw [show 0 * 1 = 0 from rfl] at hw262_0);(try rw [Addr.add_zero'] at hw262_0);cases e262;have qi262 : (0 < (rd_L1 l2 z0).length) = True:=eq_true (by omega);(try rw [show ((0 : Int)).toNat = 0 from rfl] at z6);(try rw [Addr.add_zero'] at z6);replace z6:=hc_ HB z6;replace r9:=eq_true r9;replace m0:=eq_true m0;have m1 : 0 ≤ (z0 : Int):=of_decide_eq_true as_;have m2 : z0 < (l1.length : Int):=of_decide_eq_true as_;obtain ⟨j6,e263,j0,j1⟩:=at_T49 HR1.out z0 m1 m2;have hw263_1:=j1;have hw263_0:=j0;cases e263;replace j0:=hc_ HB j0;replace j1:=hc_ HB j1;replace m1:=eq_true m1;replace m2:=eq_true m2;refine start_ (n:=34) (S:=fun w' => w'.cell? r3 = some (.slice r1 (rd_L1 l2 0).length c261_0) ∧ w'.cell? za2 = some (.int .i64 (rd (rd_L1 l2 z0) 0)) ∧ w'.cell? (j6.add ((z0).toNat * 2)) = some (.int .i64 ((rd_T49 l1 z0).f0)) ∧ w'.cell? ⟨(j6.add ((z0).toNat * 2)).block,(j6.add ((z0).toNat * 2)).off + 1,none⟩ = some (.int .i64 ((rd_T49 l1 z0).f1))) (ds:=[]) (bm 34 0) (by kernel_rfl) rfl rfl ⟨((HB.out.cell (World.block_lt_of_cell? w _ hw261_0)).trans hw261_0),((HB.out.cell (World.block_lt_of_cell? w _ hw262_0)).trans hw262_0),((HB.out.cell (World.block_lt_of_cell? w _ hw263_0)).trans hw263_0),((HB.out.cell (World.block_lt_of_cell? w _ hw263_1)).trans hw263_1)⟩ (fun hHeld => ?_);refine with_tabW impl_GoodPaths.tab7 impl_GoodPaths.bits7 (fun HT_ HW_ => ?_);generalize wr.drew = w28 at z1 HB r0 z3 z6 j0 j1 hHeld ⊢;refine pz 0 34 HT_ ?_;refine pz 1 35 HT_ ?_;refine pz 2 36 HT_ ?_;refine pz 3 37 HT_ ?_;refine pz 4 38 HT_ ?_;refine pz 5 39 HT_ ?_;refine tz 6 40 rfl HT_ HW_ hHeld (by rintro w' ⟨s0,s1,s2,s3⟩;go_simp;with_reducible rfl) ?_
                 refine pz 7 41 HT_ ?_;refine pz 8 42 HT_ ?_;refine pz 9 43 HT_ ?_;refine pz 10 44 HT_ ?_;refine pz 11 45 HT_ ?_;refine pz 12 46 HT_ ?_;refine pz 14 48 HT_ ?_;refine pz 15 49 HT_ ?_;refine pz 16 50 HT_ ?_;refine pz 17 51 HT_ ?_;refine tz 13 47 rfl HT_ HW_ hHeld (by rintro w' ⟨s0,s1,s2,s3⟩;go_simp;with_reducible rfl) ?_
                 refine tz 18 52 rfl HT_ HW_ hHeld (by rintro w' ⟨s0,s1,s2,s3⟩;go_simp;with_reducible rfl) ?_
                 refine pz 19 53 HT_ ?_;refine pz 20 54 HT_ ?_;refine pz 21 55 HT_ ?_;refine pu 22 56 HT_ ?_;refine pu 23 57 HT_ ?_;refine pu 24 58 HT_ ?_;refine pu 25 59 HT_ ?_;refine pu 26 60 HT_ ?_;refine pu 27 61 HT_ ?_;refine pu 28 62 HT_ ?_;refine pu 29 63 HT_ ?_;refine pu 30 64 HT_ ?_;refine pu 31 65 HT_ ?_;refine pu 32 66 HT_ ?_;refine pz 33 67 HT_ ?_
                 refine done_ (done_of HT_.out (by kernel_rfl)) ?_;(try go_wp2);go_meet
                 case rel => exact ⟨_,(true),es_,H',⟨by have:=HJ3.out;have:=HK2.out;first | omega | exact Nat.le_refl _⟩,⟨bk_ z1.out⟩,⟨hb_⟩⟩
               ·rw [if_neg c22] at H
                exact absurd H (by simp)
              ·rw [if_neg c21] at H
               exact absurd H (by simp)
             ·rw [if_neg c20] at H
              have zd5 : (((rd_L1 l2 z0).length : Int) == ((rd_L1 l2 0).length : Int)) = false:=beq_eq_false_iff_ne.mpr c20;have zd6 : (((rd_L1 l2 z0).length : Int) != ((rd_L1 l2 0).length : Int)) = true:=bne_iff_ne.mpr c20;(have zd7 : ((rd_L1 l2 z0).length == (rd_L1 l2 0).length) = false:=by first | simpa using c20 | (simp at c20 ⊢;omega));have H':=Aside0.mk H;clear H;(try go_wp2);replace z1:=ak (blk_drew z1.out);replace HB:=ak (below_drew1 HB.out);have j8 : 0 ≤ (0 : Int):=(by omega);have j9 : 0 < (l2.length : Int):=of_decide_eq_true as_;obtain ⟨za1,r1,c261_0,e261,z3,j3,hi261_0⟩:=at_L1 HR2.out 0 j8 j9;have hw261_0:=z3;(try rw [show ((0 : Int)).toNat = 0 from rfl] at hw261_0);(try rw [show 0 * 1 = 0 from rfl] at hw261_0);(try rw [Addr.add_zero'] at hw261_0)
              obtain rfl : r3 = za1:=(by injection e261)
              have qi261 : (0 < l2.length) = True:=eq_true (by omega);(try rw [show ((0 : Int)).toNat = 0 from rfl] at z3);(try rw [Addr.add_zero'] at z3);replace z3:=hc_ HB z3;have r0:=Aside0.mk hi261_0;have za8:=Aside0.mk j3;clear hi261_0 j3;replace j8:=eq_true j8;replace j9:=eq_true j9;refine start_ (n:=34) (S:=fun w' => w'.cell? r3 = some (.slice r1 (rd_L1 l2 0).length c261_0)) (ds:=[]) (bm 34 0) (by kernel_rfl) rfl rfl (((HB.out.cell (World.block_lt_of_cell? w _ hw261_0)).trans hw261_0)) (fun hHeld => ?_);refine with_tabW impl_GoodPaths.tab7 impl_GoodPaths.bits7 (fun HT_ HW_ => ?_);generalize wr.drew = w29 at z1 HB r0 z3 hHeld ⊢;refine pz 0 34 HT_ ?_;refine pz 1 35 HT_ ?_;refine pz 2 36 HT_ ?_;refine pz 3 37 HT_ ?_;refine pz 4 38 HT_ ?_;refine pz 5 39 HT_ ?_
              refine take_ (i:=6) (N:=some 40) (v:=?_) (a':=?_) (bm 34 127) rfl rfl (take_ofW HT_.out HW_.out (by kernel_rfl)) (fun _ _ _ h => h) (Or.inl ⟨by rfl,?_⟩) hHeld ?_ ?_;rotate_left
              ·intro w' s0
               go_simp
               with_reducible rfl
              rotate_left;(simp only [Act.put,aS,aZ,aN,i64_w,i32_w];rfl)
              refine pz 7 41 HT_ ?_;refine pz 8 42 HT_ ?_;refine pz 9 43 HT_ ?_;refine pz 10 44 HT_ ?_;refine pu 11 45 HT_ ?_;refine pu 12 46 HT_ ?_;refine pu 13 47 HT_ ?_;refine pu 14 48 HT_ ?_;refine pu 15 49 HT_ ?_;refine pu 16 50 HT_ ?_;refine pu 17 51 HT_ ?_;refine pu 18 52 HT_ ?_;refine pu 19 53 HT_ ?_;refine pz 20 54 HT_ ?_;refine pz 21 55 HT_ ?_;refine pu 22 56 HT_ ?_;refine pu 23 57 HT_ ?_;refine pu 24 58 HT_ ?_;refine pu 25 59 HT_ ?_;refine pu 26 60 HT_ ?_;refine pu 27 61 HT_ ?_;refine pu 28 62 HT_ ?_;refine pu 29 63 HT_ ?_;refine pu 30 64 HT_ ?_;refine pu 31 65 HT_ ?_;refine pu 32 66 HT_ ?_;refine pz 33 67 HT_ ?_
              refine done_ (done_of HT_.out (by kernel_rfl)) ?_;(try go_wp2);go_meet
              case rel => exact ⟨_,(true),es_,H',⟨by have:=HJ3.out;have:=HK2.out;first | omega | exact Nat.le_refl _⟩,⟨bk_ z1.out⟩,⟨hb_⟩⟩
            ·rw [if_neg c19] at H
             exact absurd H (by simp)
          case rest =>
           clear zb4;obtain ⟨kq,m9,rfl,HA,r2,z1,HB⟩:=hcut
           cases kq with
           | zero => exact absurd HA.out (by simp [impl_GoodPaths.j2])
           | succ zc7 =>
            have H:=HA.out;clear HA;simp only [impl_GoodPaths.j2] at H;by_cases c30 : m9 = true
            ·subst c30
             rw [if_pos rfl] at H
             obtain rfl:=Option.some.inj H
             go_wp2;go_ret;exact ⟨er_,hb_⟩
            ·replace c30:=Bool.eq_false_iff.mpr c30
             subst c30;rw [if_neg (show ¬ (false = true) by decide)] at H;have H':=Aside0.mk H;clear H;go_wp2
             go_loopg [10] zc7 (fun kq v10 w' => ∃ (z4 : Int),v10 = .int .i64 z4 ∧ Aside0 (impl_GoodPaths.l1 kq l1 l2 (rd_L1 l2 z0) ((rd_L1 l2 z0).length : Int) z4 l2 (l2.length : Int) z0 a0_0 z2 = some r) ∧ Aside0 (kq ≤ zc7) ∧ Aside0 (w'.heap[z7]? = some (.cells #[.int .i64 a0_0,(.slice z9 z2.length c0_1)] 39 (0,0))) ∧ Aside0 (Below w.heap.size w w'))
             case atStart => exact ⟨(1),es_,H',⟨Nat.le_refl _⟩,⟨bk_ z1.out⟩,⟨hb_⟩⟩
             case round =>
              clear H';obtain ⟨z4,rfl,HA,HK4,z1,HB⟩:=hrel
              cases gk with
              | zero => exact absurd HA.out (by simp [impl_GoodPaths.l1])
              | succ k4 =>
               have H:=HA.out;clear HA;simp only [impl_GoodPaths.l1] at H;by_cases c31 : z4 < ((rd_L1 l2 z0).length : Int)
               ·rw [if_pos c31] at H
                have ze2 : decide (z4 < ((rd_L1 l2 z0).length : Int)) = true:=decide_eq_true c31;clear c31;obtain ⟨ji32,hji32⟩ : ∃ j_ : Int,(wrap64 (z4 - 1)) = j_:=⟨_,rfl⟩;(replace H : (if 0 ≤ (ji32) then (if (ji32) < ((rd_L1 l2 z0).length : Int) then ((impl_Cells_free.f a0_0 z2 (rd (rd_L1 l2 z0) (ji32))).bind fun zb3 => (if zb3 = true then ((impl_Cells_goes.f k4 a0_0 z2 (rd (rd_L1 l2 z0) (ji32))).bind fun z8 => (impl_GoodPaths.l2 k4 l1 l2 (rd_L1 l2 z0) ((rd_L1 l2 z0).length : Int) z4 false l2 (l2.length : Int) z0 z8 (z8.length : Int) 0 a0_0 z2)) else (some false))) else (none)) else (none)) = some r:=by first | (rw [hji32] at H;exact H) | (simp only [hji32] at H ⊢;exact H));have hji32w : (IntKind.i64.wrap (z4 - 1)) = ji32:=(i64_w _).trans hji32;by_cases c33 : 0 ≤ (ji32)
                ·rw [if_pos c33] at H
                 have zh0 : decide (0 ≤ (ji32)) = true:=decide_eq_true c33;clear c33;by_cases c34 : (ji32) < ((rd_L1 l2 z0).length : Int)
                 ·rw [if_pos c34] at H
                  have zh1 : decide ((ji32) < ((rd_L1 l2 z0).length : Int)) = true:=decide_eq_true c34;clear c34;replace H:=Option.bind_eq_some_iff.mp H;obtain ⟨zb3,zc8,H⟩:=H;replace H : (if zb3 = true then ((impl_Cells_goes.f k4 a0_0 z2 (rd (rd_L1 l2 z0) (ji32))).bind fun z8 => (impl_GoodPaths.l2 k4 l1 l2 (rd_L1 l2 z0) ((rd_L1 l2 z0).length : Int) z4 false l2 (l2.length : Int) z0 z8 (z8.length : Int) 0 a0_0 z2)) else (some false)) = some r:=H;have A35:=Aside0.mk zc8;clear zc8;by_cases c36 : zb3 = true
                  ·subst c36
                   rw [if_pos rfl] at H;replace H:=Option.bind_eq_some_iff.mp H;obtain ⟨z8,zc9,H⟩:=H;replace H : (impl_GoodPaths.l2 k4 l1 l2 (rd_L1 l2 z0) ((rd_L1 l2 z0).length : Int) z4 false l2 (l2.length : Int) z0 z8 (z8.length : Int) 0 a0_0 z2) = some r:=H;have A37:=Aside0.mk zc9;clear zc9;have H':=Aside0.mk H;clear H;(try go_wp2);replace z1:=ak (blk_drew z1.out);replace HB:=ak (below_drew1 HB.out);have m3 : 0 ≤ ((ji32) : Int):=of_decide_eq_true as_;have m4 : (ji32) < ((rd_L1 l2 z0).length : Int):=of_decide_eq_true as_;obtain ⟨r7,e266,j2⟩:=Kd.at_int j7.out (ji32) m3 m4;have hw266_0:=j2;cases e266;replace j2:=hc_ HB j2;replace m3:=eq_true m3;replace m4:=eq_true m4;refine start_ (n:=7) (S:=fun w' => w'.cell? ⟨z7,0,none⟩ = some (.int .i64 a0_0) ∧ w'.cell? ⟨z7,1,none⟩ = some (.slice z9 z2.length c0_1) ∧ w'.cell? (r7.add ((ji32)).toNat) = some (.int .i64 (rd (rd_L1 l2 z0) (ji32)))) (ds:=[]) (bm 7 0) (by kernel_rfl) rfl rfl ⟨(blk_cell z1.out 0).trans rfl,(blk_cell z1.out 1).trans rfl,((HB.out.cell (World.block_lt_of_cell? w _ hw266_0)).trans hw266_0)⟩ (fun hHeld => ?_);generalize wr.drew = w38 at z1 HB j2 hHeld ⊢;refine pure_ (i:=1) (N:=some 74) (v:=?_) (a':=?_) (bm 7 2) rfl rfl (by kernel_rfl) (fun _ _ _ h => h) (Or.inl ⟨by rfl,?_⟩) ?_ ?_;rotate_left;(intro w';go_simp;with_reducible rfl);rotate_left;(simp only [Act.put,aS,aZ,aN,i64_w,i32_w];rfl)
                   refine pure_ (i:=2) (N:=some 75) (v:=?_) (a':=?_) (bm 7 6) rfl rfl (by kernel_rfl) (fun _ _ _ h => h) (Or.inl ⟨by rfl,?_⟩) ?_ ?_;rotate_left;(intro w';go_simp;with_reducible rfl);rotate_left;(simp only [Act.put,aS,aZ,aN,i64_w,i32_w];rfl)
                   refine pure_ (i:=3) (N:=some 76) (v:=?_) (a':=?_) (bm 7 14) rfl rfl (by kernel_rfl) (fun _ _ _ h => h) (Or.inl ⟨by rfl,?_⟩) ?_ ?_;rotate_left;(intro w';go_simp;with_reducible rfl);rotate_left;(simp only [Act.put,aS,aZ,aN,i64_w,i32_w];rfl)
                   refine pure_ (i:=4) (N:=some 77) (v:=?_) (a':=?_) (bm 7 30) rfl rfl (by kernel_rfl) (fun _ _ _ h => h) (Or.inl ⟨by rfl,?_⟩) ?_ ?_;rotate_left;(intro w';go_simp;with_reducible rfl);rotate_left;(simp only [Act.put,aS,aZ,aN,i64_w,i32_w];rfl)
                   refine take_ (i:=0) (N:=some 73) (v:=?_) (a':=?_) (bm 7 31) rfl rfl (by kernel_rfl) (fun _ _ _ h => h) (Or.inl ⟨by rfl,?_⟩) hHeld ?_ ?_;rotate_left;(rintro w' ⟨s0,s1,s2⟩;go_simp;with_reducible rfl);rotate_left;(simp only [Act.put,aS,aZ,aN,i64_w,i32_w];rfl)
                   refine take_ (i:=5) (N:=some 78) (v:=?_) (a':=?_) (bm 7 63) rfl rfl (by kernel_rfl) (fun _ _ _ h => h) (Or.inl ⟨by rfl,?_⟩) hHeld ?_ ?_;rotate_left;(rintro w' ⟨s0,s1,s2⟩;go_simp;with_reducible rfl);rotate_left;(simp only [Act.put,aS,aZ,aN,i64_w,i32_w];rfl)
                   refine one_ (i:=6) (N:=some 79) (bm 7 127) rfl rfl (by kernel_rfl) (by decide) (fun K hK => ?_);refine goes_ Try.func55 (by kernel_rfl) rfl #[.agg #[.int .i64 a0_0,.slice z9 z2.length c0_1],.int .i64 (rd (rd_L1 l2 z0) (ji32))] (by rfl) rfl rfl (by (try simp only [List.map_toArray,List.map_cons,List.map_nil]);first | done | (simp only [hji32];rfl) | rfl | (simp only [List.length_drop,List.length_take];rfl)) ?_
                   with_reducible refine (impl_Cells_free.calls a0_0 _ _ z2 (rd (rd_L1 l2 z0) (ji32)) true _ ?j4 ?j5 A35.out).mono ?_
                   (case j4 => exact cb_ m7.out);(case j5 => exact m8.out);rintro e w39 ⟨rfl,hb⟩;refine ⟨_,rfl,?_⟩;replace z1:=bb_ z1 hb;replace HB:=ak (below_step hb_ hb);refine hK.out _ _ ⟨(blk_cell z1.out 0).trans rfl,(blk_cell z1.out 1).trans rfl,((HB.out.cell (World.block_lt_of_cell? w _ hw266_0)).trans hw266_0)⟩ (fun hHeld => ?_);clear hK K;refine nz 79 ?_
                   refine done_ (by kernel_rfl) ?_;(try go_wp2);replace z1:=ak (blk_drew z1.out);replace HB:=ak (below_drew1 HB.out);have zc1 : 0 ≤ ((ji32) : Int):=of_decide_eq_true as_;have zc2 : (ji32) < ((rd_L1 l2 z0).length : Int):=of_decide_eq_true as_;obtain ⟨ze3,e268,r8⟩:=Kd.at_int j7.out (ji32) zc1 zc2;have hw268_0:=r8
                   obtain rfl : r7 = ze3:=(by injection e268)
                   replace r8:=hc_ HB r8;replace zc1:=eq_true zc1;replace zc2:=eq_true zc2;refine start_ (n:=9) (S:=fun w' => w'.cell? ⟨z7,0,none⟩ = some (.int .i64 a0_0) ∧ w'.cell? ⟨z7,1,none⟩ = some (.slice z9 z2.length c0_1) ∧ w'.cell? (r7.add ((ji32)).toNat) = some (.int .i64 (rd (rd_L1 l2 z0) (ji32)))) (ds:=[]) (bm 9 0) (by kernel_rfl) rfl rfl ⟨(blk_cell z1.out 0).trans rfl,(blk_cell z1.out 1).trans rfl,((HB.out.cell (World.block_lt_of_cell? w _ hw268_0)).trans hw268_0)⟩ (fun hHeld => ?_);refine with_tabW impl_GoodPaths.tab14 impl_GoodPaths.bits14 (fun HT_ HW_ => ?_);generalize w39.drew = w40 at z1 HB r8 hHeld ⊢;refine pz 1 81 HT_ ?_;refine pz 2 82 HT_ ?_;refine pz 3 83 HT_ ?_;refine pz 4 84 HT_ ?_;refine pz 8 88 HT_ ?_;refine tz 0 80 rfl HT_ HW_ hHeld (by rintro w' ⟨s0,s1,s2⟩;go_simp;with_reducible rfl) ?_
                   refine tz 5 85 rfl HT_ HW_ hHeld (by rintro w' ⟨s0,s1,s2⟩;go_simp;with_reducible rfl) ?_
                   refine one_ (i:=6) (N:=some 86) (bm 9 383) rfl rfl (one_of HT_.out (by kernel_rfl)) (by decide) (fun K hK => ?_);refine goes_ Try.func58 (by kernel_rfl) rfl #[.agg #[.int .i64 a0_0,.slice z9 z2.length c0_1],.int .i64 (rd (rd_L1 l2 z0) (ji32))] (by rfl) rfl rfl (by (try simp only [List.map_toArray,List.map_cons,List.map_nil]);first | done | (simp only [hji32];rfl) | rfl | (simp only [List.length_drop,List.length_take];rfl)) ?_
                   with_reducible refine (impl_Cells_goes.calls k4 a0_0 _ _ z2 (rd (rd_L1 l2 z0) (ji32)) z8 _ ?j4 ?j5 A37.out).mono ?_
                   (case j4 => exact cb_ m7.out);(case j5 => exact m8.out);rintro e w41 ⟨zh7,rfl,ho0,hb⟩;refine ⟨_,rfl,?_⟩;have zc5:=ak (Kd.R_lower ho0 (below_size hb_));replace z1:=bb_ z1 hb;replace HB:=ak (below_step hb_ hb);obtain ⟨ze7,ze8,zd0⟩:=Kd.R_slice zc5.out;(first | subst zd0 | (injection zd0 with f1_ f2_ f3_;have f4_:=f1_.symm;have f5_:=f3_.symm;clear f1_ f2_ f3_;subst f4_;subst f5_));refine hK.out _ _ ⟨(blk_cell z1.out 0).trans rfl,(blk_cell z1.out 1).trans rfl,((HB.out.cell (World.block_lt_of_cell? w _ hw268_0)).trans hw268_0)⟩ (fun hHeld => ?_);clear hK K;refine nz 86 ?_;refine pz 7 87 HT_ ?_
                   refine done_ (done_of HT_.out (by kernel_rfl)) ?_;(try go_wp2)
                   go_loopg [11,88] k4 (fun kq v11 v88 w' => ∃ (za3 : Bool) (z5 : Int),v11 = .bool za3 ∧ v88 = .int .i64 z5 ∧ Aside0 (impl_GoodPaths.l2 kq l1 l2 (rd_L1 l2 z0) ((rd_L1 l2 z0).length : Int) z4 za3 l2 (l2.length : Int) z0 z8 (z8.length : Int) z5 a0_0 z2 = some r) ∧ Aside0 (kq ≤ k4) ∧ Aside0 (Kd.R (Kd.int .i64) 3 w' w.heap.size (fun _ => True) (.slice ze7 z8.length ze8) z8) ∧ Aside0 (w'.heap[z7]? = some (.cells #[.int .i64 a0_0,(.slice z9 z2.length c0_1)] 39 (0,0))) ∧ Aside0 (Below w.heap.size w w'))
                   case atStart => exact ⟨(false),(0),es_,es_,H',⟨Nat.le_refl _⟩,⟨ra_ zc5.out⟩,⟨bk_ z1.out⟩,⟨hb_⟩⟩
                   case round =>
                    clear H';obtain ⟨za3,z5,rfl,rfl,HA,HK5,za5,z1,HB⟩:=hrel
                    cases gk with
                    | zero => exact absurd HA.out (by simp [impl_GoodPaths.l2])
                    | succ k5 =>
                     have H:=HA.out;clear HA;simp only [impl_GoodPaths.l2] at H;by_cases c43 : z5 < (z8.length : Int)
                     ·rw [if_pos c43] at H
                      have ze4 : decide (z5 < (z8.length : Int)) = true:=decide_eq_true c43;clear c43;by_cases c44 : 0 ≤ z5
                      ·rw [if_pos c44] at H
                       have zh2 : decide (0 ≤ z5) = true:=decide_eq_true c44;clear c44;by_cases c45 : z5 < (z8.length : Int)
                       ·rw [if_pos c45] at H
                        have zh3 : decide (z5 < (z8.length : Int)) = true:=decide_eq_true c45;clear c45;by_cases c46 : za3 = true
                        ·subst c46
                         rw [if_pos rfl] at H;have H':=Aside0.mk H;clear H;have m5 : 0 ≤ (z5 : Int):=of_decide_eq_true as_;have m6 : z5 < (z8.length : Int):=of_decide_eq_true as_;obtain ⟨ze5,e272,zc6⟩:=Kd.at_int (Kd.R_reads' za5.out).2.2 z5 m5 m6;cases e272;replace m5:=eq_true m5;replace m6:=eq_true m6;go_wp2;go_roundg k5
                         case measure => have:=HJ3.out;have:=HK2.out;have:=r2.out;have:=HK4.out;have:=HK5.out;omega
                         case rel => exact ⟨(true),(wrap64 (z5 + 1)),es_,es_,H',⟨by have:=HJ3.out;have:=HK2.out;have:=r2.out;have:=HK4.out;have:=HK5.out;omega⟩,⟨ra_ za5.out⟩,⟨bk_ z1.out⟩,⟨hb_⟩⟩
                        ·replace c46:=Bool.eq_false_iff.mpr c46
                         subst c46;rw [if_neg (show ¬ (false = true) by decide)] at H;by_cases c47 : 0 ≤ z4
                         ·rw [if_pos c47] at H
                          have zh4 : decide (0 ≤ z4) = true:=decide_eq_true c47;clear c47;by_cases c48 : z4 < ((rd_L1 l2 z0).length : Int)
                          ·rw [if_pos c48] at H
                           have zh5 : decide (z4 < ((rd_L1 l2 z0).length : Int)) = true:=decide_eq_true c48;clear c48;have H':=Aside0.mk H;clear H;have m5 : 0 ≤ (z5 : Int):=of_decide_eq_true as_;have m6 : z5 < (z8.length : Int):=of_decide_eq_true as_;obtain ⟨ze5,e272,zc6⟩:=Kd.at_int (Kd.R_reads' za5.out).2.2 z5 m5 m6;cases e272;replace m5:=eq_true m5;replace m6:=eq_true m6;have zc3 : 0 ≤ (z4 : Int):=of_decide_eq_true as_;have zc4 : z4 < ((rd_L1 l2 z0).length : Int):=of_decide_eq_true as_;obtain ⟨ze6,e273,za9⟩:=Kd.at_int j7.out z4 zc3 zc4
                           obtain rfl : r7 = ze6:=(by injection e273)
                           replace za9:=hc_ HB za9;replace zc3:=eq_true zc3;replace zc4:=eq_true zc4;go_wp2;go_roundg k5
                           case measure => have:=HJ3.out;have:=HK2.out;have:=r2.out;have:=HK4.out;have:=HK5.out;omega
                           case rel => exact ⟨(((rd z8 z5) == (rd (rd_L1 l2 z0) z4))),(wrap64 (z5 + 1)),es_,es_,H',⟨by have:=HJ3.out;have:=HK2.out;have:=r2.out;have:=HK4.out;have:=HK5.out;omega⟩,⟨ra_ za5.out⟩,⟨bk_ z1.out⟩,⟨hb_⟩⟩
                          ·rw [if_neg c48] at H
                           exact absurd H (by simp)
                         ·rw [if_neg c47] at H
                          exact absurd H (by simp)
                       ·rw [if_neg c45] at H
                        exact absurd H (by simp)
                      ·rw [if_neg c44] at H
                       exact absurd H (by simp)
                     ·rw [if_neg c43] at H
                      have ze4 : decide (z5 < (z8.length : Int)) = false:=decide_eq_false c43;clear c43;by_cases c49 : za3 = true
                      ·subst c49
                       rw [if_pos rfl] at H;have H':=Aside0.mk H;clear H;go_wp2;go_roundg k5
                       case measure => have:=HJ3.out;have:=HK2.out;have:=r2.out;have:=HK4.out;have:=HK5.out;omega
                       case rel => exact ⟨(wrap64 (z4 + 1)),es_,H',⟨by have:=HJ3.out;have:=HK2.out;have:=r2.out;have:=HK4.out;have:=HK5.out;omega⟩,⟨bk_ z1.out⟩,⟨hb_⟩⟩
                      ·replace c49:=Bool.eq_false_iff.mpr c49
                       subst c49;rw [if_neg (show ¬ (false = true) by decide)] at H
                       obtain rfl:=Option.some.inj H
                       go_wp2;go_ret;exact ⟨by first | rfl | (simp [errW_none,errW_some] <;> rfl) | (simp only [← hji32];first | rfl | (simp [errW_none,errW_some] <;> rfl)) | (simp [*,errW_none,errW_some] <;> rfl),hb_⟩
                  ·replace c36:=Bool.eq_false_iff.mpr c36
                   subst c36;rw [if_neg (show ¬ (false = true) by decide)] at H
                   obtain rfl:=Option.some.inj H
                   (try go_wp2);replace z1:=ak (blk_drew z1.out);replace HB:=ak (below_drew1 HB.out);have m3 : 0 ≤ ((ji32) : Int):=of_decide_eq_true as_;have m4 : (ji32) < ((rd_L1 l2 z0).length : Int):=of_decide_eq_true as_;obtain ⟨r7,e266,j2⟩:=Kd.at_int j7.out (ji32) m3 m4;have hw266_0:=j2;cases e266;replace j2:=hc_ HB j2;replace m3:=eq_true m3;replace m4:=eq_true m4;refine start_ (n:=7) (S:=fun w' => w'.cell? ⟨z7,0,none⟩ = some (.int .i64 a0_0) ∧ w'.cell? ⟨z7,1,none⟩ = some (.slice z9 z2.length c0_1) ∧ w'.cell? (r7.add ((ji32)).toNat) = some (.int .i64 (rd (rd_L1 l2 z0) (ji32)))) (ds:=[]) (bm 7 0) (by kernel_rfl) rfl rfl ⟨(blk_cell z1.out 0).trans rfl,(blk_cell z1.out 1).trans rfl,((HB.out.cell (World.block_lt_of_cell? w _ hw266_0)).trans hw266_0)⟩ (fun hHeld => ?_);generalize wr.drew = w50 at z1 HB j2 hHeld ⊢;refine pure_ (i:=1) (N:=some 74) (v:=?_) (a':=?_) (bm 7 2) rfl rfl (by kernel_rfl) (fun _ _ _ h => h) (Or.inl ⟨by rfl,?_⟩) ?_ ?_;rotate_left
                   (intro w';go_simp;with_reducible rfl);rotate_left;(simp only [Act.put,aS,aZ,aN,i64_w,i32_w];rfl)
                   refine pure_ (i:=2) (N:=some 75) (v:=?_) (a':=?_) (bm 7 6) rfl rfl (by kernel_rfl) (fun _ _ _ h => h) (Or.inl ⟨by rfl,?_⟩) ?_ ?_;rotate_left;(intro w';go_simp;with_reducible rfl);rotate_left;(simp only [Act.put,aS,aZ,aN,i64_w,i32_w];rfl)
                   refine pure_ (i:=3) (N:=some 76) (v:=?_) (a':=?_) (bm 7 14) rfl rfl (by kernel_rfl) (fun _ _ _ h => h) (Or.inl ⟨by rfl,?_⟩) ?_ ?_;rotate_left;(intro w';go_simp;with_reducible rfl);rotate_left;(simp only [Act.put,aS,aZ,aN,i64_w,i32_w];rfl)
                   refine pure_ (i:=4) (N:=some 77) (v:=?_) (a':=?_) (bm 7 30) rfl rfl (by kernel_rfl) (fun _ _ _ h => h) (Or.inl ⟨by rfl,?_⟩) ?_ ?_;rotate_left;(intro w';go_simp;with_reducible rfl);rotate_left;(simp only [Act.put,aS,aZ,aN,i64_w,i32_w];rfl)
                   refine take_ (i:=0) (N:=some 73) (v:=?_) (a':=?_) (bm 7 31) rfl rfl (by kernel_rfl) (fun _ _ _ h => h) (Or.inl ⟨by rfl,?_⟩) hHeld ?_ ?_;rotate_left;(rintro w' ⟨s0,s1,s2⟩;go_simp;with_reducible rfl);rotate_left;(simp only [Act.put,aS,aZ,aN,i64_w,i32_w];rfl)
                   refine take_ (i:=5) (N:=some 78) (v:=?_) (a':=?_) (bm 7 63) rfl rfl (by kernel_rfl) (fun _ _ _ h => h) (Or.inl ⟨by rfl,?_⟩) hHeld ?_ ?_;rotate_left;(rintro w' ⟨s0,s1,s2⟩;go_simp;with_reducible rfl);rotate_left;(simp only [Act.put,aS,aZ,aN,i64_w,i32_w];rfl)
                   refine one_ (i:=6) (N:=some 79) (bm 7 127) rfl rfl (by kernel_rfl) (by decide) (fun K hK => ?_);refine goes_ Try.func55 (by kernel_rfl) rfl #[.agg #[.int .i64 a0_0,.slice z9 z2.length c0_1],.int .i64 (rd (rd_L1 l2 z0) (ji32))] (by rfl) rfl rfl (by (try simp only [List.map_toArray,List.map_cons,List.map_nil]);first | done | (simp only [hji32];rfl) | rfl | (simp only [List.length_drop,List.length_take];rfl)) ?_
                   with_reducible refine (impl_Cells_free.calls a0_0 _ _ z2 (rd (rd_L1 l2 z0) (ji32)) false _ ?j4 ?j5 A35.out).mono ?_
                   (case j4 => exact cb_ m7.out);(case j5 => exact m8.out);rintro e w51 ⟨rfl,hb⟩;refine ⟨_,rfl,?_⟩;replace z1:=bb_ z1 hb;replace HB:=ak (below_step hb_ hb);refine hK.out _ _ ⟨(blk_cell z1.out 0).trans rfl,(blk_cell z1.out 1).trans rfl,((HB.out.cell (World.block_lt_of_cell? w _ hw266_0)).trans hw266_0)⟩ (fun hHeld => ?_);clear hK K;refine nz 79 ?_
                   refine done_ (by kernel_rfl) ?_;(try go_wp2);go_ret;exact ⟨by first | rfl | (simp [errW_none,errW_some] <;> rfl) | (simp only [← hji32];first | rfl | (simp [errW_none,errW_some] <;> rfl)) | (simp [*,errW_none,errW_some] <;> rfl),hb_⟩
                 ·rw [if_neg c34] at H
                  exact absurd H (by simp)
                ·rw [if_neg c33] at H
                 exact absurd H (by simp)
               ·rw [if_neg c31] at H
                have ze2 : decide (z4 < ((rd_L1 l2 z0).length : Int)) = false:=decide_eq_false c31;clear c31;have H':=Aside0.mk H;clear H;go_wp2;go_roundg k4
                case measure => have:=HJ3.out;have:=HK2.out;have:=r2.out;have:=HK4.out;omega
                case rel => exact ⟨(wrap64 (z0 + 1)),es_,H',⟨by have:=HJ3.out;have:=HK2.out;have:=r2.out;have:=HK4.out;omega⟩,⟨bk_ z1.out⟩,⟨hb_⟩⟩
         ·rw [if_neg c15] at H
          exact absurd H (by simp)
        ·rw [if_neg c14] at H
         exact absurd H (by simp)
       ·rw [if_neg c13] at H
        have zd3 : decide (z0 < (l2.length : Int)) = false:=decide_eq_false c13;clear c13;replace H:=Option.bind_eq_some_iff.mp H;obtain ⟨zd1,zd2,H⟩:=H;replace H : (some (decide (zd1 < 0))) = some r:=H;have A52:=Aside0.mk zd2;clear zd2
        obtain rfl:=Option.some.inj H
        go_wp2_with (first | ((with_reducible refine gate_callee (f:=21) rfl ?_);refine goesL_ (some 106) rfl rfl Try.func21 (by kernel_rfl) rfl #[.slice A2 l2.length c2] rfl ls_ ?_;(with_reducible refine (impl_FirstMeet.calls k2 _ _ l2 zd1 _ ?j4 ?j5 A52.out).mono ?_);(case j4 => exact cb_ HR2.out);(case j5 => exact HC2.out);rintro e w' ⟨rfl,⟨nd,rfl⟩⟩;refine ⟨_,rfl,?_⟩));go_ret;exact ⟨er_,hb_⟩

end Go.Proofs.Ytcldlljnaijmhaa.Pr
