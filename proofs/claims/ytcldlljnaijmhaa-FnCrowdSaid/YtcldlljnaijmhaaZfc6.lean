-- Joined and pruned by wip/tools/prune.py out of this session's own texts (Pr11)
import Derived.Test.YtcldlljnaijmhaaZfc5
namespace Go.Proofs.Ytcldlljnaijmhaa.Pr
open Go.RowKit Go.Proofs.YtcldlljnaijmhaaW.PrintWords Go.Proofs.YtcldlljnaijmhaaW.PrintLast Go.Proofs.YtcldlljnaijmhaaW.PrintMore
attribute [local go_sem] max2_int min2_int max_two min_two max_three min_three max_four min_four
set_option linter.unusedVariables false
set_option linter.unusedSimpArgs false

def spec_GoodPaths.T6 : Bool × List (List Nat × List Nat):=(true,[([],[]),([0],[0]),([1],[1]),([2],[2]),([3],[3]),([4,3],[3,4]),([3],[3]),([6,3],[3,6]),([7,3],[3,7]),([8,3],[3,8]),([5,9,3],[3,5,9]),([3,10],[3,10]),([11,3],[11]),([12],[12]),([13,12],[12,13]),([14,12],[12,14]),([12],[12]),([12],[12]),([16,17,12],[12,16,17]),([18,12],[12,18]),([19,12],[12,19]),([15,20,12],[12,15,20]),([12,21],[12,21]),([22,12],[22]),([23],[23]),([23],[23]),([25,23],[23,25]),([26,23],[23,26]),([24,27,23],[23,24,27]),([28,23],[23,28]),([23],[23]),([23],[23]),([30,31,23],[23,30,31]),([32,23],[23,32]),([33,23],[23,33]),([29,34,23],[23,29,34]),([23,35],[23,35])])
def spec_GoodPaths.B6 : List Nat:=[0,1,3,7,15,31,15,79,207,463,1023,2047,4095,8191,16383,32767,8191,8191,204799,466943,991231,2097151,4194303,8388607,16777215,16777215,50331647,117440511,268435455,536870911,16777215,16777215,3238002687,7532969983,16122904575,34359738367,68719476735]
theorem spec_GoodPaths.tab6 : rtab .any (opsOf Try.f36 6) = spec_GoodPaths.T6:=by kernel_rfl
theorem spec_GoodPaths.bits6 : waitsOk spec_GoodPaths.T6.2 spec_GoodPaths.B6 = true:=by kernel_rfl
def spec_GoodPaths.T12 : Bool × List (List Nat × List Nat):=(true,[([],[]),([],[]),([],[]),([2],[2]),([1,3],[1,3]),([4],[4]),([0,5],[0,5]),([6],[6]),([],[])])
def spec_GoodPaths.B12 : List Nat:=[0,0,0,4,14,30,63,127,0]
theorem spec_GoodPaths.tab12 : rtab .any (opsOf Try.f36 12) = spec_GoodPaths.T12:=by kernel_rfl
theorem spec_GoodPaths.bits12 : waitsOk spec_GoodPaths.T12.2 spec_GoodPaths.B12 = true:=by kernel_rfl
set_option maxHeartbeats 8000000 in
set_option maxRecDepth 100000 in
theorem spec_GoodPaths.calls (k : Nat) (a0_0 : Int) (j2 : Option Addr) (c0_1 : Nat) (z3 : List Int) (A1 : Option Addr) (c1 : Nat) (l1 : List (S49)) (A2 : Option Addr) (c2 : Nat) (l2 : List (List Int)) (r : Bool) (w : World) (hr0_1 : Kd.C (Kd.int .i64) w j2 z3.length z3) (hc0_1 : z3.length ≤ c0_1) (hr1 : Kd.C k49 w A1 l1.length l1) (hc1 : l1.length ≤ c1) (hr2 : Kd.C (Kd.slice 3 (Kd.int .i64)) w A2 l2.length l2) (hc2 : l2.length ≤ c2) (h : spec_GoodPaths.f k a0_0 z3 l1 l2 = some r) :
   Calls Try.prog 36 #[.agg #[.int .i64 a0_0,.slice j2 z3.length c0_1],.slice A1 l1.length c1,.slice A2 l2.length c2] w fun e w' => e = .returned (.bool r) ∧ Below w.heap.size w w':=by
  have zh0:=Try.underlying39;have za4:=Aside0.mk hr0_1;have za5:=Aside0.mk hc0_1;clear hr0_1 hc0_1;have HR1:=Aside0.mk hr1;have HC1:=Aside0.mk hc1;clear hr1 hc1;have HR2:=Aside0.mk hr2;have HC2:=Aside0.mk hc2;clear hr2 hc2;have HB:=ak (Below.refl w.heap.size w);have H : ((spec_GoodTrips.f k a0_0 z3 l1).bind fun za6 => (if za6 = true then (spec_GoodPaths.j0 k l1 l2 ((l2.length : Int) != (l1.length : Int)) a0_0 z3) else (spec_GoodPaths.j0 k l1 l2 true a0_0 z3))) = some r:=h;clear h;have HC4:=Aside0.mk H;clear H;go_enter Try.func36,Try.ntmps36
  go_upto_region 1 with (first | ((with_reducible refine gate_dst (N:=3) rfl ?_);(try (refine gate_guard (by rfl) ?_;dsimp only));refine box_event ?hg (N:=3) ?hd (cs:=#[.int .i64 a0_0,.slice j2 z3.length c0_1]) (t:=39) ?hr ?_;(case hd => rfl);(case hg => rfl);(case hr => first | (go_simp;done) | (go_simp;rfl));intro z8 hg w5 hbox hb;have z1:=ak (hbox);have zf3 : Aside0 (w.heap.size ≤ z8):=gz_;have zf4 : Aside0 (w.heap.size ≤ z8):=gz_;replace HB:=ak (below_step hb_ hb);clear hb hbox hg))
  (try simp only [Act.put,aS,aZ,aN])
  go_cut [23] (fun v23 wc => ∃ (kq : Nat) (m8 : Bool),v23 = .bool m8 ∧ Aside0 (spec_GoodPaths.j0 kq l1 l2 m8 a0_0 z3 = some r) ∧ Aside0 (kq ≤ k) ∧ Aside0 (wc.heap[z8]? = some (.cells #[.int .i64 a0_0,(.slice j2 z3.length c0_1)] 39 (0,0))) ∧ Aside0 (Below w.heap.size w wc))
  case first =>
   have H:=HC4.out;clear HC4;replace H:=Option.bind_eq_some_iff.mp H;obtain ⟨za6,A60,H⟩:=H;replace H : (if za6 = true then (spec_GoodPaths.j0 k l1 l2 ((l2.length : Int) != (l1.length : Int)) a0_0 z3) else (spec_GoodPaths.j0 k l1 l2 true a0_0 z3)) = some r:=H;have A6:=Aside0.mk A60;clear A60;by_cases c7 : za6 = true
   ·subst c7
    rw [if_pos rfl] at H;have H':=Aside0.mk H;clear H;have ze8:=b20 z1;have ze9:=b21 z1;have zf0:=blk_frozen z1.out 0;have zf1:=blk_frozen z1.out 1;go_wp2_with (first | ((with_reducible refine gate_callee (f:=25) rfl ?_);refine goesL_ (some 15) rfl rfl Try.func25 (by kernel_rfl) rfl #[.agg #[.int .i64 a0_0,.slice j2 z3.length c0_1],.slice A1 l1.length c1] rfl ls_ ?_;(with_reducible refine (spec_GoodTrips.calls k a0_0 _ _ z3 _ _ l1 true _ ?j8 ?j9 ?za7 ?za8 A6.out).mono ?_);(case j8 => exact cb_ za4.out);(case j9 => exact za5.out);(case za7 => exact cb_ HR1.out);(case za8 => exact HC1.out);rintro e w9 ⟨rfl,hb⟩;refine ⟨_,rfl,?_⟩;replace z1:=bb_ z1 hb;replace HB:=ak (below_step hb_ hb);(try clear hb);(try clear hb2);(try clear hk);(try clear hi)));go_meet
    case rel => exact ⟨_,(((l2.length : Int) != (l1.length : Int))),es_,H',⟨by first | omega | exact Nat.le_refl _⟩,⟨bk_ z1.out⟩,⟨hb_⟩⟩
   ·replace c7:=Bool.eq_false_iff.mpr c7
    subst c7;rw [if_neg (show ¬ (false = true) by decide)] at H;have H':=Aside0.mk H;clear H;have ze3:=b20 z1;have ze4:=b21 z1;have ze5:=blk_frozen z1.out 0;have ze6:=blk_frozen z1.out 1;go_wp2_with (first | ((with_reducible refine gate_callee (f:=25) rfl ?_);refine goesL_ (some 15) rfl rfl Try.func25 (by kernel_rfl) rfl #[.agg #[.int .i64 a0_0,.slice j2 z3.length c0_1],.slice A1 l1.length c1] rfl ls_ ?_;(with_reducible refine (spec_GoodTrips.calls k a0_0 _ _ z3 _ _ l1 false _ ?j8 ?j9 ?za7 ?za8 A6.out).mono ?_);(case j8 => exact cb_ za4.out);(case j9 => exact za5.out);(case za7 => exact cb_ HR1.out);(case za8 => exact HC1.out);rintro e w11 ⟨rfl,hb⟩;refine ⟨_,rfl,?_⟩;replace z1:=bb_ z1 hb;replace HB:=ak (below_step hb_ hb);(try clear hb);(try clear hb2);(try clear hk);(try clear hi)));go_meet
    case rel => exact ⟨_,(true),es_,H',⟨by first | omega | exact Nat.le_refl _⟩,⟨bk_ z1.out⟩,⟨hb_⟩⟩
  case rest =>
   clear HC4;obtain ⟨kq,m8,rfl,HA,HJ3,z1,HB⟩:=hcut
   cases kq with
   | zero => exact absurd HA.out (by simp [spec_GoodPaths.j0])
   | succ kj3 =>
    have H:=HA.out;clear HA;simp only [spec_GoodPaths.j0] at H;by_cases c12 : m8 = true
    ·subst c12
     rw [if_pos rfl] at H
     obtain rfl:=Option.some.inj H
     go_wp2;go_ret;exact ⟨er_,hb_⟩
    ·replace c12:=Bool.eq_false_iff.mpr c12
     subst c12;rw [if_neg (show ¬ (false = true) by decide)] at H;have H':=Aside0.mk H;clear H;go_wp2
     go_loopg [26] kj3 (fun kq v26 w' => ∃ (z0 : Int),v26 = .int .i64 z0 ∧ Aside0 (spec_GoodPaths.l0 kq l1 l2 l2 (l2.length : Int) z0 a0_0 z3 = some r) ∧ Aside0 (kq ≤ kj3) ∧ Aside0 (w'.heap[z8]? = some (.cells #[.int .i64 a0_0,(.slice j2 z3.length c0_1)] 39 (0,0))) ∧ Aside0 (Below w.heap.size w w'))
     case atStart => exact ⟨(0),es_,H',⟨Nat.le_refl _⟩,⟨bk_ z1.out⟩,⟨hb_⟩⟩
     case round =>
      clear H';obtain ⟨z0,rfl,HA,HK2,z1,HB⟩:=hrel
      cases gk with
      | zero => exact absurd HA.out (by simp [spec_GoodPaths.l0])
      | succ k2 =>
       have H:=HA.out;clear HA;simp only [spec_GoodPaths.l0] at H;by_cases c13 : z0 < (l2.length : Int)
       ·rw [if_pos c13] at H
        have zc8 : decide (z0 < (l2.length : Int)) = true:=decide_eq_true c13;clear c13;by_cases c14 : 0 ≤ z0
        ·rw [if_pos c14] at H
         have zf5 : decide (0 ≤ z0) = true:=decide_eq_true c14;clear c14;by_cases c15 : z0 < (l2.length : Int)
         ·rw [if_pos c15] at H
          have zf6 : decide (z0 < (l2.length : Int)) = true:=decide_eq_true c15;clear c15;have za9:=Aside0.mk H;clear H;have zb0 : 0 ≤ (z0 : Int):=of_decide_eq_true as_;have zb1 : z0 < (l2.length : Int):=of_decide_eq_true as_;obtain ⟨r2,zf2,c199_0,e199,za0,za1,hi199_0⟩:=at_L1 HR2.out z0 zb0 zb1;cases e199;replace za0:=hc_ HB za0;have j6:=Aside0.mk hi199_0;have ze7:=Aside0.mk za1;clear hi199_0 za1;replace zb0:=eq_true zb0;replace zb1:=eq_true zb1
          go_upto_region 6 with (fail)
          go_cut [67] (fun v67 wc => ∃ (kq : Nat) (m3 : Bool),v67 = .bool m3 ∧ Aside0 (spec_GoodPaths.j2 kq l1 l2 (rd_L1 l2 z0) l2 (l2.length : Int) z0 m3 a0_0 z3 = some r) ∧ Aside0 (kq ≤ k2) ∧ Aside0 (wc.heap[z8]? = some (.cells #[.int .i64 a0_0,(.slice j2 z3.length c0_1)] 39 (0,0))) ∧ Aside0 (Below w.heap.size w wc))
          case first =>
           have H:=za9.out;clear za9;by_cases c17 : ((rd_L1 l2 z0).length : Int) < 1
           ·rw [if_pos c17] at H
            have m4 : decide (((rd_L1 l2 z0).length : Int) < 1) = true:=decide_eq_true c17;have zc9 : decide ((rd_L1 l2 z0).length < 1) = true:=decide_eq_true (by omega);clear c17;(first | rw [m4] | (simp only [i64_w,i32_w];rw [m4]) | skip);have H':=Aside0.mk H;clear H;(try go_wp2);replace z1:=ak (blk_drew z1.out);replace HB:=ak (below_drew1 HB.out);refine start_ (n:=37) (S:=fun w' => True) (ds:=[]) (bm 37 0) (by kernel_rfl) rfl rfl trivial (fun hHeld => ?_);refine with_tabW spec_GoodPaths.tab6 spec_GoodPaths.bits6 (fun HT_ HW_ => ?_);generalize wr.drew = w18 at z1 HB hHeld ⊢;refine pz 0 31 HT_ ?_;refine pz 1 32 HT_ ?_;refine pz 2 33 HT_ ?_;refine pz 3 34 HT_ ?_;refine pu 4 35 HT_ ?_;refine pu 5 36 HT_ ?_;refine pu 6 37 HT_ ?_;refine pu 7 38 HT_ ?_;refine pu 8 39 HT_ ?_;refine pu 9 40 HT_ ?_;refine pu 10 41 HT_ ?_;refine pz 11 42 HT_ ?_;refine pz 12 43 HT_ ?_;refine pu 13 44 HT_ ?_;refine pu 14 45 HT_ ?_;refine pu 15 46 HT_ ?_;refine pu 16 47 HT_ ?_;refine pu 17 48 HT_ ?_;refine pu 18 49 HT_ ?_;refine pu 19 50 HT_ ?_;refine pu 20 51 HT_ ?_;refine pu 21 52 HT_ ?_;refine pz 22 53 HT_ ?_;refine pz 23 54 HT_ ?_;refine pu 24 55 HT_ ?_;refine pu 25 56 HT_ ?_;refine pu 26 57 HT_ ?_;refine pu 27 58 HT_ ?_;refine pu 28 59 HT_ ?_;refine pu 29 60 HT_ ?_;refine pu 30 61 HT_ ?_;refine pu 31 62 HT_ ?_;refine pu 32 63 HT_ ?_;refine pu 33 64 HT_ ?_;refine pu 34 65 HT_ ?_;refine pu 35 66 HT_ ?_;refine pz 36 67 HT_ ?_
            refine done_ (done_of HT_.out (by kernel_rfl)) ?_;(try go_wp2);go_meet
            case rel => exact ⟨_,(true),es_,H',⟨by have:=HJ3.out;have:=HK2.out;first | omega | exact Nat.le_refl _⟩,⟨bk_ z1.out⟩,⟨hb_⟩⟩
           ·rw [if_neg c17] at H
            have m4 : decide (((rd_L1 l2 z0).length : Int) < 1) = false:=decide_eq_false c17;have zc9 : decide ((rd_L1 l2 z0).length < 1) = false:=decide_eq_false (by omega);clear c17;(first | rw [m4] | (simp only [i64_w,i32_w];rw [m4]) | skip);by_cases c19 : 0 < (l2.length : Int)
            ·rw [if_pos c19] at H
             have zf7 : decide (0 < (l2.length : Int)) = true:=decide_eq_true c19;have zf8 : decide (0 < l2.length) = true:=decide_eq_true (by omega);clear c19;by_cases c20 : ((rd_L1 l2 z0).length : Int) = ((rd_L1 l2 0).length : Int)
             ·rw [if_pos c20] at H
              have zd0 : (((rd_L1 l2 z0).length : Int) == ((rd_L1 l2 0).length : Int)) = true:=beq_iff_eq.mpr c20;have zd1 : (((rd_L1 l2 z0).length : Int) != ((rd_L1 l2 0).length : Int)) = false:=bne_eq_false_iff_eq.mpr c20;(have zd2 : ((rd_L1 l2 z0).length == (rd_L1 l2 0).length) = true:=by first | simpa using c20 | (simp at c20 ⊢;omega));clear c20;by_cases c21 : 0 < ((rd_L1 l2 z0).length : Int)
              ·rw [if_pos c21] at H
               have zf9 : decide (0 < ((rd_L1 l2 z0).length : Int)) = true:=decide_eq_true c21;have zg0 : decide (0 < (rd_L1 l2 z0).length) = true:=decide_eq_true (by omega);clear c21;by_cases c22 : z0 < (l1.length : Int)
               ·rw [if_pos c22] at H
                have zg1 : decide (z0 < (l1.length : Int)) = true:=decide_eq_true c22;clear c22;by_cases c23 : (rd (rd_L1 l2 z0) 0) = ((rd_T49 l1 z0).f0)
                ·rw [if_pos c23] at H
                 have zd3 : ((rd (rd_L1 l2 z0) 0) == ((rd_T49 l1 z0).f0)) = true:=beq_iff_eq.mpr c23;have zd4 : ((rd (rd_L1 l2 z0) 0) != ((rd_T49 l1 z0).f0)) = false:=bne_eq_false_iff_eq.mpr c23;clear c23;obtain ⟨ji24,hji24⟩ : ∃ j_ : Int,(wrap64 (((rd_L1 l2 z0).length : Int) - 1)) = j_:=⟨_,rfl⟩;(replace H : (if 0 ≤ (ji24) then (if (ji24) < ((rd_L1 l2 z0).length : Int) then (spec_GoodPaths.j2 k2 l1 l2 (rd_L1 l2 z0) l2 (l2.length : Int) z0 ((rd (rd_L1 l2 z0) (ji24)) != ((rd_T49 l1 z0).f1)) a0_0 z3) else (none)) else (none)) = some r:=by first | (rw [hji24] at H;exact H) | (simp only [hji24] at H ⊢;exact H));have hji24w : (IntKind.i64.wrap (((rd_L1 l2 z0).length : Int) - 1)) = ji24:=(i64_w _).trans hji24;by_cases c25 : 0 ≤ (ji24)
                 ·rw [if_pos c25] at H
                  have zg2 : decide (0 ≤ (ji24)) = true:=decide_eq_true c25;clear c25;by_cases c26 : (ji24) < ((rd_L1 l2 z0).length : Int)
                  ·rw [if_pos c26] at H
                   have zg3 : decide ((ji24) < ((rd_L1 l2 z0).length : Int)) = true:=decide_eq_true c26;clear c26;have H':=Aside0.mk H;clear H;(try go_wp2);replace z1:=ak (blk_drew z1.out);replace HB:=ak (below_drew1 HB.out);have j4 : 0 ≤ (0 : Int):=(by omega);have j5 : 0 < (l2.length : Int):=of_decide_eq_true as_;obtain ⟨m5,r0,c200_0,e200,z2,j1,hi200_0⟩:=at_L1 HR2.out 0 j4 j5;have hw200_0:=z2;(try rw [show ((0 : Int)).toNat = 0 from rfl] at hw200_0);(try rw [show 0 * 1 = 0 from rfl] at hw200_0);(try rw [Addr.add_zero'] at hw200_0)
                   obtain rfl : r2 = m5:=(by injection e200)
                   have qi200 : (0 < l2.length) = True:=eq_true (by omega);(try rw [show ((0 : Int)).toNat = 0 from rfl] at z2);(try rw [Addr.add_zero'] at z2);replace z2:=hc_ HB z2;have j7:=Aside0.mk hi200_0;have za2:=Aside0.mk j1;clear hi200_0 j1;replace j4:=eq_true j4;replace j5:=eq_true j5;have r7 : 0 ≤ (0 : Int):=(by omega);have r8 : 0 < ((rd_L1 l2 z0).length : Int):=of_decide_eq_true as_;obtain ⟨m6,e201,z5⟩:=Kd.at_int j6.out 0 r7 r8;have hw201_0:=z5;(try rw [show ((0 : Int)).toNat = 0 from rfl] at hw201_0);(try rw [show 0 * 1 = 0 from rfl] at hw201_0);(try rw [Addr.add_zero'] at hw201_0);cases e201;have qi201 : (0 < (rd_L1 l2 z0).length) = True:=eq_true (by omega);(try rw [show ((0 : Int)).toNat = 0 from rfl] at z5);(try rw [Addr.add_zero'] at z5);replace z5:=hc_ HB z5;replace r7:=eq_true r7;replace r8:=eq_true r8;have r9 : 0 ≤ (z0 : Int):=of_decide_eq_true as_;have m0 : z0 < (l1.length : Int):=of_decide_eq_true as_;obtain ⟨j3,e202,z9,j0⟩:=at_T49 HR1.out z0 r9 m0;have hw202_1:=j0;have hw202_0:=z9;cases e202;replace z9:=hc_ HB z9;replace j0:=hc_ HB j0;replace r9:=eq_true r9;replace m0:=eq_true m0;have zb2 : 0 ≤ ((ji24) : Int):=of_decide_eq_true as_;have zb3 : (ji24) < ((rd_L1 l2 z0).length : Int):=of_decide_eq_true as_;obtain ⟨zd5,e203,r3⟩:=Kd.at_int j6.out (ji24) zb2 zb3;have hw203_0:=r3
                   obtain rfl : m6 = zd5:=(by injection e203)
                   replace r3:=hc_ HB r3;replace zb2:=eq_true zb2;replace zb3:=eq_true zb3;have zb4 : 0 ≤ (z0 : Int):=of_decide_eq_true as_;have zb5 : z0 < (l1.length : Int):=of_decide_eq_true as_;obtain ⟨zd6,e204,r4,r5⟩:=at_T49 HR1.out z0 zb4 zb5;have hw204_1:=r5;have hw204_0:=r4
                   obtain rfl : j3 = zd6:=(by injection e204)
                   replace r4:=hc_ HB r4;replace r5:=hc_ HB r5;replace zb4:=eq_true zb4;replace zb5:=eq_true zb5;refine start_ (n:=37) (S:=fun w' => w'.cell? r2 = some (.slice r0 (rd_L1 l2 0).length c200_0) ∧ w'.cell? m6 = some (.int .i64 (rd (rd_L1 l2 z0) 0)) ∧ w'.cell? (j3.add ((z0).toNat * 2)) = some (.int .i64 ((rd_T49 l1 z0).f0)) ∧ w'.cell? ⟨(j3.add ((z0).toNat * 2)).block,(j3.add ((z0).toNat * 2)).off + 1,none⟩ = some (.int .i64 ((rd_T49 l1 z0).f1)) ∧ w'.cell? (m6.add ((ji24)).toNat) = some (.int .i64 (rd (rd_L1 l2 z0) (ji24))) ∧ w'.cell? (j3.add ((z0).toNat * 2)) = some (.int .i64 ((rd_T49 l1 z0).f0)) ∧ w'.cell? ⟨(j3.add ((z0).toNat * 2)).block,(j3.add ((z0).toNat * 2)).off + 1,none⟩ = some (.int .i64 ((rd_T49 l1 z0).f1))) (ds:=[]) (bm 37 0) (by kernel_rfl) rfl rfl ⟨((HB.out.cell (World.block_lt_of_cell? w _ hw200_0)).trans hw200_0),((HB.out.cell (World.block_lt_of_cell? w _ hw201_0)).trans hw201_0),((HB.out.cell (World.block_lt_of_cell? w _ hw202_0)).trans hw202_0),((HB.out.cell (World.block_lt_of_cell? w _ hw202_1)).trans hw202_1),((HB.out.cell (World.block_lt_of_cell? w _ hw203_0)).trans hw203_0),((HB.out.cell (World.block_lt_of_cell? w _ hw204_0)).trans hw204_0),((HB.out.cell (World.block_lt_of_cell? w _ hw204_1)).trans hw204_1)⟩ (fun hHeld => ?_);refine with_tabW spec_GoodPaths.tab6 spec_GoodPaths.bits6 (fun HT_ HW_ => ?_);generalize wr.drew = w27 at z1 HB j7 z2 z5 z9 j0 r3 r4 r5 hHeld ⊢;refine pz 0 31 HT_ ?_;refine pz 1 32 HT_ ?_;refine pz 2 33 HT_ ?_;refine pz 3 34 HT_ ?_;refine pz 4 35 HT_ ?_;refine pz 5 36 HT_ ?_;refine pz 6 37 HT_ ?_;refine pz 7 38 HT_ ?_;refine tz 8 39 rfl HT_ HW_ hHeld (by rintro w' ⟨s0,s1,s2,s3,s4,s5,s6⟩;go_simp;with_reducible rfl) ?_
                   refine pz 9 40 HT_ ?_;refine pz 10 41 HT_ ?_;refine pz 11 42 HT_ ?_;refine pz 12 43 HT_ ?_;refine pz 13 44 HT_ ?_;refine pz 14 45 HT_ ?_;refine pz 16 47 HT_ ?_;refine pz 17 48 HT_ ?_;refine pz 18 49 HT_ ?_;refine pz 19 50 HT_ ?_;refine tz 15 46 rfl HT_ HW_ hHeld (by rintro w' ⟨s0,s1,s2,s3,s4,s5,s6⟩;go_simp;with_reducible rfl) ?_
                   refine tz 20 51 rfl HT_ HW_ hHeld (by rintro w' ⟨s0,s1,s2,s3,s4,s5,s6⟩;go_simp;with_reducible rfl) ?_
                   refine pz 21 52 HT_ ?_;refine pz 22 53 HT_ ?_;refine pz 23 54 HT_ ?_;refine pz 24 55 HT_ ?_;refine pz 25 56 HT_ ?_;refine pz 26 57 HT_ ?_;refine pz 27 58 HT_ ?_;refine pz 28 59 HT_ ?_;refine pz 30 61 HT_ ?_;refine pz 31 62 HT_ ?_;refine pz 32 63 HT_ ?_;refine pz 33 64 HT_ ?_;refine tz 29 60 rfl HT_ HW_ hHeld (by rintro w' ⟨s0,s1,s2,s3,s4,s5,s6⟩;go_simp;with_reducible rfl) ?_
                   refine tz 34 65 rfl HT_ HW_ hHeld (by rintro w' ⟨s0,s1,s2,s3,s4,s5,s6⟩;go_simp;with_reducible rfl) ?_
                   refine pz 35 66 HT_ ?_;refine pz 36 67 HT_ ?_
                   refine done_ (done_of HT_.out (by kernel_rfl)) ?_;(try go_wp2);go_meet
                   case rel => exact ⟨_,(((rd (rd_L1 l2 z0) (ji24)) != ((rd_T49 l1 z0).f1))),(by first | rfl | (simp;done) | (simp only [← hji24] <;> (first | rfl | simp)) | (simp [*];done)),H',⟨by have:=HJ3.out;have:=HK2.out;first | omega | exact Nat.le_refl _⟩,⟨bk_ z1.out⟩,⟨hb_⟩⟩
                  ·rw [if_neg c26] at H
                   exact absurd H (by simp)
                 ·rw [if_neg c25] at H
                  exact absurd H (by simp)
                ·rw [if_neg c23] at H
                 have zd3 : ((rd (rd_L1 l2 z0) 0) == ((rd_T49 l1 z0).f0)) = false:=beq_eq_false_iff_ne.mpr c23;have zd4 : ((rd (rd_L1 l2 z0) 0) != ((rd_T49 l1 z0).f0)) = true:=bne_iff_ne.mpr c23;have H':=Aside0.mk H;clear H;(try go_wp2);replace z1:=ak (blk_drew z1.out);replace HB:=ak (below_drew1 HB.out);have j4 : 0 ≤ (0 : Int):=(by omega);have j5 : 0 < (l2.length : Int):=of_decide_eq_true as_;obtain ⟨m5,r0,c200_0,e200,z2,j1,hi200_0⟩:=at_L1 HR2.out 0 j4 j5;have hw200_0:=z2;(try rw [show ((0 : Int)).toNat = 0 from rfl] at hw200_0);(try rw [show 0 * 1 = 0 from rfl] at hw200_0);(try rw [Addr.add_zero'] at hw200_0)
                 obtain rfl : r2 = m5:=(by injection e200)
                 have qi200 : (0 < l2.length) = True:=eq_true (by omega);(try rw [show ((0 : Int)).toNat = 0 from rfl] at z2);(try rw [Addr.add_zero'] at z2);replace z2:=hc_ HB z2;have j7:=Aside0.mk hi200_0;have za2:=Aside0.mk j1;clear hi200_0 j1;replace j4:=eq_true j4;replace j5:=eq_true j5;have r7 : 0 ≤ (0 : Int):=(by omega);have r8 : 0 < ((rd_L1 l2 z0).length : Int):=of_decide_eq_true as_;obtain ⟨m6,e201,z5⟩:=Kd.at_int j6.out 0 r7 r8;have hw201_0:=z5;(try rw [show ((0 : Int)).toNat = 0 from rfl] at hw201_0);(try rw [show 0 * 1 = 0 from rfl] at hw201_0);(try rw [Addr.add_zero'] at hw201_0);cases e201;have qi201 : (0 < (rd_L1 l2 z0).length) = True:=eq_true (by omega);(try rw [show ((0 : Int)).toNat = 0 from rfl] at z5);(try rw [Addr.add_zero'] at z5);replace z5:=hc_ HB z5;replace r7:=eq_true r7;replace r8:=eq_true r8;have r9 : 0 ≤ (z0 : Int):=of_decide_eq_true as_;have m0 : z0 < (l1.length : Int):=of_decide_eq_true as_;obtain ⟨j3,e202,z9,j0⟩:=at_T49 HR1.out z0 r9 m0;have hw202_1:=j0;have hw202_0:=z9;cases e202;replace z9:=hc_ HB z9;replace j0:=hc_ HB j0;replace r9:=eq_true r9;replace m0:=eq_true m0;refine start_ (n:=37) (S:=fun w' => w'.cell? r2 = some (.slice r0 (rd_L1 l2 0).length c200_0) ∧ w'.cell? m6 = some (.int .i64 (rd (rd_L1 l2 z0) 0)) ∧ w'.cell? (j3.add ((z0).toNat * 2)) = some (.int .i64 ((rd_T49 l1 z0).f0)) ∧ w'.cell? ⟨(j3.add ((z0).toNat * 2)).block,(j3.add ((z0).toNat * 2)).off + 1,none⟩ = some (.int .i64 ((rd_T49 l1 z0).f1))) (ds:=[]) (bm 37 0) (by kernel_rfl) rfl rfl ⟨((HB.out.cell (World.block_lt_of_cell? w _ hw200_0)).trans hw200_0),((HB.out.cell (World.block_lt_of_cell? w _ hw201_0)).trans hw201_0),((HB.out.cell (World.block_lt_of_cell? w _ hw202_0)).trans hw202_0),((HB.out.cell (World.block_lt_of_cell? w _ hw202_1)).trans hw202_1)⟩ (fun hHeld => ?_);refine with_tabW spec_GoodPaths.tab6 spec_GoodPaths.bits6 (fun HT_ HW_ => ?_);generalize wr.drew = w28 at z1 HB j7 z2 z5 z9 j0 hHeld ⊢;refine pz 0 31 HT_ ?_;refine pz 1 32 HT_ ?_;refine pz 2 33 HT_ ?_;refine pz 3 34 HT_ ?_;refine pz 4 35 HT_ ?_;refine pz 5 36 HT_ ?_;refine pz 6 37 HT_ ?_;refine pz 7 38 HT_ ?_;refine tz 8 39 rfl HT_ HW_ hHeld (by rintro w' ⟨s0,s1,s2,s3⟩;go_simp;with_reducible rfl) ?_
                 refine pz 9 40 HT_ ?_;refine pz 10 41 HT_ ?_;refine pz 11 42 HT_ ?_;refine pz 12 43 HT_ ?_;refine pz 13 44 HT_ ?_;refine pz 14 45 HT_ ?_;refine pz 16 47 HT_ ?_;refine pz 17 48 HT_ ?_;refine pz 18 49 HT_ ?_;refine pz 19 50 HT_ ?_;refine tz 15 46 rfl HT_ HW_ hHeld (by rintro w' ⟨s0,s1,s2,s3⟩;go_simp;with_reducible rfl) ?_
                 refine tz 20 51 rfl HT_ HW_ hHeld (by rintro w' ⟨s0,s1,s2,s3⟩;go_simp;with_reducible rfl) ?_
                 refine pz 21 52 HT_ ?_;refine pz 22 53 HT_ ?_;refine pz 23 54 HT_ ?_;refine pu 24 55 HT_ ?_;refine pu 25 56 HT_ ?_;refine pu 26 57 HT_ ?_;refine pu 27 58 HT_ ?_;refine pu 28 59 HT_ ?_;refine pu 29 60 HT_ ?_;refine pu 30 61 HT_ ?_;refine pu 31 62 HT_ ?_;refine pu 32 63 HT_ ?_;refine pu 33 64 HT_ ?_;refine pu 34 65 HT_ ?_;refine pu 35 66 HT_ ?_;refine pz 36 67 HT_ ?_
                 refine done_ (done_of HT_.out (by kernel_rfl)) ?_;(try go_wp2);go_meet
                 case rel => exact ⟨_,(true),es_,H',⟨by have:=HJ3.out;have:=HK2.out;first | omega | exact Nat.le_refl _⟩,⟨bk_ z1.out⟩,⟨hb_⟩⟩
               ·rw [if_neg c22] at H
                exact absurd H (by simp)
              ·rw [if_neg c21] at H
               exact absurd H (by simp)
             ·rw [if_neg c20] at H
              have zd0 : (((rd_L1 l2 z0).length : Int) == ((rd_L1 l2 0).length : Int)) = false:=beq_eq_false_iff_ne.mpr c20;have zd1 : (((rd_L1 l2 z0).length : Int) != ((rd_L1 l2 0).length : Int)) = true:=bne_iff_ne.mpr c20;(have zd2 : ((rd_L1 l2 z0).length == (rd_L1 l2 0).length) = false:=by first | simpa using c20 | (simp at c20 ⊢;omega));have H':=Aside0.mk H;clear H;(try go_wp2);replace z1:=ak (blk_drew z1.out);replace HB:=ak (below_drew1 HB.out);have j4 : 0 ≤ (0 : Int):=(by omega);have j5 : 0 < (l2.length : Int):=of_decide_eq_true as_;obtain ⟨m5,r0,c200_0,e200,z2,j1,hi200_0⟩:=at_L1 HR2.out 0 j4 j5;have hw200_0:=z2;(try rw [show ((0 : Int)).toNat = 0 from rfl] at hw200_0);(try rw [show 0 * 1 = 0 from rfl] at hw200_0);(try rw [Addr.add_zero'] at hw200_0)
              obtain rfl : r2 = m5:=(by injection e200)
              have qi200 : (0 < l2.length) = True:=eq_true (by omega);(try rw [show ((0 : Int)).toNat = 0 from rfl] at z2);(try rw [Addr.add_zero'] at z2);replace z2:=hc_ HB z2;have j7:=Aside0.mk hi200_0;have za2:=Aside0.mk j1;clear hi200_0 j1;replace j4:=eq_true j4;replace j5:=eq_true j5;refine start_ (n:=37) (S:=fun w' => w'.cell? r2 = some (.slice r0 (rd_L1 l2 0).length c200_0)) (ds:=[]) (bm 37 0) (by kernel_rfl) rfl rfl (((HB.out.cell (World.block_lt_of_cell? w _ hw200_0)).trans hw200_0)) (fun hHeld => ?_);refine with_tabW spec_GoodPaths.tab6 spec_GoodPaths.bits6 (fun HT_ HW_ => ?_);generalize wr.drew = w29 at z1 HB j7 z2 hHeld ⊢;refine pz 0 31 HT_ ?_;refine pz 1 32 HT_ ?_;refine pz 2 33 HT_ ?_;refine pz 3 34 HT_ ?_;refine pz 4 35 HT_ ?_;refine pz 5 36 HT_ ?_;refine pz 6 37 HT_ ?_;refine pz 7 38 HT_ ?_
              refine take_ (i:=8) (N:=some 39) (v:=?_) (a':=?_) (bm 37 511) rfl rfl (take_ofW HT_.out HW_.out (by kernel_rfl)) (fun _ _ _ h => h) (Or.inl ⟨by rfl,?_⟩) hHeld ?_ ?_;rotate_left
              ·intro w' s0
               go_simp
               with_reducible rfl
              rotate_left;(simp only [Act.put,aS,aZ,aN,i64_w,i32_w];rfl)
              refine pz 9 40 HT_ ?_;refine pz 10 41 HT_ ?_;refine pz 11 42 HT_ ?_;refine pz 12 43 HT_ ?_;refine pu 13 44 HT_ ?_;refine pu 14 45 HT_ ?_;refine pu 15 46 HT_ ?_;refine pu 16 47 HT_ ?_;refine pu 17 48 HT_ ?_;refine pu 18 49 HT_ ?_;refine pu 19 50 HT_ ?_;refine pu 20 51 HT_ ?_;refine pu 21 52 HT_ ?_;refine pz 22 53 HT_ ?_;refine pz 23 54 HT_ ?_;refine pu 24 55 HT_ ?_;refine pu 25 56 HT_ ?_;refine pu 26 57 HT_ ?_;refine pu 27 58 HT_ ?_;refine pu 28 59 HT_ ?_;refine pu 29 60 HT_ ?_;refine pu 30 61 HT_ ?_;refine pu 31 62 HT_ ?_;refine pu 32 63 HT_ ?_;refine pu 33 64 HT_ ?_;refine pu 34 65 HT_ ?_;refine pu 35 66 HT_ ?_;refine pz 36 67 HT_ ?_
              refine done_ (done_of HT_.out (by kernel_rfl)) ?_;(try go_wp2);go_meet
              case rel => exact ⟨_,(true),es_,H',⟨by have:=HJ3.out;have:=HK2.out;first | omega | exact Nat.le_refl _⟩,⟨bk_ z1.out⟩,⟨hb_⟩⟩
            ·rw [if_neg c19] at H
             exact absurd H (by simp)
          case rest =>
           clear za9;obtain ⟨kq,m3,rfl,HA,r1,z1,HB⟩:=hcut
           cases kq with
           | zero => exact absurd HA.out (by simp [spec_GoodPaths.j2])
           | succ zc3 =>
            have H:=HA.out;clear HA;simp only [spec_GoodPaths.j2] at H;by_cases c30 : m3 = true
            ·subst c30
             rw [if_pos rfl] at H
             obtain rfl:=Option.some.inj H
             go_wp2;go_ret;exact ⟨er_,hb_⟩
            ·replace c30:=Bool.eq_false_iff.mpr c30
             subst c30;rw [if_neg (show ¬ (false = true) by decide)] at H;have H':=Aside0.mk H;clear H;go_wp2
             go_loopg [9] zc3 (fun kq v9 w' => ∃ (z6 : Int),v9 = .int .i64 z6 ∧ Aside0 (spec_GoodPaths.l1 kq l1 l2 (rd_L1 l2 z0) z6 l2 (l2.length : Int) z0 a0_0 z3 = some r) ∧ Aside0 (kq ≤ zc3) ∧ Aside0 (w'.heap[z8]? = some (.cells #[.int .i64 a0_0,(.slice j2 z3.length c0_1)] 39 (0,0))) ∧ Aside0 (Below w.heap.size w w'))
             case atStart => exact ⟨(1),es_,H',⟨Nat.le_refl _⟩,⟨bk_ z1.out⟩,⟨hb_⟩⟩
             case round =>
              clear H';obtain ⟨z6,rfl,HA,HK4,z1,HB⟩:=hrel
              cases gk with
              | zero => exact absurd HA.out (by simp [spec_GoodPaths.l1])
              | succ k4 =>
               have H:=HA.out;clear HA;simp only [spec_GoodPaths.l1] at H;by_cases c31 : z6 < ((rd_L1 l2 z0).length : Int)
               ·rw [if_pos c31] at H
                have zd7 : decide (z6 < ((rd_L1 l2 z0).length : Int)) = true:=decide_eq_true c31;clear c31;obtain ⟨ji32,hji32⟩ : ∃ j_ : Int,(wrap64 (z6 - 1)) = j_:=⟨_,rfl⟩;(replace H : (if 0 ≤ (ji32) then (if (ji32) < ((rd_L1 l2 z0).length : Int) then ((spec_l20Next.f k4 a0_0 z3 (rd (rd_L1 l2 z0) (ji32))).bind fun z7 => (spec_GoodPaths.l2 k4 l1 l2 (rd_L1 l2 z0) z6 false l2 (l2.length : Int) z0 z7 (z7.length : Int) 0 a0_0 z3)) else (none)) else (none)) = some r:=by first | (rw [hji32] at H;exact H) | (simp only [hji32] at H ⊢;exact H));have hji32w : (IntKind.i64.wrap (z6 - 1)) = ji32:=(i64_w _).trans hji32;by_cases c33 : 0 ≤ (ji32)
                ·rw [if_pos c33] at H
                 have zg4 : decide (0 ≤ (ji32)) = true:=decide_eq_true c33;clear c33;by_cases c34 : (ji32) < ((rd_L1 l2 z0).length : Int)
                 ·rw [if_pos c34] at H
                  have zg5 : decide ((ji32) < ((rd_L1 l2 z0).length : Int)) = true:=decide_eq_true c34;clear c34;replace H:=Option.bind_eq_some_iff.mp H;obtain ⟨z7,zc4,H⟩:=H;replace H : (spec_GoodPaths.l2 k4 l1 l2 (rd_L1 l2 z0) z6 false l2 (l2.length : Int) z0 z7 (z7.length : Int) 0 a0_0 z3) = some r:=H;have A35:=Aside0.mk zc4;clear zc4;have H':=Aside0.mk H;clear H;(try go_wp2);replace z1:=ak (blk_drew z1.out);replace HB:=ak (below_drew1 HB.out);have zb6 : 0 ≤ ((ji32) : Int):=of_decide_eq_true as_;have zb7 : (ji32) < ((rd_L1 l2 z0).length : Int):=of_decide_eq_true as_;obtain ⟨zc0,e205,r6⟩:=Kd.at_int j6.out (ji32) zb6 zb7;have hw205_0:=r6;cases e205;replace r6:=hc_ HB r6;replace zb6:=eq_true zb6;replace zb7:=eq_true zb7;refine start_ (n:=9) (S:=fun w' => w'.cell? ⟨z8,0,none⟩ = some (.int .i64 a0_0) ∧ w'.cell? ⟨z8,1,none⟩ = some (.slice j2 z3.length c0_1) ∧ w'.cell? (zc0.add ((ji32)).toNat) = some (.int .i64 (rd (rd_L1 l2 z0) (ji32)))) (ds:=[]) (bm 9 0) (by kernel_rfl) rfl rfl ⟨(blk_cell z1.out 0).trans rfl,(blk_cell z1.out 1).trans rfl,((HB.out.cell (World.block_lt_of_cell? w _ hw205_0)).trans hw205_0)⟩ (fun hHeld => ?_);refine with_tabW spec_GoodPaths.tab12 spec_GoodPaths.bits12 (fun HT_ HW_ => ?_);generalize wr.drew = w36 at z1 HB r6 hHeld ⊢;refine pz 1 75 HT_ ?_;refine pz 2 76 HT_ ?_;refine pz 3 77 HT_ ?_;refine pz 4 78 HT_ ?_;refine pz 8 82 HT_ ?_;refine tz 0 74 rfl HT_ HW_ hHeld (by rintro w' ⟨s0,s1,s2⟩;go_simp;with_reducible rfl) ?_
                  refine tz 5 79 rfl HT_ HW_ hHeld (by rintro w' ⟨s0,s1,s2⟩;go_simp;with_reducible rfl) ?_
                  refine one_ (i:=6) (N:=some 80) (bm 9 383) rfl rfl (one_of HT_.out (by kernel_rfl)) (by decide) (fun K hK => ?_);refine goes_ Try.func57 (by kernel_rfl) rfl #[.agg #[.int .i64 a0_0,.slice j2 z3.length c0_1],.int .i64 (rd (rd_L1 l2 z0) (ji32))] (by rfl) rfl rfl (by (try simp only [List.map_toArray,List.map_cons,List.map_nil]);first | done | (simp only [hji32];rfl) | rfl | (simp only [List.length_drop,List.length_take];rfl)) ?_
                  with_reducible refine (spec_l20Next.calls k4 a0_0 _ _ z3 (rd (rd_L1 l2 z0) (ji32)) z7 _ ?j8 ?j9 A35.out).mono ?_
                  (case j8 => exact cb_ za4.out);(case j9 => exact za5.out);rintro e w37 ⟨zh1,rfl,ho0,hb⟩;refine ⟨_,rfl,?_⟩;have zc1:=ak (Kd.R_lower ho0 (below_size hb_));replace z1:=bb_ z1 hb;replace HB:=ak (below_step hb_ hb);obtain ⟨ze1,ze2,zc5⟩:=Kd.R_slice zc1.out;(first | subst zc5 | (injection zc5 with f1_ f2_ f3_;have f4_:=f1_.symm;have f5_:=f3_.symm;clear f1_ f2_ f3_;subst f4_;subst f5_));refine hK.out _ _ ⟨(blk_cell z1.out 0).trans rfl,(blk_cell z1.out 1).trans rfl,((HB.out.cell (World.block_lt_of_cell? w _ hw205_0)).trans hw205_0)⟩ (fun hHeld => ?_);clear hK K;refine nz 80 ?_;refine pz 7 81 HT_ ?_
                  refine done_ (done_of HT_.out (by kernel_rfl)) ?_;(try go_wp2)
                  go_loopg [10,82] k4 (fun kq v10 v82 w' => ∃ (m7 : Bool) (z4 : Int),v10 = .bool m7 ∧ v82 = .int .i64 z4 ∧ Aside0 (spec_GoodPaths.l2 kq l1 l2 (rd_L1 l2 z0) z6 m7 l2 (l2.length : Int) z0 z7 (z7.length : Int) z4 a0_0 z3 = some r) ∧ Aside0 (kq ≤ k4) ∧ Aside0 (Kd.R (Kd.int .i64) 3 w' w.heap.size (fun _ => True) (.slice ze1 z7.length ze2) z7) ∧ Aside0 (w'.heap[z8]? = some (.cells #[.int .i64 a0_0,(.slice j2 z3.length c0_1)] 39 (0,0))) ∧ Aside0 (Below w.heap.size w w'))
                  case atStart => exact ⟨(false),(0),es_,es_,H',⟨Nat.le_refl _⟩,⟨ra_ zc1.out⟩,⟨bk_ z1.out⟩,⟨hb_⟩⟩
                  case round =>
                   clear H';obtain ⟨m7,z4,rfl,rfl,HA,HK5,m9,z1,HB⟩:=hrel
                   cases gk with
                   | zero => exact absurd HA.out (by simp [spec_GoodPaths.l2])
                   | succ k5 =>
                    have H:=HA.out;clear HA;simp only [spec_GoodPaths.l2] at H;by_cases c39 : z4 < (z7.length : Int)
                    ·rw [if_pos c39] at H
                     have zd8 : decide (z4 < (z7.length : Int)) = true:=decide_eq_true c39;clear c39;by_cases c40 : 0 ≤ z4
                     ·rw [if_pos c40] at H
                      have zg6 : decide (0 ≤ z4) = true:=decide_eq_true c40;clear c40;by_cases c41 : z4 < (z7.length : Int)
                      ·rw [if_pos c41] at H
                       have zg7 : decide (z4 < (z7.length : Int)) = true:=decide_eq_true c41;clear c41;by_cases c42 : m7 = true
                       ·subst c42
                        rw [if_pos rfl] at H;have H':=Aside0.mk H;clear H;have m1 : 0 ≤ (z4 : Int):=of_decide_eq_true as_;have m2 : z4 < (z7.length : Int):=of_decide_eq_true as_;obtain ⟨zd9,e209,zc2⟩:=Kd.at_int (Kd.R_reads' m9.out).2.2 z4 m1 m2;cases e209;replace m1:=eq_true m1;replace m2:=eq_true m2;go_wp2;go_roundg k5
                        case measure => have:=HJ3.out;have:=HK2.out;have:=r1.out;have:=HK4.out;have:=HK5.out;omega
                        case rel => exact ⟨(true),(wrap64 (z4 + 1)),es_,es_,H',⟨by have:=HJ3.out;have:=HK2.out;have:=r1.out;have:=HK4.out;have:=HK5.out;omega⟩,⟨ra_ m9.out⟩,⟨bk_ z1.out⟩,⟨hb_⟩⟩
                       ·replace c42:=Bool.eq_false_iff.mpr c42
                        subst c42;rw [if_neg (show ¬ (false = true) by decide)] at H;by_cases c43 : 0 ≤ z6
                        ·rw [if_pos c43] at H
                         have zg8 : decide (0 ≤ z6) = true:=decide_eq_true c43;clear c43;by_cases c44 : z6 < ((rd_L1 l2 z0).length : Int)
                         ·rw [if_pos c44] at H
                          have zg9 : decide (z6 < ((rd_L1 l2 z0).length : Int)) = true:=decide_eq_true c44;clear c44;have H':=Aside0.mk H;clear H;have m1 : 0 ≤ (z4 : Int):=of_decide_eq_true as_;have m2 : z4 < (z7.length : Int):=of_decide_eq_true as_;obtain ⟨zd9,e209,zc2⟩:=Kd.at_int (Kd.R_reads' m9.out).2.2 z4 m1 m2;cases e209;replace m1:=eq_true m1;replace m2:=eq_true m2;have zb8 : 0 ≤ (z6 : Int):=of_decide_eq_true as_;have zb9 : z6 < ((rd_L1 l2 z0).length : Int):=of_decide_eq_true as_;obtain ⟨ze0,e210,za3⟩:=Kd.at_int j6.out z6 zb8 zb9
                          obtain rfl : zc0 = ze0:=(by injection e210)
                          replace za3:=hc_ HB za3;replace zb8:=eq_true zb8;replace zb9:=eq_true zb9;go_wp2;go_roundg k5
                          case measure => have:=HJ3.out;have:=HK2.out;have:=r1.out;have:=HK4.out;have:=HK5.out;omega
                          case rel => exact ⟨(((rd z7 z4) == (rd (rd_L1 l2 z0) z6))),(wrap64 (z4 + 1)),es_,es_,H',⟨by have:=HJ3.out;have:=HK2.out;have:=r1.out;have:=HK4.out;have:=HK5.out;omega⟩,⟨ra_ m9.out⟩,⟨bk_ z1.out⟩,⟨hb_⟩⟩
                         ·rw [if_neg c44] at H
                          exact absurd H (by simp)
                        ·rw [if_neg c43] at H
                         exact absurd H (by simp)
                      ·rw [if_neg c41] at H
                       exact absurd H (by simp)
                     ·rw [if_neg c40] at H
                      exact absurd H (by simp)
                    ·rw [if_neg c39] at H
                     have zd8 : decide (z4 < (z7.length : Int)) = false:=decide_eq_false c39;clear c39;by_cases c45 : m7 = true
                     ·subst c45
                      rw [if_pos rfl] at H;have H':=Aside0.mk H;clear H;go_wp2;go_roundg k5
                      case measure => have:=HJ3.out;have:=HK2.out;have:=r1.out;have:=HK4.out;have:=HK5.out;omega
                      case rel => exact ⟨(wrap64 (z6 + 1)),es_,H',⟨by have:=HJ3.out;have:=HK2.out;have:=r1.out;have:=HK4.out;have:=HK5.out;omega⟩,⟨bk_ z1.out⟩,⟨hb_⟩⟩
                     ·replace c45:=Bool.eq_false_iff.mpr c45
                      subst c45;rw [if_neg (show ¬ (false = true) by decide)] at H
                      obtain rfl:=Option.some.inj H
                      go_wp2;go_ret;exact ⟨by first | rfl | (simp [errW_none,errW_some] <;> rfl) | (simp only [← hji32];first | rfl | (simp [errW_none,errW_some] <;> rfl)) | (simp [*,errW_none,errW_some] <;> rfl),hb_⟩
                 ·rw [if_neg c34] at H
                  exact absurd H (by simp)
                ·rw [if_neg c33] at H
                 exact absurd H (by simp)
               ·rw [if_neg c31] at H
                have zd7 : decide (z6 < ((rd_L1 l2 z0).length : Int)) = false:=decide_eq_false c31;clear c31;have H':=Aside0.mk H;clear H;go_wp2;go_roundg k4
                case measure => have:=HJ3.out;have:=HK2.out;have:=r1.out;have:=HK4.out;omega
                case rel => exact ⟨(wrap64 (z0 + 1)),es_,H',⟨by have:=HJ3.out;have:=HK2.out;have:=r1.out;have:=HK4.out;omega⟩,⟨bk_ z1.out⟩,⟨hb_⟩⟩
         ·rw [if_neg c15] at H
          exact absurd H (by simp)
        ·rw [if_neg c14] at H
         exact absurd H (by simp)
       ·rw [if_neg c13] at H
        have zc8 : decide (z0 < (l2.length : Int)) = false:=decide_eq_false c13;clear c13;replace H:=Option.bind_eq_some_iff.mp H;obtain ⟨zc6,zc7,H⟩:=H;replace H : (some (decide (zc6 < 0))) = some r:=H;have A46:=Aside0.mk zc7;clear zc7
        obtain rfl:=Option.some.inj H
        go_wp2_with (first | ((with_reducible refine gate_callee (f:=19) rfl ?_);refine goesL_ (some 100) rfl rfl Try.func19 (by kernel_rfl) rfl #[.slice A2 l2.length c2] rfl ls_ ?_;(with_reducible refine (spec_FirstMeet.calls k2 _ _ l2 zc6 _ ?j8 ?j9 A46.out).mono ?_);(case j8 => exact cb_ HR2.out);(case j9 => exact HC2.out);rintro e w' ⟨rfl,⟨nd,rfl⟩⟩;refine ⟨_,rfl,?_⟩));go_ret;exact ⟨er_,hb_⟩

end Go.Proofs.Ytcldlljnaijmhaa.Pr
