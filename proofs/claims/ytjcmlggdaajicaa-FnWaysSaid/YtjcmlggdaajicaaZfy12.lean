-- Joined and pruned by wip/tools/prune.py out of this session's own texts (Pr26, Pr6)
import Derived.Test.YtjcmlggdaajicaaZfy11
namespace Go.Proofs.Ytjcmlggdaajicaa.Pr
open Go.RowKit Go.Proofs.YtjcmlggdaajicaaW.PrintWords Go.Proofs.YtjcmlggdaajicaaW.PrintLast Go.Proofs.YtjcmlggdaajicaaW.PrintMore
attribute [local go_sem] max2_int min2_int max_two min_two max_three min_three max_four min_four
set_option linter.unusedVariables false
set_option linter.unusedSimpArgs false

def impl_PulledWay.T6 : Bool × List (List Nat × List Nat):=(true,[([],[]),([],[]),([0,1],[0,1]),([2],[2]),([3,2],[3]),([4],[4]),([5,4],[4,5]),([6,4,4],[4,6]),([7],[7]),([7],[7]),([7],[7]),([10,7],[7,10]),([9,11,7],[7,9,11]),([12,7],[7,12]),([7],[7]),([8,13,14,7,7],[7,8,13,14]),([15,7],[7,15]),([7,16,4],[4,7,16]),([4,17],[4,17])])
def impl_PulledWay.B6 : List Nat:=[0,0,3,7,15,31,63,127,255,255,255,1279,3839,7935,255,32767,65535,131071,262143]
theorem impl_PulledWay.tab6 : rtab .any (opsOf Try.f25 6) = impl_PulledWay.T6:=by kernel_rfl
theorem impl_PulledWay.bits6 : waitsOk impl_PulledWay.T6.2 impl_PulledWay.B6 = true:=by kernel_rfl
def impl_PulledWay.T13 : Bool × List (List Nat × List Nat):=(true,[([],[]),([],[]),([],[]),([1,2],[1,2]),([3],[3]),([],[]),([],[]),([5,6],[5,6]),([7],[7]),([0,4,8],[0,4,8]),([9],[9])])
def impl_PulledWay.B13 : List Nat:=[0,0,0,6,14,0,0,96,224,511,1023]
theorem impl_PulledWay.tab13 : rtab .any (opsOf Try.f25 13) = impl_PulledWay.T13:=by kernel_rfl
theorem impl_PulledWay.bits13 : waitsOk impl_PulledWay.T13.2 impl_PulledWay.B13 = true:=by kernel_rfl
set_option maxHeartbeats 8000000 in
set_option maxRecDepth 100000 in
theorem impl_PulledWay.calls (k : Nat) (a0_0 : Int) (z5 : Option Addr) (c0_1 : Nat) (z2 : List Int) (A1 : Option Addr) (c1 : Nat) (l1 : List Int) (r1 : List Int) (r2 : Bool) (w : World) (hr0_1 : Kd.C (Kd.int .i64) w z5 z2.length z2) (hc0_1 : z2.length ≤ c0_1) (hr1 : Kd.C (Kd.int .i64) w A1 l1.length l1) (hc1 : l1.length ≤ c1) (h : impl_PulledWay.f k a0_0 z2 l1 = some (r1,r2)) :
   Calls Try.prog 25 #[.agg #[.int .i64 a0_0,.slice z5 z2.length c0_1],.slice A1 l1.length c1] w fun e w' => ∃ v0_ : Value,e = .returned (.tuple #[v0_,.bool r2]) ∧ Kd.R (Kd.int .i64) 3 w' w.heap.size (fun _ => True) v0_ r1 ∧ Below w.heap.size w w':=by
  have ze6:=Try.underlying27;have j6:=ak hr0_1;have j7:=ak hc0_1;clear hr0_1 hc0_1;have HR1:=ak hr1;have HC1:=ak hc1;clear hr1 hc1;have HB:=ak (Below.refl w.heap.size w);have H : ((impl_GoodCells.f k a0_0 z2).bind fun m7 => (if m7 = true then (if (l1.length : Int) < 1 then (impl_PulledWay.j0 k l1 true a0_0 z2) else (impl_PulledWay.j0 k l1 (decide ((l1.length : Int) > 256)) a0_0 z2)) else (impl_PulledWay.j0 k l1 true a0_0 z2))) = some (r1,r2):=h;clear h;have HC3:=ak H;clear H;go_enter Try.func25,Try.ntmps25
  go_upto_region 1 with (first | ((with_reducible refine gate_dst (N:=2) rfl ?_);(try (refine gate_guard (by rfl) ?_;dsimp only));refine box_event ?hg (N:=2) ?hd (cs:=#[.int .i64 a0_0,.slice z5 z2.length c0_1]) (t:=27) ?hr ?_;(case hd => rfl);(case hg => rfl);(case hr => first | (go_simp;done) | (go_simp;rfl));intro z4 hg w4 hbox hb;have z0:=ak (hbox);have zd4 : Aside0 (w.heap.size ≤ z4):=gz_;have zd5 : Aside0 (w.heap.size ≤ z4):=gz_;replace HB:=bq_ hb;clear hb hbox hg))
  (try simp only [Act.put,aS,aZ,aN])
  go_cut [23] (fun v23 wc => ∃ (kq : Nat) (m3 : Bool),v23 = .bool m3 ∧ Aside0 (impl_PulledWay.j0 kq l1 m3 a0_0 z2 = some (r1,r2)) ∧ Aside0 (kq ≤ k) ∧ Aside0 (wc.heap[z4]? = some (.cells #[.int .i64 a0_0,(.slice z5 z2.length c0_1)] 27 (0,0))) ∧ Aside0 (Below w.heap.size w wc))
  case first =>
   have H:=HC3.out;clear HC3;replace H:=Option.bind_eq_some_iff.mp H;obtain ⟨m7,A50,H⟩:=H;replace H : (if m7 = true then (if (l1.length : Int) < 1 then (impl_PulledWay.j0 k l1 true a0_0 z2) else (impl_PulledWay.j0 k l1 (decide ((l1.length : Int) > 256)) a0_0 z2)) else (impl_PulledWay.j0 k l1 true a0_0 z2)) = some (r1,r2):=H;have A5:=ak A50;clear A50;by_cases c6 : m7 = true
   ·subst c6
    rw [if_pos rfl] at H;by_cases c7 : (l1.length : Int) < 1
    ·rw [if_pos c7] at H
     have m4 : decide ((l1.length : Int) < 1) = true:=dt_ c7;have zc1 : decide (l1.length < 1) = true:=dt_ (by omega);clear c7;(first | rw [m4] | (simp only [i64_w,i32_w];rw [m4]) | skip);have H':=ak H;clear H;have zd0:=b20 z0;have zd1:=b21 z0;have zd2:=bf_ z0 0;have zd3:=bf_ z0 1;go_wp2_with (first | ((with_reducible refine gate_callee (f:=40) rfl ?_);refine goesL_ (some 12) rfl rfl Try.func40 (by kernel_rfl) rfl #[.agg #[.int .i64 a0_0,.slice z5 z2.length c0_1]] rfl ls_ ?_;(with_reducible refine (impl_GoodCells.calls k a0_0 _ _ z2 true _ ?z6 ?z7 A5.out).mono ?_);(case z6 => exact cb_ j6.out);(case z7 => exact j7.out);rintro e w9 ⟨rfl,hb⟩;refine ⟨_,rfl,?_⟩;replace z0:=bb_ z0 hb;replace HB:=bq_ hb;(try clear hb);(try clear hb2);(try clear hk);(try clear hi)));go_meet
     case rel => exact ⟨_,(true),es_,H',⟨by first | omega | exact Nat.le_refl _⟩,⟨bk_ z0.out⟩,⟨hb_⟩⟩
    ·rw [if_neg c7] at H
     have m4 : decide ((l1.length : Int) < 1) = false:=df_ c7;have zc1 : decide (l1.length < 1) = false:=df_ (by omega);clear c7;(first | rw [m4] | (simp only [i64_w,i32_w];rw [m4]) | skip);have H':=ak H;clear H;have zc2:=b20 z0;have zc3:=b21 z0;have zc4:=bf_ z0 0;have zc5:=bf_ z0 1;go_wp2_with (first | ((with_reducible refine gate_callee (f:=40) rfl ?_);refine goesL_ (some 12) rfl rfl Try.func40 (by kernel_rfl) rfl #[.agg #[.int .i64 a0_0,.slice z5 z2.length c0_1]] rfl ls_ ?_;(with_reducible refine (impl_GoodCells.calls k a0_0 _ _ z2 true _ ?z6 ?z7 A5.out).mono ?_);(case z6 => exact cb_ j6.out);(case z7 => exact j7.out);rintro e w11 ⟨rfl,hb⟩;refine ⟨_,rfl,?_⟩;replace z0:=bb_ z0 hb;replace HB:=bq_ hb;(try clear hb);(try clear hb2);(try clear hk);(try clear hi)));go_meet
     case rel => exact ⟨_,(decide ((l1.length : Int) > 256)),es_,H',⟨by first | omega | exact Nat.le_refl _⟩,⟨bk_ z0.out⟩,⟨hb_⟩⟩
   ·replace c6:=Bool.eq_false_iff.mpr c6
    subst c6;rw [if_neg (show ¬ (false = true) by decide)] at H;have H':=ak H;clear H;have zc6:=b20 z0;have zc7:=b21 z0;have zc8:=bf_ z0 0;have zc9:=bf_ z0 1;go_wp2_with (first | ((with_reducible refine gate_callee (f:=40) rfl ?_);refine goesL_ (some 12) rfl rfl Try.func40 (by kernel_rfl) rfl #[.agg #[.int .i64 a0_0,.slice z5 z2.length c0_1]] rfl ls_ ?_;(with_reducible refine (impl_GoodCells.calls k a0_0 _ _ z2 false _ ?z6 ?z7 A5.out).mono ?_);(case z6 => exact cb_ j6.out);(case z7 => exact j7.out);rintro e w13 ⟨rfl,hb⟩;refine ⟨_,rfl,?_⟩;replace z0:=bb_ z0 hb;replace HB:=bq_ hb;(try clear hb);(try clear hb2);(try clear hk);(try clear hi)));go_meet
    case rel => exact ⟨_,(true),es_,H',⟨by first | omega | exact Nat.le_refl _⟩,⟨bk_ z0.out⟩,⟨hb_⟩⟩
  case rest =>
   clear HC3;obtain ⟨kq,m3,rfl,HA,HJ2,z0,HB⟩:=hcut
   cases kq with
   | zero => exact absurd HA.out (by simp [impl_PulledWay.j0])
   | succ kj2 =>
    have H:=HA.out;clear HA;simp only [impl_PulledWay.j0] at H;by_cases c14 : m3 = true
    ·subst c14
     rw [if_pos rfl] at H;simp only [Option.some.injEq,Prod.mk.injEq] at H;obtain ⟨rfl,rfl⟩:=H;go_wp2
     go_ret2
     exact ⟨_,er_,by first | exact Kd.R_nil _ _ _ _ _ | exact Kd.N_nil _ _ _ _ _ | exact Kd.V_nil _ _ _ _ _ | exact Kd.Q_nil _ _ _ _ _ | exact Kd.S_nil _ _ _ _ _,hb_⟩
    ·replace c14:=Bool.eq_false_iff.mpr c14
     subst c14;rw [if_neg (show ¬ (false = true) by decide)] at H;have H':=ak H;clear H;go_wp2
     go_loopg [26] kj2 (fun kq v26 w' => ∃ (z1 : Int),v26 = .int .i64 z1 ∧ Aside0 (impl_PulledWay.l0 kq l1 l1 (l1.length : Int) z1 a0_0 z2 = some (r1,r2)) ∧ Aside0 (kq ≤ kj2) ∧ Aside0 (w'.heap[z4]? = some (.cells #[.int .i64 a0_0,(.slice z5 z2.length c0_1)] 27 (0,0))) ∧ Aside0 (Below w.heap.size w w'))
     case atStart => exact ⟨(0),es_,H',⟨Nat.le_refl _⟩,⟨bk_ z0.out⟩,⟨hb_⟩⟩
     case round =>
      clear H';obtain ⟨z1,rfl,HA,HK2,z0,HB⟩:=hrel
      cases gk with
      | zero => exact absurd HA.out (by simp [impl_PulledWay.l0])
      | succ k2 =>
       have H:=HA.out;clear HA;simp only [impl_PulledWay.l0] at H;by_cases c15 : z1 < (l1.length : Int)
       ·rw [if_pos c15] at H
        have zb3 : decide (z1 < (l1.length : Int)) = true:=dt_ c15;clear c15;by_cases c16 : 0 ≤ z1
        ·rw [if_pos c16] at H
         have zd6 : decide (0 ≤ z1) = true:=dt_ c16;clear c16;by_cases c17 : z1 < (l1.length : Int)
         ·rw [if_pos c17] at H
          have zd7 : decide (z1 < (l1.length : Int)) = true:=dt_ c17;clear c17;replace H:=Option.bind_eq_some_iff.mp H;obtain ⟨za6,za7,H⟩:=H;replace H : (if za6 = true then (if z1 > 0 then (if 0 ≤ (wrap64 (z1 - 1)) then (if (wrap64 (z1 - 1)) < (l1.length : Int) then ((impl_Cells_clear.f a0_0 z2 (rd l1 (wrap64 (z1 - 1))) (rd l1 z1)).bind fun m2 => (if m2 = true then (impl_PulledWay.l0 k2 l1 l1 (l1.length : Int) (wrap64 (z1 + 1)) a0_0 z2) else (some (([] : List Int),false)))) else (none)) else (none)) else (impl_PulledWay.l0 k2 l1 l1 (l1.length : Int) (wrap64 (z1 + 1)) a0_0 z2)) else (some (([] : List Int),false))) = some (r1,r2):=H;have A18:=ak za7;clear za7;by_cases c19 : za6 = true
          ·subst c19
           rw [if_pos rfl] at H;by_cases c20 : z1 > 0
           ·rw [if_pos c20] at H
            have zb4 : decide (0 < z1) = true:=dt_ c20;clear c20;obtain ⟨ji21,hji21⟩ : ∃ j_ : Int,(wrap64 (z1 - 1)) = j_:=⟨_,rfl⟩;(replace H : (if 0 ≤ (ji21) then (if (ji21) < (l1.length : Int) then ((impl_Cells_clear.f a0_0 z2 (rd l1 (ji21)) (rd l1 z1)).bind fun m2 => (if m2 = true then (impl_PulledWay.l0 k2 l1 l1 (l1.length : Int) (wrap64 (z1 + 1)) a0_0 z2) else (some (([] : List Int),false)))) else (none)) else (none)) = some (r1,r2):=by first | (rw [hji21] at H;exact H) | (simp only [hji21] at H ⊢;exact H));(try rw [hji21] at A18);have hji21w : (IntKind.i64.wrap (z1 - 1)) = ji21:=(i64_w _).trans hji21;by_cases c22 : 0 ≤ (ji21)
            ·rw [if_pos c22] at H
             have zd8 : decide (0 ≤ (ji21)) = true:=dt_ c22;clear c22;by_cases c23 : (ji21) < (l1.length : Int)
             ·rw [if_pos c23] at H
              have zd9 : decide ((ji21) < (l1.length : Int)) = true:=dt_ c23;clear c23;replace H:=Option.bind_eq_some_iff.mp H;obtain ⟨m2,za8,H⟩:=H;replace H : (if m2 = true then (impl_PulledWay.l0 k2 l1 l1 (l1.length : Int) (wrap64 (z1 + 1)) a0_0 z2) else (some (([] : List Int),false))) = some (r1,r2):=H;have A24:=ak za8;clear za8;by_cases c25 : m2 = true
              ·subst c25
               rw [if_pos rfl] at H;have H':=ak H;clear H;have j4 : 0 ≤ (z1 : Int):=od_;have j5 : z1 < (l1.length : Int):=od_;obtain ⟨r0,e543,z9⟩:=Kd.at_int HR1.out z1 j4 j5;cases e543;replace z9:=hc_ HB z9;replace j4:=eq_true j4;replace j5:=eq_true j5;(try go_wp2);replace z0:=ak (blk_drew z0.out);replace HB:=ak (below_drew1 HB.out);have r4 : 0 ≤ ((ji21) : Int):=od_;have r5 : (ji21) < (l1.length : Int):=od_;obtain ⟨m8,e545,j1⟩:=Kd.at_int HR1.out (ji21) r4 r5;have hw545_0:=j1
               obtain rfl : r0 = m8:=(by injection e545)
               replace j1:=hc_ HB j1;replace r4:=eq_true r4;replace r5:=eq_true r5;refine start_ (n:=19) (S:=fun w' => w'.cell? ⟨z4,0,none⟩ = some (.int .i64 a0_0) ∧ w'.cell? ⟨z4,1,none⟩ = some (.slice z5 z2.length c0_1) ∧ w'.cell? (r0.add ((ji21)).toNat) = some (.int .i64 (rd l1 (ji21)))) (ds:=[]) (bm 19 0) (by kernel_rfl) rfl rfl ⟨(blk_cell z0.out 0).trans rfl,(blk_cell z0.out 1).trans rfl,((HB.out.cell (World.block_lt_of_cell? w _ hw545_0)).trans hw545_0)⟩ (fun hHeld => ?_);refine with_tabW impl_PulledWay.tab6 impl_PulledWay.bits6 (fun HT_ HW_ => ?_);generalize wr.drew = w26 at z0 HB j1 hHeld ⊢;refine pz 1 32 HT_ ?_;refine tz 0 31 rfl HT_ HW_ hHeld (by rintro w' ⟨s0,s1,s2⟩;go_simp;with_reducible rfl) ?_
               refine one_ (i:=2) (N:=some 33) (bm 19 7) rfl rfl (one_of HT_.out (by kernel_rfl)) (by decide) (fun K hK => ?_);refine goes_ Try.func41 (by kernel_rfl) rfl #[.agg #[.int .i64 a0_0,.slice z5 z2.length c0_1],.int .i64 (rd l1 z1)] (by rfl) rfl rfl ls_ ?_
               with_reducible refine (impl_Cells_free.calls a0_0 _ _ z2 (rd l1 z1) true _ ?z6 ?z7 A18.out).mono ?_
               (case z6 => exact cb_ j6.out);(case z7 => exact j7.out);rintro e w27 ⟨rfl,hb⟩;refine ⟨_,rfl,?_⟩;replace z0:=bb_ z0 hb;replace HB:=bq_ hb;refine hK.out _ _ ⟨(blk_cell z0.out 0).trans rfl,(blk_cell z0.out 1).trans rfl,((HB.out.cell (World.block_lt_of_cell? w _ hw545_0)).trans hw545_0)⟩ (fun hHeld => ?_);clear hK K;refine nz 33 ?_;refine pz 3 34 HT_ ?_;refine pz 4 35 HT_ ?_;refine pz 5 36 HT_ ?_;refine pz 6 37 HT_ ?_;refine pz 7 38 HT_ ?_;refine pz 9 40 HT_ ?_;refine pz 10 41 HT_ ?_;refine pz 11 42 HT_ ?_;refine pz 12 43 HT_ ?_;refine pz 14 45 HT_ ?_;refine tz 8 39 rfl HT_ HW_ hHeld (by rintro w' ⟨s0,s1,s2⟩;go_simp;with_reducible rfl) ?_
               refine tz 13 44 rfl HT_ HW_ hHeld (by rintro w' ⟨s0,s1,s2⟩;go_simp;with_reducible rfl) ?_
               refine one_ (i:=15) (N:=some 46) (bm 19 65535) rfl rfl (one_of HT_.out (by kernel_rfl)) (by decide) (fun K hK => ?_);refine goes_ Try.func42 (by kernel_rfl) rfl #[.agg #[.int .i64 a0_0,.slice z5 z2.length c0_1],.int .i64 (rd l1 (ji21)),.int .i64 (rd l1 z1)] (by rfl) rfl rfl (by (try simp only [List.map_toArray,List.map_cons,List.map_nil]);first | done | (simp only [hji21];rfl) | rfl | (simp only [List.length_drop,List.length_take];rfl)) ?_
               with_reducible refine (impl_Cells_clear.calls a0_0 _ _ z2 (rd l1 (ji21)) (rd l1 z1) true _ ?z6 ?z7 A24.out).mono ?_
               (case z6 => exact cb_ j6.out);(case z7 => exact j7.out);rintro e w28 ⟨rfl,hb⟩;refine ⟨_,rfl,?_⟩;replace z0:=bb_ z0 hb;replace HB:=bq_ hb;refine hK.out _ _ ⟨(blk_cell z0.out 0).trans rfl,(blk_cell z0.out 1).trans rfl,((HB.out.cell (World.block_lt_of_cell? w _ hw545_0)).trans hw545_0)⟩ (fun hHeld => ?_);clear hK K;refine nz 46 ?_;refine pz 16 47 HT_ ?_;refine pz 17 48 HT_ ?_;refine pz 18 49 HT_ ?_
               refine done_ (done_of HT_.out (by kernel_rfl)) ?_;(try go_wp2);go_roundg k2
               case measure => have:=HJ2.out;have:=HK2.out;omega
               case rel => exact ⟨(wrap64 (z1 + 1)),es_,H',⟨by have:=HJ2.out;have:=HK2.out;omega⟩,⟨bk_ z0.out⟩,⟨hb_⟩⟩
              ·replace c25:=Bool.eq_false_iff.mpr c25
               subst c25;rw [if_neg (show ¬ (false = true) by decide)] at H;simp only [Option.some.injEq,Prod.mk.injEq] at H;obtain ⟨rfl,rfl⟩:=H;have j4 : 0 ≤ (z1 : Int):=od_;have j5 : z1 < (l1.length : Int):=od_;obtain ⟨r0,e543,z9⟩:=Kd.at_int HR1.out z1 j4 j5;cases e543;replace z9:=hc_ HB z9;replace j4:=eq_true j4;replace j5:=eq_true j5;(try go_wp2);replace z0:=ak (blk_drew z0.out);replace HB:=ak (below_drew1 HB.out);have r4 : 0 ≤ ((ji21) : Int):=od_;have r5 : (ji21) < (l1.length : Int):=od_;obtain ⟨m8,e545,j1⟩:=Kd.at_int HR1.out (ji21) r4 r5;have hw545_0:=j1
               obtain rfl : r0 = m8:=(by injection e545)
               replace j1:=hc_ HB j1;replace r4:=eq_true r4;replace r5:=eq_true r5;refine start_ (n:=19) (S:=fun w' => w'.cell? ⟨z4,0,none⟩ = some (.int .i64 a0_0) ∧ w'.cell? ⟨z4,1,none⟩ = some (.slice z5 z2.length c0_1) ∧ w'.cell? (r0.add ((ji21)).toNat) = some (.int .i64 (rd l1 (ji21)))) (ds:=[]) (bm 19 0) (by kernel_rfl) rfl rfl ⟨(blk_cell z0.out 0).trans rfl,(blk_cell z0.out 1).trans rfl,((HB.out.cell (World.block_lt_of_cell? w _ hw545_0)).trans hw545_0)⟩ (fun hHeld => ?_);refine with_tabW impl_PulledWay.tab6 impl_PulledWay.bits6 (fun HT_ HW_ => ?_);generalize wr.drew = w29 at z0 HB j1 hHeld ⊢;refine pz 1 32 HT_ ?_;refine tz 0 31 rfl HT_ HW_ hHeld (by rintro w' ⟨s0,s1,s2⟩;go_simp;with_reducible rfl) ?_
               refine one_ (i:=2) (N:=some 33) (bm 19 7) rfl rfl (one_of HT_.out (by kernel_rfl)) (by decide) (fun K hK => ?_);refine goes_ Try.func41 (by kernel_rfl) rfl #[.agg #[.int .i64 a0_0,.slice z5 z2.length c0_1],.int .i64 (rd l1 z1)] (by rfl) rfl rfl ls_ ?_
               with_reducible refine (impl_Cells_free.calls a0_0 _ _ z2 (rd l1 z1) true _ ?z6 ?z7 A18.out).mono ?_
               (case z6 => exact cb_ j6.out);(case z7 => exact j7.out);rintro e w30 ⟨rfl,hb⟩;refine ⟨_,rfl,?_⟩;replace z0:=bb_ z0 hb;replace HB:=bq_ hb;refine hK.out _ _ ⟨(blk_cell z0.out 0).trans rfl,(blk_cell z0.out 1).trans rfl,((HB.out.cell (World.block_lt_of_cell? w _ hw545_0)).trans hw545_0)⟩ (fun hHeld => ?_);clear hK K;refine nz 33 ?_;refine pz 3 34 HT_ ?_;refine pz 4 35 HT_ ?_;refine pz 5 36 HT_ ?_;refine pz 6 37 HT_ ?_;refine pz 7 38 HT_ ?_;refine pz 9 40 HT_ ?_;refine pz 10 41 HT_ ?_;refine pz 11 42 HT_ ?_;refine pz 12 43 HT_ ?_;refine pz 14 45 HT_ ?_;refine tz 8 39 rfl HT_ HW_ hHeld (by rintro w' ⟨s0,s1,s2⟩;go_simp;with_reducible rfl) ?_
               refine tz 13 44 rfl HT_ HW_ hHeld (by rintro w' ⟨s0,s1,s2⟩;go_simp;with_reducible rfl) ?_
               refine one_ (i:=15) (N:=some 46) (bm 19 65535) rfl rfl (one_of HT_.out (by kernel_rfl)) (by decide) (fun K hK => ?_);refine goes_ Try.func42 (by kernel_rfl) rfl #[.agg #[.int .i64 a0_0,.slice z5 z2.length c0_1],.int .i64 (rd l1 (ji21)),.int .i64 (rd l1 z1)] (by rfl) rfl rfl (by (try simp only [List.map_toArray,List.map_cons,List.map_nil]);first | done | (simp only [hji21];rfl) | rfl | (simp only [List.length_drop,List.length_take];rfl)) ?_
               with_reducible refine (impl_Cells_clear.calls a0_0 _ _ z2 (rd l1 (ji21)) (rd l1 z1) false _ ?z6 ?z7 A24.out).mono ?_
               (case z6 => exact cb_ j6.out);(case z7 => exact j7.out);rintro e w31 ⟨rfl,hb⟩;refine ⟨_,rfl,?_⟩;replace z0:=bb_ z0 hb;replace HB:=bq_ hb;refine hK.out _ _ ⟨(blk_cell z0.out 0).trans rfl,(blk_cell z0.out 1).trans rfl,((HB.out.cell (World.block_lt_of_cell? w _ hw545_0)).trans hw545_0)⟩ (fun hHeld => ?_);clear hK K;refine nz 46 ?_;refine pz 16 47 HT_ ?_;refine pz 17 48 HT_ ?_;refine pz 18 49 HT_ ?_
               refine done_ (done_of HT_.out (by kernel_rfl)) ?_;(try go_wp2)
               go_ret2
               exact ⟨_,by first | rfl | (simp [errW_none,errW_some] <;> rfl) | (simp only [← hji21];first | rfl | (simp [errW_none,errW_some] <;> rfl)) | (simp [*,errW_none,errW_some] <;> rfl),by first | exact Kd.R_nil _ _ _ _ _ | exact Kd.N_nil _ _ _ _ _ | exact Kd.V_nil _ _ _ _ _ | exact Kd.Q_nil _ _ _ _ _ | exact Kd.S_nil _ _ _ _ _,hb_⟩
             ·rw [if_neg c23] at H
              exact absurd H (by simp)
            ·rw [if_neg c22] at H
             exact absurd H (by simp)
           ·rw [if_neg c20] at H
            have zb4 : decide (0 < z1) = false:=df_ c20;clear c20;have H':=ak H;clear H;have j4 : 0 ≤ (z1 : Int):=od_;have j5 : z1 < (l1.length : Int):=od_;obtain ⟨r0,e543,z9⟩:=Kd.at_int HR1.out z1 j4 j5;cases e543;replace z9:=hc_ HB z9;replace j4:=eq_true j4;replace j5:=eq_true j5;(try go_wp2);replace z0:=ak (blk_drew z0.out);replace HB:=ak (below_drew1 HB.out);refine start_ (n:=19) (S:=fun w' => w'.cell? ⟨z4,0,none⟩ = some (.int .i64 a0_0) ∧ w'.cell? ⟨z4,1,none⟩ = some (.slice z5 z2.length c0_1)) (ds:=[]) (bm 19 0) (by kernel_rfl) rfl rfl ⟨(blk_cell z0.out 0).trans rfl,(blk_cell z0.out 1).trans rfl⟩ (fun hHeld => ?_);refine with_tabW impl_PulledWay.tab6 impl_PulledWay.bits6 (fun HT_ HW_ => ?_);generalize wr.drew = w32 at z0 HB hHeld ⊢;refine pz 1 32 HT_ ?_;refine tz 0 31 rfl HT_ HW_ hHeld (by rintro w' ⟨s0,s1⟩;go_simp;with_reducible rfl) ?_
            refine one_ (i:=2) (N:=some 33) (bm 19 7) rfl rfl (one_of HT_.out (by kernel_rfl)) (by decide) (fun K hK => ?_);refine goes_ Try.func41 (by kernel_rfl) rfl #[.agg #[.int .i64 a0_0,.slice z5 z2.length c0_1],.int .i64 (rd l1 z1)] (by rfl) rfl rfl ls_ ?_
            with_reducible refine (impl_Cells_free.calls a0_0 _ _ z2 (rd l1 z1) true _ ?z6 ?z7 A18.out).mono ?_
            (case z6 => exact cb_ j6.out);(case z7 => exact j7.out);rintro e w33 ⟨rfl,hb⟩;refine ⟨_,rfl,?_⟩;replace z0:=bb_ z0 hb;replace HB:=bq_ hb;refine hK.out _ _ ⟨(blk_cell z0.out 0).trans rfl,(blk_cell z0.out 1).trans rfl⟩ (fun hHeld => ?_);clear hK K;refine nz 33 ?_;refine pz 3 34 HT_ ?_;refine pz 4 35 HT_ ?_;refine pz 5 36 HT_ ?_;refine pz 6 37 HT_ ?_;refine pz 7 38 HT_ ?_;refine pu 8 39 HT_ ?_;refine pu 9 40 HT_ ?_;refine pu 10 41 HT_ ?_;refine pu 11 42 HT_ ?_;refine pu 12 43 HT_ ?_;refine pu 13 44 HT_ ?_;refine pu 14 45 HT_ ?_;refine pu 15 46 HT_ ?_;refine pu 16 47 HT_ ?_;refine pz 17 48 HT_ ?_;refine pz 18 49 HT_ ?_
            refine done_ (done_of HT_.out (by kernel_rfl)) ?_;(try go_wp2);go_roundg k2
            case measure => have:=HJ2.out;have:=HK2.out;omega
            case rel => exact ⟨(wrap64 (z1 + 1)),es_,H',⟨by have:=HJ2.out;have:=HK2.out;omega⟩,⟨bk_ z0.out⟩,⟨hb_⟩⟩
          ·replace c19:=Bool.eq_false_iff.mpr c19
           subst c19;rw [if_neg (show ¬ (false = true) by decide)] at H;simp only [Option.some.injEq,Prod.mk.injEq] at H;obtain ⟨rfl,rfl⟩:=H;have j4 : 0 ≤ (z1 : Int):=od_;have j5 : z1 < (l1.length : Int):=od_;obtain ⟨r0,e543,z9⟩:=Kd.at_int HR1.out z1 j4 j5;cases e543;replace z9:=hc_ HB z9;replace j4:=eq_true j4;replace j5:=eq_true j5;(try go_wp2);replace z0:=ak (blk_drew z0.out);replace HB:=ak (below_drew1 HB.out);refine start_ (n:=19) (S:=fun w' => w'.cell? ⟨z4,0,none⟩ = some (.int .i64 a0_0) ∧ w'.cell? ⟨z4,1,none⟩ = some (.slice z5 z2.length c0_1)) (ds:=[]) (bm 19 0) (by kernel_rfl) rfl rfl ⟨(blk_cell z0.out 0).trans rfl,(blk_cell z0.out 1).trans rfl⟩ (fun hHeld => ?_);refine with_tabW impl_PulledWay.tab6 impl_PulledWay.bits6 (fun HT_ HW_ => ?_);generalize wr.drew = w34 at z0 HB hHeld ⊢;refine pure_ (i:=1) (N:=some 32) (v:=?_) (a':=?_) (bm 19 2) rfl rfl (any_of HT_.out (by kernel_rfl)) (fun _ _ _ h => h) (Or.inl ⟨by rfl,?_⟩) ?_ ?_;rotate_left
           (intro w';go_simp;with_reducible rfl);rotate_left;(simp only [Act.put,aS,aZ,aN,i64_w,i32_w];rfl)
           refine tz 0 31 rfl HT_ HW_ hHeld (by rintro w' ⟨s0,s1⟩;go_simp;with_reducible rfl) ?_
           refine one_ (i:=2) (N:=some 33) (bm 19 7) rfl rfl (one_of HT_.out (by kernel_rfl)) (by decide) (fun K hK => ?_);refine goes_ Try.func41 (by kernel_rfl) rfl #[.agg #[.int .i64 a0_0,.slice z5 z2.length c0_1],.int .i64 (rd l1 z1)] (by rfl) rfl rfl ls_ ?_
           with_reducible refine (impl_Cells_free.calls a0_0 _ _ z2 (rd l1 z1) false _ ?z6 ?z7 A18.out).mono ?_
           (case z6 => exact cb_ j6.out);(case z7 => exact j7.out);rintro e w35 ⟨rfl,hb⟩;refine ⟨_,rfl,?_⟩;replace z0:=bb_ z0 hb;replace HB:=bq_ hb;refine hK.out _ _ ⟨(blk_cell z0.out 0).trans rfl,(blk_cell z0.out 1).trans rfl⟩ (fun hHeld => ?_);clear hK K;refine nz 33 ?_;refine pz 3 34 HT_ ?_;refine pz 4 35 HT_ ?_;refine pu 5 36 HT_ ?_;refine pu 6 37 HT_ ?_;refine pu 7 38 HT_ ?_;refine pu 8 39 HT_ ?_;refine pu 9 40 HT_ ?_;refine pu 10 41 HT_ ?_;refine pu 11 42 HT_ ?_;refine pu 12 43 HT_ ?_;refine pu 13 44 HT_ ?_;refine pu 14 45 HT_ ?_;refine pu 15 46 HT_ ?_;refine pu 16 47 HT_ ?_;refine pu 17 48 HT_ ?_;refine pz 18 49 HT_ ?_
           refine done_ (done_of HT_.out (by kernel_rfl)) ?_;(try go_wp2)
           go_ret2
           exact ⟨_,er_,by first | exact Kd.R_nil _ _ _ _ _ | exact Kd.N_nil _ _ _ _ _ | exact Kd.V_nil _ _ _ _ _ | exact Kd.Q_nil _ _ _ _ _ | exact Kd.S_nil _ _ _ _ _,hb_⟩
         ·rw [if_neg c17] at H
          exact absurd H (by simp)
        ·rw [if_neg c16] at H
         exact absurd H (by simp)
       ·rw [if_neg c15] at H
        have zb3 : decide (z1 < (l1.length : Int)) = false:=df_ c15;clear c15;by_cases c36 : 0 < (l1.length : Int)
        ·rw [if_pos c36] at H
         have ze0 : decide (0 < (l1.length : Int)) = true:=dt_ c36;have ze1 : decide (0 < l1.length) = true:=dt_ (by omega);clear c36;obtain ⟨za9,m0⟩ : ∃ y_ : List Int,y_ = (([rd l1 0] : List Int)):=⟨_,rfl⟩;(replace H : (impl_PulledWay.l1 k2 l1 za9 0 a0_0 z2) = some (r1,r2):=by first|(rw [m0];with_reducible first|exact H|exact bs_ H)|with_reducible exact bs_ H|with_reducible exact H|(rw [m0];exact H)|exact H);have za5:=ak m0;clear m0;have H':=ak H;clear H;have za1 : 0 ≤ (0 : Int):=(by omega);have za2 : 0 < (l1.length : Int):=od_;obtain ⟨j8,e547,r3⟩:=Kd.at_int HR1.out 0 za1 za2;cases e547;have qi547 : (0 < l1.length) = True:=eq_true (by omega);(try rw [show ((0 : Int)).toNat = 0 from rfl] at r3);(try rw [Addr.add_zero'] at r3);replace r3:=hc_ HB r3;replace za1:=eq_true za1;replace za2:=eq_true za2;go_wp2_with (first | ((with_reducible refine gate_dst (N:=54) rfl ?_);(try (refine gate_guard (by rfl) ?_;dsimp only));refine Kd.R_lit (Kd.int .i64) _ 3 ?hg (N:=54) ?hd (xs:=([rd l1 0] : List Int)) (inner:=[.int .i64 (rd l1 0)]) (ok:=fun _ => True) (okp:=fun _ => True) ?hr ?hp (fun _ hk => hk) trivial (Below.refl _ _) (Nat.le_refl _) (by simp) ?_;(case hd => rfl);(case hg => rfl);(case hr => first | (go_simp;done) | (go_simp;rfl));(case hp => exact (Reps.one (show Kd.M (Kd.int .i64) _ _ _ (rd l1 0) [.int .i64 (rd l1 0)] from rfl) (Reps.none _ _)));intro ze7 w37 m5 hb hg_ hnew_;clear hg_ hnew_;(first | rw [← za5.out] at m5 | (simp only [Int.reduceToNat] at m5;rw [← za5.out] at m5));have zb5:=ak (Kd.R_lower m5 (below_size hb_));replace z0:=bb_ z0 hb;replace HB:=bq_ hb;clear hb m5))
         go_loopg [8,9] k2 (fun kq v8 v9 w' => ∃ (j9 : List Int) (z8 : Int),v9 = .int .i64 z8 ∧ Aside0 (impl_PulledWay.l1 kq l1 j9 z8 a0_0 z2 = some (r1,r2)) ∧ Aside0 (kq ≤ k2) ∧ Aside0 (Kd.R (Kd.int .i64) 3 w' w.heap.size (fun _ => True) v8 j9) ∧ Aside0 (w'.heap[z4]? = some (.cells #[.int .i64 a0_0,(.slice z5 z2.length c0_1)] 27 (0,0))) ∧ Aside0 (Below w.heap.size w w'))
         case atStart => exact ⟨(za9),(0),es_,H',⟨Nat.le_refl _⟩,⟨ra_ zb5.out⟩,⟨bk_ z0.out⟩,⟨hb_⟩⟩
         case round =>
          clear H';obtain ⟨j9,z8,rfl,HA,HK3,j0,z0,HB⟩:=hrel
          cases gk with
          | zero => exact absurd HA.out (by simp [impl_PulledWay.l1])
          | succ k3 =>
           have H:=HA.out;clear HA;simp only [impl_PulledWay.l1] at H;by_cases c39 : z8 < (wrap64 ((l1.length : Int) - 1))
           ·rw [if_pos c39] at H
            have zb6 : decide (z8 < (wrap64 ((l1.length : Int) - 1))) = true:=dt_ c39;clear c39;have H':=ak H;clear H;go_wp2
            go_loopg [10] k3 (fun kq v10 w' => ∃ (z3 : Int),v10 = .int .i64 z3 ∧ Aside0 (impl_PulledWay.l2 kq l1 j9 z8 z3 a0_0 z2 = some (r1,r2)) ∧ Aside0 (kq ≤ k3) ∧ Aside0 (Kd.R (Kd.int .i64) 3 w' w.heap.size (fun _ => True) u8 j9) ∧ Aside0 (w'.heap[z4]? = some (.cells #[.int .i64 a0_0,(.slice z5 z2.length c0_1)] 27 (0,0))) ∧ Aside0 (Below w.heap.size w w'))
            case atStart => exact ⟨(wrap64 ((l1.length : Int) - 1)),es_,H',⟨Nat.le_refl _⟩,⟨ra_ j0.out⟩,⟨bk_ z0.out⟩,⟨hb_⟩⟩
            case round =>
             clear H';obtain ⟨z3,rfl,HA,HK4,j0,z0,HB⟩:=hrel
             cases gk with
             | zero => exact absurd HA.out (by simp [impl_PulledWay.l2])
             | succ k4 =>
              have H:=HA.out;clear HA;simp only [impl_PulledWay.l2] at H;by_cases c40 : 0 ≤ z8
              ·rw [if_pos c40] at H
               have ze2 : decide (0 ≤ z8) = true:=dt_ c40;clear c40;by_cases c41 : z8 < (l1.length : Int)
               ·rw [if_pos c41] at H
                have ze3 : decide (z8 < (l1.length : Int)) = true:=dt_ c41;clear c41;by_cases c42 : 0 ≤ z3
                ·rw [if_pos c42] at H
                 have ze4 : decide (0 ≤ z3) = true:=dt_ c42;clear c42;by_cases c43 : z3 < (l1.length : Int)
                 ·rw [if_pos c43] at H
                  have ze5 : decide (z3 < (l1.length : Int)) = true:=dt_ c43;clear c43;replace H:=Option.bind_eq_some_iff.mp H;obtain ⟨zb0,zb1,H⟩:=H;replace H : (if zb0 = true then (if j9.length < 17592186044416 then (impl_PulledWay.l1 k4 l1 (j9 ++ [rd l1 z3]) z3 a0_0 z2) else (none)) else (impl_PulledWay.l2 k4 l1 j9 z8 (wrap64 (z3 - 1)) a0_0 z2)) = some (r1,r2):=H;have A44:=ak zb1;clear zb1;by_cases c45 : zb0 = true
                  ·subst c45
                   rw [if_pos rfl] at H;by_cases c46 : j9.length < 17592186044416
                   ·rw [if_pos c46] at H
                    have zb7:=ak c46;clear c46;obtain ⟨zb2,m1⟩ : ∃ y_ : List Int,y_ = (j9 ++ [rd l1 z3]):=⟨_,rfl⟩;(replace H : (impl_PulledWay.l1 k4 l1 zb2 z3 a0_0 z2) = some (r1,r2):=by first|(rw [m1];with_reducible first|exact H|exact bs_ H)|with_reducible exact bs_ H|with_reducible exact H|(rw [m1];exact H)|exact H);have zb8:=ak m1;clear m1;have H':=ak H;clear H;(try go_wp2);replace j0:=ak (Kd.R_drew j0.out);replace z0:=ak (blk_drew z0.out);replace HB:=ak (below_drew1 HB.out);have r6 : 0 ≤ (z8 : Int):=od_;have r7 : z8 < (l1.length : Int):=od_;obtain ⟨m9,e551,j2⟩:=Kd.at_int HR1.out z8 r6 r7;have hw551_0:=j2
                    obtain rfl : j8 = m9:=(by injection e551)
                    replace j2:=hc_ HB j2;replace r6:=eq_true r6;replace r7:=eq_true r7;have r8 : 0 ≤ (z3 : Int):=od_;have r9 : z3 < (l1.length : Int):=od_;obtain ⟨za0,e552,j3⟩:=Kd.at_int HR1.out z3 r8 r9;have hw552_0:=j3
                    obtain rfl : j8 = za0:=(by injection e552)
                    replace j3:=hc_ HB j3;replace r8:=eq_true r8;replace r9:=eq_true r9;refine start_ (n:=11) (S:=fun w' => w'.cell? ⟨z4,0,none⟩ = some (.int .i64 a0_0) ∧ w'.cell? ⟨z4,1,none⟩ = some (.slice z5 z2.length c0_1) ∧ w'.cell? (j8.add (z8).toNat) = some (.int .i64 (rd l1 z8)) ∧ w'.cell? (j8.add (z3).toNat) = some (.int .i64 (rd l1 z3))) (ds:=[]) (bm 11 0) (by kernel_rfl) rfl rfl ⟨(blk_cell z0.out 0).trans rfl,(blk_cell z0.out 1).trans rfl,((HB.out.cell (World.block_lt_of_cell? w _ hw551_0)).trans hw551_0),((HB.out.cell (World.block_lt_of_cell? w _ hw552_0)).trans hw552_0)⟩ (fun hHeld => ?_);refine with_tabW impl_PulledWay.tab13 impl_PulledWay.bits13 (fun HT_ HW_ => ?_);generalize wr.drew = w47 at j0 z0 HB j2 j3 hHeld ⊢;refine pz 1 64 HT_ ?_;refine pz 2 65 HT_ ?_;refine pz 3 66 HT_ ?_;refine pz 5 68 HT_ ?_;refine pz 6 69 HT_ ?_;refine pz 7 70 HT_ ?_;refine tz 0 63 rfl HT_ HW_ hHeld (by rintro w' ⟨s0,s1,s2,s3⟩;go_simp;with_reducible rfl) ?_
                    refine tz 4 67 rfl HT_ HW_ hHeld (by rintro w' ⟨s0,s1,s2,s3⟩;go_simp;with_reducible rfl) ?_
                    refine tz 8 71 rfl HT_ HW_ hHeld (by rintro w' ⟨s0,s1,s2,s3⟩;go_simp;with_reducible rfl) ?_
                    refine one_ (i:=9) (N:=some 72) (bm 11 1023) rfl rfl (one_of HT_.out (by kernel_rfl)) (by decide) (fun K hK => ?_);refine goes_ Try.func42 (by kernel_rfl) rfl #[.agg #[.int .i64 a0_0,.slice z5 z2.length c0_1],.int .i64 (rd l1 z8),.int .i64 (rd l1 z3)] (by rfl) rfl rfl ls_ ?_
                    with_reducible refine (impl_Cells_clear.calls a0_0 _ _ z2 (rd l1 z8) (rd l1 z3) true _ ?z6 ?z7 A44.out).mono ?_
                    (case z6 => exact cb_ j6.out);(case z7 => exact j7.out);rintro e w48 ⟨rfl,hb⟩;refine ⟨_,rfl,?_⟩;replace j0:=ak (Kd.R_below (ra_ j0.out) hb);replace z0:=bb_ z0 hb;replace HB:=bq_ hb;refine hK.out _ _ ⟨(blk_cell z0.out 0).trans rfl,(blk_cell z0.out 1).trans rfl,((HB.out.cell (World.block_lt_of_cell? w _ hw551_0)).trans hw551_0),((HB.out.cell (World.block_lt_of_cell? w _ hw552_0)).trans hw552_0)⟩ (fun hHeld => ?_);clear hK K;refine nz 72 ?_;refine pz 10 73 HT_ ?_
                    refine done_ (done_of HT_.out (by kernel_rfl)) ?_;have za3 : 0 ≤ (z3 : Int):=od_;have za4 : z3 < (l1.length : Int):=od_;obtain ⟨zb9,e554,m6⟩:=Kd.at_int HR1.out z3 za3 za4
                    obtain rfl : j8 = zb9:=(by injection e554)
                    replace m6:=hc_ HB m6;replace za3:=eq_true za3;replace za4:=eq_true za4;(try go_wp2_with (first | ((with_reducible refine gate_builtin (b:=.append) (xs:=#[.tmp 77,.tmp 82]) rfl ?_);(try (refine gate_guard (by rfl) ?_;dsimp only));at_builtin;refine Kd.R_append (Kd.int .i64) (w0:=w) w.heap.size rfl (.tmp 77) (.tmp 82) 22 3 (.int .i64 0) 8 rfl Try.underlying22 info3 rfl (by decide) (by omega) u8 j9 (rd l1 z3) [.int .i64 (rd l1 z3)] (fun _ => True) (fun _ => False) rfl rfl ?aP (fun _ hk => hk.elim) ?aF ?aO ?aB ?aS ?aL ?_;(case aP => exact rfl);(case aB => exact hb_);(case aF => exact (fun _ _ => trivial));(case aO => exact (ra_ j0.out));(case aS => exact (below_size hb_));(case aL => have:=zb7.out;omega);intro ze8 w49 ho hb hg hat;rw [← zb8.out] at ho;replace z0:=ak (blk_grown (g:=z4) (o:=.cells #[.int .i64 a0_0,.slice z5 z2.length c0_1] 27 (0,0)) (bk_ z0.out) hg (Kd.R_ne j0.out z0.out (by decide)));have zc0:=ak (ho);replace HB:=ak (hb);clear j0;clear ho hb hg hat)));go_roundg k4
                    case measure => have:=HJ2.out;have:=HK2.out;have:=HK3.out;have:=HK4.out;omega
                    case rel => exact ⟨(zb2),(z3),es_,H',⟨by have:=HJ2.out;have:=HK2.out;have:=HK3.out;have:=HK4.out;omega⟩,⟨ra_ zc0.out⟩,⟨bk_ z0.out⟩,⟨hb_⟩⟩
                   ·rw [if_neg c46] at H
                    exact absurd H (by simp)
                  ·replace c45:=Bool.eq_false_iff.mpr c45
                   subst c45;rw [if_neg (show ¬ (false = true) by decide)] at H;have H':=ak H;clear H;(try go_wp2);replace j0:=ak (Kd.R_drew j0.out);replace z0:=ak (blk_drew z0.out);replace HB:=ak (below_drew1 HB.out);have r6 : 0 ≤ (z8 : Int):=od_;have r7 : z8 < (l1.length : Int):=od_;obtain ⟨m9,e551,j2⟩:=Kd.at_int HR1.out z8 r6 r7;have hw551_0:=j2
                   obtain rfl : j8 = m9:=(by injection e551)
                   replace j2:=hc_ HB j2;replace r6:=eq_true r6;replace r7:=eq_true r7;have r8 : 0 ≤ (z3 : Int):=od_;have r9 : z3 < (l1.length : Int):=od_;obtain ⟨za0,e552,j3⟩:=Kd.at_int HR1.out z3 r8 r9;have hw552_0:=j3
                   obtain rfl : j8 = za0:=(by injection e552)
                   replace j3:=hc_ HB j3;replace r8:=eq_true r8;replace r9:=eq_true r9;refine start_ (n:=11) (S:=fun w' => w'.cell? ⟨z4,0,none⟩ = some (.int .i64 a0_0) ∧ w'.cell? ⟨z4,1,none⟩ = some (.slice z5 z2.length c0_1) ∧ w'.cell? (j8.add (z8).toNat) = some (.int .i64 (rd l1 z8)) ∧ w'.cell? (j8.add (z3).toNat) = some (.int .i64 (rd l1 z3))) (ds:=[]) (bm 11 0) (by kernel_rfl) rfl rfl ⟨(blk_cell z0.out 0).trans rfl,(blk_cell z0.out 1).trans rfl,((HB.out.cell (World.block_lt_of_cell? w _ hw551_0)).trans hw551_0),((HB.out.cell (World.block_lt_of_cell? w _ hw552_0)).trans hw552_0)⟩ (fun hHeld => ?_);refine with_tabW impl_PulledWay.tab13 impl_PulledWay.bits13 (fun HT_ HW_ => ?_);generalize wr.drew = w50 at j0 z0 HB j2 j3 hHeld ⊢;refine pz 1 64 HT_ ?_;refine pz 2 65 HT_ ?_;refine pz 3 66 HT_ ?_;refine pz 5 68 HT_ ?_;refine pz 6 69 HT_ ?_;refine pz 7 70 HT_ ?_;refine tz 0 63 rfl HT_ HW_ hHeld (by rintro w' ⟨s0,s1,s2,s3⟩;go_simp;with_reducible rfl) ?_
                   refine tz 4 67 rfl HT_ HW_ hHeld (by rintro w' ⟨s0,s1,s2,s3⟩;go_simp;with_reducible rfl) ?_
                   refine tz 8 71 rfl HT_ HW_ hHeld (by rintro w' ⟨s0,s1,s2,s3⟩;go_simp;with_reducible rfl) ?_
                   refine one_ (i:=9) (N:=some 72) (bm 11 1023) rfl rfl (one_of HT_.out (by kernel_rfl)) (by decide) (fun K hK => ?_);refine goes_ Try.func42 (by kernel_rfl) rfl #[.agg #[.int .i64 a0_0,.slice z5 z2.length c0_1],.int .i64 (rd l1 z8),.int .i64 (rd l1 z3)] (by rfl) rfl rfl ls_ ?_
                   with_reducible refine (impl_Cells_clear.calls a0_0 _ _ z2 (rd l1 z8) (rd l1 z3) false _ ?z6 ?z7 A44.out).mono ?_
                   (case z6 => exact cb_ j6.out);(case z7 => exact j7.out);rintro e w51 ⟨rfl,hb⟩;refine ⟨_,rfl,?_⟩;replace j0:=ak (Kd.R_below (ra_ j0.out) hb);replace z0:=bb_ z0 hb;replace HB:=bq_ hb;refine hK.out _ _ ⟨(blk_cell z0.out 0).trans rfl,(blk_cell z0.out 1).trans rfl,((HB.out.cell (World.block_lt_of_cell? w _ hw551_0)).trans hw551_0),((HB.out.cell (World.block_lt_of_cell? w _ hw552_0)).trans hw552_0)⟩ (fun hHeld => ?_);clear hK K;refine nz 72 ?_;refine pz 10 73 HT_ ?_
                   refine done_ (done_of HT_.out (by kernel_rfl)) ?_;(try go_wp2);go_roundg k4
                   case measure => have:=HJ2.out;have:=HK2.out;have:=HK3.out;have:=HK4.out;omega
                   case rel => exact ⟨(wrap64 (z3 - 1)),es_,H',⟨by have:=HJ2.out;have:=HK2.out;have:=HK3.out;have:=HK4.out;omega⟩,⟨ra_ j0.out⟩,⟨bk_ z0.out⟩,⟨hb_⟩⟩
                 ·rw [if_neg c43] at H
                  exact absurd H (by simp)
                ·rw [if_neg c42] at H
                 exact absurd H (by simp)
               ·rw [if_neg c41] at H
                exact absurd H (by simp)
              ·rw [if_neg c40] at H
               exact absurd H (by simp)
           ·rw [if_neg c39] at H
            have zb6 : decide (z8 < (wrap64 ((l1.length : Int) - 1))) = false:=df_ c39;clear c39;simp only [Option.some.injEq,Prod.mk.injEq] at H;obtain ⟨rfl,rfl⟩:=H;go_wp2
            go_ret2
            exact ⟨_,er_,by (with_reducible repeat (first | apply Kd.R_alloc | apply Kd.R_drewN | apply Kd.R_drew));exact j0.out,hb_⟩
        ·rw [if_neg c36] at H
         exact absurd H (by simp)

end Go.Proofs.Ytjcmlggdaajicaa.Pr
namespace Go.Proofs.Ytjcmlggdaajicaa.Pr
open Go.RowKit Go.Proofs.YtjcmlggdaajicaaW.PrintWords Go.Proofs.YtjcmlggdaajicaaW.PrintLast Go.Proofs.YtjcmlggdaajicaaW.PrintMore
attribute [local go_sem] max2_int min2_int max_two min_two max_three min_three max_four min_four
set_option linter.unusedVariables false
set_option linter.unusedSimpArgs false

set_option maxHeartbeats 8000000 in
set_option maxRecDepth 100000 in
theorem spec_l1Cur_next.calls (g : Nat) (s0_0 : List Int) (s0_1 : Int) (s0_2 : Int) (r1 : Int) (r2 : Int) (r3 : Int) (w0 w : World) (hI : IsS72 w0 w g s0_0 s0_1 s0_2) (hB : Below w0.heap.size w0 w) (h : spec_l1Cur_next.f s0_0 s0_1 s0_2 = some (r1,r2,r3)) :
   Calls Try.prog 68 #[.pointer (some ⟨g,0,none⟩)] w fun e w' => e = .returned (.int .i64 r1) ∧ IsS72 w0 w' g s0_0 r2 r3 ∧ Below w0.heap.size w0 w' ∧ KeepBut w w' g none:=by
  have HI0:=ak hI;have HK:=ak (KeepBut.refl w g none);have HL:=ak hB.size;clear hI;have HW0:=ak hB.size;have HB:=ak hB;clear hB;have H : (if s0_1 < (s0_0.length : Int) then (if 0 ≤ s0_1 then (if (wrap64 (s0_1 + 1)) ≤ (s0_0.length : Int) then (some (wrap64 (rd s0_0 s0_1),wrap64 (s0_1 + 1),IntKind.u64.wrap ((IntKind.u64.wrap ((IntKind.u64.wrap (s0_2 * 6364136223846793005)) + (IntKind.u64.wrap (wrap64 (rd s0_0 s0_1))))) + 1442695040888963407))) else (some (wrap64 (Go.bits .and .u64 ((IntKind.u64.wrap ((IntKind.u64.wrap ((IntKind.u64.wrap (s0_2 * 6364136223846793005)) + (IntKind.u64.wrap (wrap64 (rd s0_0 s0_1))))) + 1442695040888963407)) / 1099511627776) 255),wrap64 (s0_1 + 1),IntKind.u64.wrap ((IntKind.u64.wrap ((IntKind.u64.wrap (s0_2 * 6364136223846793005)) + (IntKind.u64.wrap (wrap64 (rd s0_0 s0_1))))) + 1442695040888963407)))) else (none)) else (if (wrap64 (s0_1 + 1)) ≤ (s0_0.length : Int) then (some (0,wrap64 (s0_1 + 1),IntKind.u64.wrap ((IntKind.u64.wrap ((IntKind.u64.wrap (s0_2 * 6364136223846793005)) + 0)) + 1442695040888963407))) else (some (wrap64 (Go.bits .and .u64 ((IntKind.u64.wrap ((IntKind.u64.wrap ((IntKind.u64.wrap (s0_2 * 6364136223846793005)) + 0)) + 1442695040888963407)) / 1099511627776) 255),wrap64 (s0_1 + 1),IntKind.u64.wrap ((IntKind.u64.wrap ((IntKind.u64.wrap (s0_2 * 6364136223846793005)) + 0)) + 1442695040888963407))))) = some (r1,r2,r3):=h;clear h;by_cases c2 : s0_1 < (s0_0.length : Int)
  ·rw [if_pos c2] at H
   have z4 : decide (s0_1 < (s0_0.length : Int)) = true:=dt_ c2;clear c2;by_cases c3 : 0 ≤ s0_1
   ·rw [if_pos c3] at H
    have m0 : decide (0 ≤ s0_1) = true:=dt_ c3;clear c3;by_cases c4 : (wrap64 (s0_1 + 1)) ≤ (s0_0.length : Int)
    ·rw [if_pos c4] at H
     have z5 : decide ((wrap64 (s0_1 + 1)) ≤ (s0_0.length : Int)) = true:=dt_ c4;clear c4;simp only [Option.some.injEq,Prod.mk.injEq] at H;obtain ⟨rfl,rfl,rfl⟩:=H;obtain ⟨ASz5_0,cSz5_0,HGz5,hgz5,HSz5_0⟩:=HI0.out;have z7:=cellS72_0 HGz5;have z8:=cellS72_1 HGz5;have z9:=cellS72_2 HGz5;have j0:=blk_frozen HGz5 1;have j1:=blk_frozen HGz5 2;clear HGz5 hgz5;have z1 : 0 ≤ (s0_1 : Int):=od_;have z2 : s0_1 < (s0_0.length : Int):=od_;obtain ⟨z3,e144,z0⟩:=Kd.at_int HSz5_0 s0_1 z1 z2;cases e144;replace z0:=pw_cell_below HB.out z0;replace z1:=eq_true z1;replace z2:=eq_true z2;go_enter Try.func68,Try.ntmps68;go_wp2;(repeat (go_quiet (fail);try go_wp2));go_ret;(try simp only [Int.add_zero]);exact ⟨er_,is_,be_,by exact ke_⟩
    ·rw [if_neg c4] at H
     have z5 : decide ((wrap64 (s0_1 + 1)) ≤ (s0_0.length : Int)) = false:=df_ c4;clear c4;simp only [Option.some.injEq,Prod.mk.injEq] at H;obtain ⟨rfl,rfl,rfl⟩:=H;obtain ⟨ASz6_0,cSz6_0,HGz6,hgz6,HSz6_0⟩:=HI0.out;have j2:=cellS72_0 HGz6;have j3:=cellS72_1 HGz6;have j4:=cellS72_2 HGz6;have j5:=blk_frozen HGz6 1;have j6:=blk_frozen HGz6 2;clear HGz6 hgz6;have z1 : 0 ≤ (s0_1 : Int):=od_;have z2 : s0_1 < (s0_0.length : Int):=od_;obtain ⟨z3,e144,z0⟩:=Kd.at_int HSz6_0 s0_1 z1 z2;cases e144;replace z0:=pw_cell_below HB.out z0;replace z1:=eq_true z1;replace z2:=eq_true z2;go_enter Try.func68,Try.ntmps68;go_wp2;(repeat (go_quiet (fail);try go_wp2));go_ret;(try simp only [Int.add_zero]);exact ⟨er_,is_,be_,by exact ke_⟩
   ·rw [if_neg c3] at H
    exact absurd H (by simp)
  ·rw [if_neg c2] at H
   have z4 : decide (s0_1 < (s0_0.length : Int)) = false:=df_ c2;clear c2;by_cases c7 : (wrap64 (s0_1 + 1)) ≤ (s0_0.length : Int)
   ·rw [if_pos c7] at H
    have z6 : decide ((wrap64 (s0_1 + 1)) ≤ (s0_0.length : Int)) = true:=dt_ c7;clear c7;simp only [Option.some.injEq,Prod.mk.injEq] at H;obtain ⟨rfl,rfl,rfl⟩:=H;obtain ⟨ASz8_0,cSz8_0,HGz8,hgz8,HSz8_0⟩:=HI0.out;have j7:=cellS72_0 HGz8;have j8:=cellS72_1 HGz8;have j9:=cellS72_2 HGz8;have r0:=blk_frozen HGz8 1;have r4:=blk_frozen HGz8 2;clear HGz8 hgz8;go_enter Try.func68,Try.ntmps68;go_wp2;(repeat (go_quiet (fail);try go_wp2));go_ret;(try simp only [Int.add_zero]);exact ⟨er_,is_,be_,by exact ke_⟩
   ·rw [if_neg c7] at H
    have z6 : decide ((wrap64 (s0_1 + 1)) ≤ (s0_0.length : Int)) = false:=df_ c7;clear c7;simp only [Option.some.injEq,Prod.mk.injEq] at H;obtain ⟨rfl,rfl,rfl⟩:=H;obtain ⟨ASz9_0,cSz9_0,HGz9,hgz9,HSz9_0⟩:=HI0.out;have r5:=cellS72_0 HGz9;have r6:=cellS72_1 HGz9;have r7:=cellS72_2 HGz9;have r8:=blk_frozen HGz9 1;have r9:=blk_frozen HGz9 2;clear HGz9 hgz9;go_enter Try.func68,Try.ntmps68;go_wp2;(repeat (go_quiet (fail);try go_wp2));go_ret;(try simp only [Int.add_zero]);exact ⟨er_,is_,be_,by exact ke_⟩

end Go.Proofs.Ytjcmlggdaajicaa.Pr
