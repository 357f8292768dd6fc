-- Joined and pruned by wip/tools/prune.py out of this session's own texts (Pr0, Prd1, Pr1, HdClear, Prd2, HClear, Pr2, Pr3, Pr4, Pr5, Pr6, Pr7, Pr8, Pr9, Pr10, Pr11, Pr12, Pr13)
import Derived.Test.YtjcmlggdaajicaaZsw2
import Derived.Test.YtjcmlggdaajicaaProg
import Derived.Below
import Derived.Deep.Draws
import Derived.Deep.AppendLies
import Derived.Maps.AppendAt
import Derived.OwnWalk
import Derived.Laws.BytesArg
import Derived.Laws.MakeOwn
import Derived.Laws.OwnMore
import Derived.Deep.OwnRows
import Derived.Tactics
import Derived.Lib.ConvBytes
import Derived.Laws.Slices
import Derived.WalkKit
import Derived.KernelRfl
import Derived.RowKit3
import Derived.Deep.LoopGhost
import Derived.Deep.QuietTactic
import Derived.BigQuiet
import Derived.WideLaws
import Derived.Deep.DeepCutAuto
import Derived.Deep.CutBlock
import Derived.Deep.RegionHeld3
import Derived.Laws.Rows
import Derived.Lib.AppendStr
import Derived.ArgAppend
import Derived.Laws.IdiomCopy
import Derived.OrdersHeld
import Derived.Laws.BitsLemmas
import Derived.RowKit
import Derived.Outline
import Derived.Deep.DeepMust
namespace Go.Proofs.Ytjcmlggdaajicaa.Pr
open Go.RowKit Go.Proofs.YtjcmlggdaajicaaW.PrintWords Go.Proofs.YtjcmlggdaajicaaW.PrintLast Go.Proofs.YtjcmlggdaajicaaW.PrintMore
attribute [local go_sem] max2_int min2_int max_two min_two max_three min_three max_four min_four
set_option linter.unusedVariables false
set_option linter.unusedSimpArgs false



def errW : Option Int → Value
  | none => .nilIface
  | some c => .iface 0 (.int .i64 c)
theorem errW_none : errW none = .nilIface:=rfl
theorem errW_some (c : Int) : errW (some c) = .iface 0 (.int .i64 c):=rfl

theorem info3 : (Try.prog.info? 3).map (fun i => (i.zero,i.size,i.bytes)) = some (some (.int .i64 0),1,8):=by kernel_rfl
theorem info4 : (Try.prog.info? 4).map (fun i => (i.zero,i.size,i.bytes)) = some (some (.bool false),1,1):=by kernel_rfl
theorem info66 : (Try.prog.info? 66).map (fun i => (i.zero,i.size,i.bytes)) = some (some (.agg #[(.int .i64 0),(.int .i64 0)]),2,16):=by kernel_rfl
-- the values' own types
/-! #### struct type 66 -/
structure S66 where
  f0 : Int
  f1 : Int
def z66 : S66:=⟨(0 : Int),(0 : Int)⟩
def k66 : Kd S66:=Kd.iso (Kd.pair (Kd.int .i64) (Kd.int .i64)) (fun x : S66 => (x.f0,x.f1))
theorem k66_open {w : World} {x : S66} {cs : List Value} (h : k66.K w x cs) : cs = [.int .i64 x.f0,.int .i64 x.f1]:=by
  obtain ⟨_,_,rfl,rfl,rfl⟩:=h;exact rfl
theorem k66_mkM (w : World) (base : Nat) (ok : Nat → Prop) (x : S66)  : k66.M w base ok x [.int .i64 x.f0,.int .i64 x.f1]:=⟨[.int .i64 x.f0],[.int .i64 x.f1],rfl,rfl,rfl⟩
def rd_T66 (xs : List S66) (i : Int) : S66:=xs.getD i.toNat z66
theorem at_T66 {w : World} {A : Option Addr} {n : Nat} {xs : List S66} (h : Kd.C k66 w A n xs) (i : Int) (h0 : 0 ≤ i) (h1 : i < n) : ∃ ad ,A = some ad ∧ w.cell? (ad.add (i.toNat * 2)) = some (.int .i64 (rd_T66 xs i).f0) ∧ w.cell? ⟨(ad.add (i.toNat * 2)).block,(ad.add (i.toNat * 2)).off + 1,none⟩ = some (.int .i64 (rd_T66 xs i).f1):=by
  obtain ⟨ad,c,e,_,hK,hc0⟩:=Kd.C_get h z66 i h0 h1;have hc : ∀ j u,c[j]? = some u → w.cell? (ad.add (i.toNat * 2 + j)) = some u:=hc0
  obtain rfl:=k66_open hK
  exact ⟨ad,e,hc 0 _ rfl,by rw [← add_field _ _ 1 (by omega)];exact hc 1 _ rfl⟩

end Go.Proofs.Ytjcmlggdaajicaa.Pr
namespace Go.Proofs.Ytjcmlggdaajicaa.Pr
open Go.RowKit Go.Proofs.YtjcmlggdaajicaaW.PrintWords Go.Proofs.YtjcmlggdaajicaaW.PrintLast Go.Proofs.YtjcmlggdaajicaaW.PrintMore
attribute [local go_sem] max2_int min2_int max_two min_two max_three min_three max_four min_four
set_option linter.unusedVariables false
set_option linter.unusedSimpArgs false

/-! ### impl_squared: function 56 -/
def impl_squared.f (a0 : Int) (a1 : Int) : Option (Bool):=if a0 ≥ 1 then (if a0 ≤ 16 then (if a0 = 0 then (none) else (if (Int.tmod a1 a0) = 0 then (if (wrap64 (Int.tdiv a1 a0)) ≥ 1 then (some (decide ((wrap64 (Int.tdiv a1 a0)) ≤ 16))) else (some false)) else (some false))) else (some false)) else (some false)

/-! ### impl_GoodCells: function 40 -/
def impl_GoodCells.l0 : Nat → List Int → Int → Int → Option (Bool)
  | 0,_,_,_ => none
  | k + 1,x13,x14,x15 => if x15 < x14 then (if 0 ≤ x15 then (if x15 < (x13.length : Int) then (if (rd x13 x15) < 0 then (some false) else (if (rd x13 x15) > 2 then (some false) else (impl_GoodCells.l0 k x13 x14 (wrap64 (x15 + 1))))) else (none)) else (none)) else (some true)
def impl_GoodCells.f (k : Nat) (a0_0 : Int) (l0_1 : List Int) : Option (Bool):=(impl_squared.f a0_0 (l0_1.length : Int)).bind fun t102 => (if t102 = true then (impl_GoodCells.l0 k l0_1 (l0_1.length : Int) 0) else (some false))
/-! ### impl_Cells_free: function 41 -/
def impl_Cells_free.f (a0_0 : Int) (l0_1 : List Int) (a1 : Int) : Option (Bool):=if a1 ≥ 0 then (if a1 < (l0_1.length : Int) then (if 0 ≤ a1 then (some ((rd l0_1 a1) == 0)) else (none)) else (some false)) else (some false)

end Go.Proofs.Ytjcmlggdaajicaa.Pr
namespace Go.Proofs.Ytjcmlggdaajicaa.Pr
open Go.RowKit Go.Proofs.YtjcmlggdaajicaaW.PrintWords Go.Proofs.YtjcmlggdaajicaaW.PrintLast Go.Proofs.YtjcmlggdaajicaaW.PrintMore
attribute [local go_sem] max2_int min2_int max_two min_two max_three min_three max_four min_four
set_option linter.unusedVariables false
set_option linter.unusedSimpArgs false

set_option maxHeartbeats 8000000 in
set_option maxRecDepth 100000 in
theorem impl_squared.calls (a0 : Int) (a1 : Int) (r : Bool) (w : World) (h : impl_squared.f a0 a1 = some r) :
   Calls Try.prog 56 #[.int .i64 a0,.int .i64 a1] w fun e w' => e = .returned (.bool r) ∧ Drawn0 w w':=by
  have H : (if a0 ≥ 1 then (if a0 ≤ 16 then (if a0 = 0 then (none) else (if (Int.tmod a1 a0) = 0 then (if (wrap64 (Int.tdiv a1 a0)) ≥ 1 then (some (decide ((wrap64 (Int.tdiv a1 a0)) ≤ 16))) else (some false)) else (some false))) else (some false)) else (some false)) = some r:=h;clear h;by_cases c3 : a0 ≥ 1
  ·rw [if_pos c3] at H
   have z0 : decide (1 ≤ a0) = true:=decide_eq_true c3;clear c3;by_cases c4 : a0 ≤ 16
   ·rw [if_pos c4] at H
    have z1 : decide (a0 ≤ 16) = true:=decide_eq_true c4;clear c4;by_cases c5 : a0 = 0
    ·rw [if_pos c5] at H
     exact absurd H (by simp)
    ·rw [if_neg c5] at H
     have z5 : (a0 == 0) = false:=beq_eq_false_iff_ne.mpr c5;have z6 : (a0 != 0) = true:=bne_iff_ne.mpr c5;by_cases c6 : (Int.tmod a1 a0) = 0
     ·rw [if_pos c6] at H
      have z2 : ((Int.tmod a1 a0) == 0) = true:=beq_iff_eq.mpr c6;have z3 : ((Int.tmod a1 a0) != 0) = false:=bne_eq_false_iff_eq.mpr c6;clear c6;by_cases c7 : (wrap64 (Int.tdiv a1 a0)) ≥ 1
      ·rw [if_pos c7] at H
       have z4 : decide (1 ≤ (wrap64 (Int.tdiv a1 a0))) = true:=decide_eq_true c7;clear c7
       obtain rfl:=Option.some.inj H
       go_enter Try.func56,Try.ntmps56;go_wp2;go_ret;exact ⟨es_,by repeat (first | exact Drawn0.refl _ | apply Drawn0.step)⟩
      ·rw [if_neg c7] at H
       have z4 : decide (1 ≤ (wrap64 (Int.tdiv a1 a0))) = false:=decide_eq_false c7;clear c7
       obtain rfl:=Option.some.inj H
       go_enter Try.func56,Try.ntmps56;go_wp2;go_ret;exact ⟨es_,by repeat (first | exact Drawn0.refl _ | apply Drawn0.step)⟩
     ·rw [if_neg c6] at H
      have z2 : ((Int.tmod a1 a0) == 0) = false:=beq_eq_false_iff_ne.mpr c6;have z3 : ((Int.tmod a1 a0) != 0) = true:=bne_iff_ne.mpr c6
      obtain rfl:=Option.some.inj H
      go_enter Try.func56,Try.ntmps56;go_wp2;go_ret;exact ⟨es_,by repeat (first | exact Drawn0.refl _ | apply Drawn0.step)⟩
   ·rw [if_neg c4] at H
    have z1 : decide (a0 ≤ 16) = false:=decide_eq_false c4;clear c4
    obtain rfl:=Option.some.inj H
    go_enter Try.func56,Try.ntmps56;go_wp2;go_ret;exact ⟨es_,by repeat (first | exact Drawn0.refl _ | apply Drawn0.step)⟩
  ·rw [if_neg c3] at H
   have z0 : decide (1 ≤ a0) = false:=decide_eq_false c3;clear c3
   obtain rfl:=Option.some.inj H
   go_enter Try.func56,Try.ntmps56;go_wp2;go_ret;exact ⟨es_,by repeat (first | exact Drawn0.refl _ | apply Drawn0.step)⟩

set_option maxHeartbeats 8000000 in
set_option maxRecDepth 100000 in
theorem impl_GoodCells.calls (k : Nat) (a0_0 : Int) (z7 : Option Addr) (c0_1 : Nat) (z0 : List Int) (r : Bool) (w : World) (hr0_1 : Kd.C (Kd.int .i64) w z7 z0.length z0) (hc0_1 : z0.length ≤ c0_1) (h : impl_GoodCells.f k a0_0 z0 = some r) :
   Calls Try.prog 40 #[.agg #[.int .i64 a0_0,.slice z7 z0.length c0_1]] w fun e w' => e = .returned (.bool r) ∧ Below w.heap.size w w':=by
  have r5:=Try.underlying27;have z8:=Aside0.mk hr0_1;have r4:=Aside0.mk hc0_1;clear hr0_1 hc0_1;have HB:=ak (Below.refl w.heap.size w);have H : ((impl_squared.f a0_0 (z0.length : Int)).bind fun z9 => (if z9 = true then (impl_GoodCells.l0 k z0 (z0.length : Int) 0) else (some false))) = some r:=h;clear h;replace H:=Option.bind_eq_some_iff.mp H;obtain ⟨z9,A20,H⟩:=H;replace H : (if z9 = true then (impl_GoodCells.l0 k z0 (z0.length : Int) 0) else (some false)) = some r:=H;have A2:=Aside0.mk A20;clear A20;by_cases c3 : z9 = true
  ·subst c3
   rw [if_pos rfl] at H;have H':=Aside0.mk H;clear H;go_enter Try.func40,Try.ntmps40;go_wp2_with (first | ((with_reducible refine gate_dst (N:=1) rfl ?_);refine box_event ?hg (N:=1) ?hd (cs:=#[.int .i64 a0_0,.slice z7 z0.length c0_1]) (t:=27) ?hr ?_;(case hd => rfl);(case hg => rfl);(case hr => first | (go_simp;done) | (go_simp;rfl));intro z4 hg w4 hbox hb;have z2:=ak (hbox);have j1 : Aside0 (w.heap.size ≤ z4):=gz_;have j2 : Aside0 (w.heap.size ≤ z4):=gz_;replace HB:=ak (below_step hb_ hb);clear hb hbox hg;have r0:=b20 z2;have r1:=b21 z2;have r2:=blk_frozen z2.out 0;have r3:=blk_frozen z2.out 1) | ((with_reducible refine gate_callee (f:=56) rfl ?_);refine goesL_ (some 10) rfl rfl Try.func56 (by kernel_rfl) rfl #[.int .i64 a0_0,.int .i64 (z0.length : Int)] rfl ls_ ?_;(with_reducible refine (impl_squared.calls a0_0 (z0.length : Int) true _ A2.out).mono ?_);rintro e w' ⟨rfl,⟨nd,rfl⟩⟩;refine ⟨_,rfl,?_⟩))
   go_loopg [15] k (fun kq v15 w' => ∃ (z1 : Int),v15 = .int .i64 z1 ∧ Aside0 (impl_GoodCells.l0 kq z0 (z0.length : Int) z1 = some r) ∧ Aside0 (kq ≤ k) ∧ Aside0 (w'.heap[z4]? = some (.cells #[.int .i64 a0_0,(.slice z7 z0.length c0_1)] 27 (0,0))) ∧ Aside0 (Below w.heap.size w w'))
   case atStart => exact ⟨(0),es_,H',⟨Nat.le_refl _⟩,⟨bk_ z2.out⟩,⟨hb_⟩⟩
   case round =>
    clear H';obtain ⟨z1,rfl,HA,HK1,z2,HB⟩:=hrel
    cases gk with
    | zero => exact absurd HA.out (by simp [impl_GoodCells.l0])
    | succ k1 =>
     have H:=HA.out;clear HA;simp only [impl_GoodCells.l0] at H;by_cases c6 : z1 < (z0.length : Int)
     ·rw [if_pos c6] at H
      have j4 : decide (z1 < (z0.length : Int)) = true:=decide_eq_true c6;clear c6;by_cases c7 : 0 ≤ z1
      ·rw [if_pos c7] at H
       have r6 : decide (0 ≤ z1) = true:=decide_eq_true c7;clear c7;by_cases c8 : z1 < (z0.length : Int)
       ·rw [if_pos c8] at H
        have r7 : decide (z1 < (z0.length : Int)) = true:=decide_eq_true c8;clear c8;by_cases c9 : (rd z0 z1) < 0
        ·rw [if_pos c9] at H
         have j5 : decide ((rd z0 z1) < 0) = true:=decide_eq_true c9;clear c9
         obtain rfl:=Option.some.inj H
         have z5 : 0 ≤ (z1 : Int):=of_decide_eq_true as_;have z6 : z1 < (z0.length : Int):=of_decide_eq_true as_;obtain ⟨j0,e103,z3⟩:=Kd.at_int z8.out z1 z5 z6;cases e103;replace z3:=hc_ HB z3;replace z5:=eq_true z5;replace z6:=eq_true z6;go_wp2;go_ret;exact ⟨er_,hb_⟩
        ·rw [if_neg c9] at H
         have j5 : decide ((rd z0 z1) < 0) = false:=decide_eq_false c9;clear c9;by_cases c10 : (rd z0 z1) > 2
         ·rw [if_pos c10] at H
          have j3 : decide (2 < (rd z0 z1)) = true:=decide_eq_true c10;clear c10
          obtain rfl:=Option.some.inj H
          have z5 : 0 ≤ (z1 : Int):=of_decide_eq_true as_;have z6 : z1 < (z0.length : Int):=of_decide_eq_true as_;obtain ⟨j0,e103,z3⟩:=Kd.at_int z8.out z1 z5 z6;cases e103;replace z3:=hc_ HB z3;replace z5:=eq_true z5;replace z6:=eq_true z6;go_wp2;go_ret;exact ⟨er_,hb_⟩
         ·rw [if_neg c10] at H
          have j3 : decide (2 < (rd z0 z1)) = false:=decide_eq_false c10;clear c10;have H':=Aside0.mk H;clear H;have z5 : 0 ≤ (z1 : Int):=of_decide_eq_true as_;have z6 : z1 < (z0.length : Int):=of_decide_eq_true as_;obtain ⟨j0,e103,z3⟩:=Kd.at_int z8.out z1 z5 z6;cases e103;replace z3:=hc_ HB z3;replace z5:=eq_true z5;replace z6:=eq_true z6;go_wp2;go_roundg k1
          case measure => have:=HK1.out;omega
          case rel => exact ⟨(wrap64 (z1 + 1)),es_,H',⟨by have:=HK1.out;omega⟩,⟨bk_ z2.out⟩,⟨hb_⟩⟩
       ·rw [if_neg c8] at H
        exact absurd H (by simp)
      ·rw [if_neg c7] at H
       exact absurd H (by simp)
     ·rw [if_neg c6] at H
      have j4 : decide (z1 < (z0.length : Int)) = false:=decide_eq_false c6;clear c6
      obtain rfl:=Option.some.inj H
      go_wp2;go_ret;exact ⟨er_,hb_⟩
  ·replace c3:=Bool.eq_false_iff.mpr c3
   subst c3;rw [if_neg (show ¬ (false = true) by decide)] at H
   obtain rfl:=Option.some.inj H
   go_enter Try.func40,Try.ntmps40;go_wp2_with (first | ((with_reducible refine gate_dst (N:=1) rfl ?_);refine box_event ?hg (N:=1) ?hd (cs:=#[.int .i64 a0_0,.slice z7 z0.length c0_1]) (t:=27) ?hr ?_;(case hd => rfl);(case hg => rfl);(case hr => first | (go_simp;done) | (go_simp;rfl));intro z4 hg w11 hbox hb;have z2:=ak (hbox);have j1 : Aside0 (w.heap.size ≤ z4):=gz_;have j2 : Aside0 (w.heap.size ≤ z4):=gz_;replace HB:=ak (below_step hb_ hb);clear hb hbox hg;have j6:=b20 z2;have j7:=b21 z2;have j8:=blk_frozen z2.out 0;have j9:=blk_frozen z2.out 1) | ((with_reducible refine gate_callee (f:=56) rfl ?_);refine goesL_ (some 10) rfl rfl Try.func56 (by kernel_rfl) rfl #[.int .i64 a0_0,.int .i64 (z0.length : Int)] rfl ls_ ?_;(with_reducible refine (impl_squared.calls a0_0 (z0.length : Int) false _ A2.out).mono ?_);rintro e w' ⟨rfl,⟨nd,rfl⟩⟩;refine ⟨_,rfl,?_⟩));go_ret;exact ⟨er_,hb_⟩

set_option maxHeartbeats 8000000 in
set_option maxRecDepth 100000 in
theorem impl_Cells_free.calls (a0_0 : Int) (z3 : Option Addr) (c0_1 : Nat) (z0 : List Int) (a1 : Int) (r : Bool) (w : World) (hr0_1 : Kd.C (Kd.int .i64) w z3 z0.length z0) (hc0_1 : z0.length ≤ c0_1) (h : impl_Cells_free.f a0_0 z0 a1 = some r) :
   Calls Try.prog 41 #[.agg #[.int .i64 a0_0,.slice z3 z0.length c0_1],.int .i64 a1] w fun e w' => e = .returned (.bool r) ∧ Below w.heap.size w w':=by
  have r2:=Try.underlying27;have z9:=Aside0.mk hr0_1;have r0:=Aside0.mk hc0_1;clear hr0_1 hc0_1;have HB:=ak (Below.refl w.heap.size w);have H : (if a1 ≥ 0 then (if a1 < (z0.length : Int) then (if 0 ≤ a1 then (some ((rd z0 a1) == 0)) else (none)) else (some false)) else (some false)) = some r:=h;clear h;by_cases c3 : a1 ≥ 0
  ·rw [if_pos c3] at H
   have j0 : decide (0 ≤ a1) = true:=decide_eq_true c3;clear c3;by_cases c4 : a1 < (z0.length : Int)
   ·rw [if_pos c4] at H
    have j1 : decide (a1 < (z0.length : Int)) = true:=decide_eq_true c4;clear c4;by_cases c5 : 0 ≤ a1
    ·rw [if_pos c5] at H
     have r3 : decide (0 ≤ a1) = true:=decide_eq_true c5;clear c5
     obtain rfl:=Option.some.inj H
     go_enter Try.func41,Try.ntmps41;go_wp2_with (first | ((with_reducible refine gate_dst (N:=2) rfl ?_);(try (refine gate_guard (by rfl) ?_;dsimp only));refine box_event ?hg (N:=2) ?hd (cs:=#[.int .i64 a0_0,.slice z3 z0.length c0_1]) (t:=27) ?hr ?_;(case hd => rfl);(case hg => rfl);(case hr => first | (go_simp;done) | (go_simp;rfl));intro z1 hg w6 hbox hb;have z2:=ak (hbox);have z7 : Aside0 (w.heap.size ≤ z1):=gz_;have z8 : Aside0 (w.heap.size ≤ z1):=gz_;replace HB:=ak (below_step hb_ hb);clear hb hbox hg;have j2:=b20 z2;have j3:=b21 z2;have j4:=blk_frozen z2.out 0;have j5:=blk_frozen z2.out 1;have z5 : 0 ≤ (a1 : Int):=of_decide_eq_true as_;have z6 : a1 < (z0.length : Int):=of_decide_eq_true as_;obtain ⟨r1,e105,z4⟩:=Kd.at_int z9.out a1 z5 z6;cases e105;replace z4:=hc_ HB z4;replace z5:=eq_true z5;replace z6:=eq_true z6));go_ret;exact ⟨er_,hb_⟩
    ·rw [if_neg c5] at H
     exact absurd H (by simp)
   ·rw [if_neg c4] at H
    have j1 : decide (a1 < (z0.length : Int)) = false:=decide_eq_false c4;clear c4
    obtain rfl:=Option.some.inj H
    go_enter Try.func41,Try.ntmps41;go_wp2_with (first | ((with_reducible refine gate_dst (N:=2) rfl ?_);(try (refine gate_guard (by rfl) ?_;dsimp only));refine box_event ?hg (N:=2) ?hd (cs:=#[.int .i64 a0_0,.slice z3 z0.length c0_1]) (t:=27) ?hr ?_;(case hd => rfl);(case hg => rfl);(case hr => first | (go_simp;done) | (go_simp;rfl));intro z1 hg w8 hbox hb;have z2:=ak (hbox);have z7 : Aside0 (w.heap.size ≤ z1):=gz_;have z8 : Aside0 (w.heap.size ≤ z1):=gz_;replace HB:=ak (below_step hb_ hb);clear hb hbox hg;have j6:=b20 z2;have j7:=b21 z2;have j8:=blk_frozen z2.out 0;have j9:=blk_frozen z2.out 1));go_ret;exact ⟨er_,hb_⟩
  ·rw [if_neg c3] at H
   have j0 : decide (0 ≤ a1) = false:=decide_eq_false c3;clear c3
   obtain rfl:=Option.some.inj H
   go_enter Try.func41,Try.ntmps41;go_wp2_with (first | ((with_reducible refine gate_dst (N:=2) rfl ?_);(try (refine gate_guard (by rfl) ?_;dsimp only));refine box_event ?hg (N:=2) ?hd (cs:=#[.int .i64 a0_0,.slice z3 z0.length c0_1]) (t:=27) ?hr ?_;(case hd => rfl);(case hg => rfl);(case hr => first | (go_simp;done) | (go_simp;rfl));intro z1 hg w10 hbox hb;have z2:=ak (hbox);have z7 : Aside0 (w.heap.size ≤ z1):=gz_;have z8 : Aside0 (w.heap.size ≤ z1):=gz_;replace HB:=ak (below_step hb_ hb);clear hb hbox hg));go_ret;exact ⟨er_,hb_⟩

end Go.Proofs.Ytjcmlggdaajicaa.Pr
/-
Own text,by hand: what (Cells).clear comes to,where the cells are few and both places are cells.
-/
namespace Go.Proofs.Ytjcmlggdaajicaa.Pr
open Go.RowKit Go.Proofs.YtjcmlggdaajicaaW.PrintWords Go.Proofs.YtjcmlggdaajicaaW.PrintLast
/-- The corners of a cell, as the program goes through them. -/
def cornX : Nat → Int
  | 0 => -1
  | 1 => -1
  | _ => 1
def cornY : Nat → Int
  | 0 => -1
  | 1 => 1
  | 2 => -1
  | _ => 1
/-- On which side of the line a corner lies. -/
def sideOf (x1 y1 x2 y2 x y : Int) (k : Nat) : Int:=(x2 - x1) * (y + cornY k - y1) - (y2 - y1) * (x + cornX k - x1)
def lessTo (x1 y1 x2 y2 x y : Int) : Nat → Bool
  | 0 => false
  | k + 1 => lessTo x1 y1 x2 y2 x y k || decide (sideOf x1 y1 x2 y2 x y k ≤ 0)
def moreTo (x1 y1 x2 y2 x y : Int) : Nat → Bool
  | 0 => false
  | k + 1 => moreTo x1 y1 x2 y2 x y k || decide (sideOf x1 y1 x2 y2 x y k ≥ 0)
def maxI (a b : Int) : Int:=if a < b then b else a
def minI (a b : Int) : Int:=if b < a then b else a
/-- The line's box doesn't come near the cell. -/
def farOf (x1 y1 x2 y2 x y : Int) : Bool:=decide (maxI x1 x2 < x - 1) || decide (minI x1 x2 > x + 1) || decide (maxI y1 y2 < y - 1) || decide (minI y1 y2 > y + 1)
/-- Cell number c stands in the way. -/
def blocks (w : Int) (l : List Int) (a b : Int) (c : Nat) : Bool:=
  !(l.getD c 0 == 0) && !(farOf (2 * (a % w)) (2 * (a / w)) (2 * (b % w)) (2 * (b / w)) (2 * ((c : Int) % w)) (2 * ((c : Int) / w))) &&
    (lessTo (2 * (a % w)) (2 * (a / w)) (2 * (b % w)) (2 * (b / w)) (2 * ((c : Int) % w)) (2 * ((c : Int) / w)) 4 && moreTo (2 * (a % w)) (2 * (a / w)) (2 * (b % w)) (2 * (b / w)) (2 * ((c : Int) % w)) (2 * ((c : Int) / w)) 4)
end Go.Proofs.Ytjcmlggdaajicaa.Pr
namespace Go.Proofs.Ytjcmlggdaajicaa.Pr
open Go.RowKit Go.Proofs.YtjcmlggdaajicaaW.PrintWords Go.Proofs.YtjcmlggdaajicaaW.PrintLast Go.Proofs.YtjcmlggdaajicaaW.PrintMore
attribute [local go_sem] max2_int min2_int max_two min_two max_three min_three max_four min_four
set_option linter.unusedVariables false
set_option linter.unusedSimpArgs false

/-! ### impl_Clear: function 13 -/
/-! ### spec_l12Sized: function 47 -/
def spec_l12Sized.f (a0 : Int) (a1 : Int) : Option (Bool):=if a0 ≥ 1 then (if a0 ≤ 16 then (if a1 ≥ a0 then (if a0 = 0 then (none) else (if (Int.tmod a1 a0) = 0 then (some (decide ((wrap64 (Int.tdiv a1 a0)) ≤ 16))) else (some false))) else (some false)) else (some false)) else (some false)

/-! ### spec_GoodCells: function 28 -/
def spec_GoodCells.l0 : Nat → List Int → Int → Int → Option (Bool)
  | 0,_,_,_ => none
  | k + 1,x13,x14,x15 => if x15 < x14 then (if 0 ≤ x15 then (if x15 < (x13.length : Int) then (if (rd x13 x15) < 0 then (some false) else (if (rd x13 x15) > 2 then (some false) else (spec_GoodCells.l0 k x13 x14 (wrap64 (x15 + 1))))) else (none)) else (none)) else (some true)
def spec_GoodCells.f (k : Nat) (a0_0 : Int) (l0_1 : List Int) : Option (Bool):=(spec_l12Sized.f a0_0 (l0_1.length : Int)).bind fun t112 => (if t112 = true then (spec_GoodCells.l0 k l0_1 (l0_1.length : Int) 0) else (some false))
/-! ### spec_l12Free: function 43 -/
def spec_l12Free.f (a0_0 : Int) (l0_1 : List Int) (a1 : Int) : Option (Bool):=if a1 ≥ 0 then (if a1 < (l0_1.length : Int) then (if 0 ≤ a1 then (some ((rd l0_1 a1) == 0)) else (none)) else (some false)) else (some false)

/-! ### spec_l18Meets: function 55 -/
/-! ### spec_l18Clear: function 39 -/
/-! ### spec_MostClear: function 19 -/
/-! ### impl_MostClear: function 20 -/
/-- A state of type 72 at block g of W; what its slices lead to came in by w0. -/
def IsS72 (w0 W : World) (g : Nat) (f0 : List Int) (f1 : Int) (f2 : Int) : Prop:=∃ A0 c0,W.heap[g]? = some (.cells #[.slice A0 f0.length c0,.int .i64 f1,.int .u64 f2] 72 (0,0)) ∧ w0.heap.size ≤ g ∧ Kd.C (Kd.int .u8) w0 A0 f0.length f0
theorem IsS72.grown {w0 W : World} {g : Nat} {f0 : List Int} {f1 : Int} {f2 : Int} {W1 : World} {row : Option Nat} (h : IsS72 w0 W g f0 f1 f2) (hw : W.grownBy W1 row) (hne : some g ≠ row) : IsS72 w0 W1 g f0 f1 f2:=by
  obtain ⟨A0,c0,hb,hg,hr0⟩:=h;exact ⟨A0,c0,blk_grown hb hw hne,hg,hr0⟩
theorem IsS72.kept {w0 W : World} {g : Nat} {f0 : List Int} {f1 : Int} {f2 : Int} {W1 : World} {S : Nat → Prop} (h : IsS72 w0 W g f0 f1 f2) (hk : Kept W W1 S) (hne : ¬ S g) : IsS72 w0 W1 g f0 f1 f2:=by
  obtain ⟨A0,c0,hb,hg,hr0⟩:=h;exact ⟨A0,c0,blk_kept hb hk hne,hg,hr0⟩
theorem IsS72.below {w0 W : World} {g : Nat} {f0 : List Int} {f1 : Int} {f2 : Int} {W1 : World} (h : IsS72 w0 W g f0 f1 f2) (hw : Below W.heap.size W W1) : IsS72 w0 W1 g f0 f1 f2:=h.grown (grown_of_below hw none) (by simp)
theorem IsS72.alloc {w0 W : World} {g : Nat} {f0 : List Int} {f1 : Int} {f2 : Int} (h : IsS72 w0 W g f0 f1 f2) (o : Obj) : IsS72 w0 (W.alloc o) g f0 f1 f2:=h.below (below_alloc (Below.refl _ _) o)
theorem IsS72.drewN {w0 W : World} {g : Nat} {f0 : List Int} {f1 : Int} {f2 : Int} (h : IsS72 w0 W g f0 f1 f2) (m : Nat) : IsS72 w0 (W.drewN m) g f0 f1 f2:=h
theorem IsS72.drew {w0 W : World} {g : Nat} {f0 : List Int} {f1 : Int} {f2 : Int} (h : IsS72 w0 W g f0 f1 f2) : IsS72 w0 W.drew g f0 f1 f2:=h
theorem IsS72.at_ {w0 W : World} {g : Nat} {f0 : List Int} {f1 : Int} {f2 : Int} {w' : World} {m : Nat} (hq : W.drewN m = w') (h : IsS72 w0 W g f0 f1 f2) : IsS72 w0 w' g f0 f1 f2:=by subst hq;exact IsS72.drewN h m
theorem IsS72.apart {w0 W : World} {g : Nat} {f0 : List Int} {f1 : Int} {f2 : Int} {α : Type} {d : Kd α} {e : Nat} {base : Nat} {ok : Nat → Prop} {v : Value} {xs : List α} (h : IsS72 w0 W g f0 f1 f2) (ho : d.R e W base ok v xs) (ht : ∀ q,q ∈ e :: d.E → q ≠ 72) : d.R e W base (fun k => ok k ∧ k ≠ g) v xs:=by
  obtain ⟨A0,c0,hb,hg,hr0⟩:=h;exact Kd.R_types ho hb ht
theorem IsS72.own_ne {w0 W : World} {g : Nat} {f0 : List Int} {f1 : Int} {f2 : Int} {α : Type} {d : Kd α} {e : Nat} {base : Nat} {ok : Nat → Prop} {v : Value} {xs : List α} (h : IsS72 w0 W g f0 f1 f2) (ho : d.R e W base ok v xs) (ht : e ≠ 72) : some g ≠ v.ownBlock:=by
  obtain ⟨A0,c0,hb,hg,hr0⟩:=h;exact Kd.R_ne ho hb ht
theorem IsS72.far {w0 W : World} {g : Nat} {f0 : List Int} {f1 : Int} {f2 : Int} {p : Addr} (h : IsS72 w0 W g f0 f1 f2) (hne : g ≠ p.block) (u : Value) : IsS72 w0 (W.setCell p u) g f0 f1 f2:=by
  obtain ⟨A0,c0,hb,hg,hr0⟩:=h;exact ⟨A0,c0,blk_far hb hne u,hg,hr0⟩
theorem IsS72.new (w0 W : World) (A0 : Option Addr) (c0 : Nat) (f0 : List Int) (f1 : Int) (f2 : Int) (hB : Below w0.heap.size w0 W) (hr0 : Kd.C (Kd.int .u8) w0 A0 f0.length f0) : IsS72 w0 (W.alloc (.cells #[.slice A0 f0.length c0,.int .i64 f1,.int .u64 f2] 72)) W.heap.size f0 f1 f2:=⟨A0,c0,by simpa using heap_alloc_new W _,hB.size,hr0⟩

/-! ### spec_l1Cur_next: function 68 -/
/-! ### spec_l1Cur_pick: function 62 -/
/-! ### spec_l1Cur_one: function 61 -/
/-! ### spec_l1Cur_among: function 67 -/
/-! ### spec_l1Cur_extent: function 66 -/
/-! ### spec_l1Cur_cells: function 59 -/
/-! ### spec_AllPlaces: function 60 -/
/-! ### spec_l1Cur_ends: function 46 -/
/-! ### spec_DrawMostClear: function 26 -/
/-! ### laws_zRising: function 27 -/
/-! ### laws_zIn: function 29 -/
/-! ### laws_FnClears: function 7 -/
/-! ### laws_szIntS: function 38 -/
def laws_szIntS.f (l0 : List Int) (a1 : Int) : Option (Int):=if (wrap64 (a1 - (l0.length : Int))) < 0 then (some (-1)) else (some (wrap64 (a1 - (l0.length : Int))))

/-! ### laws_szCells: function 10 -/
def laws_szCells.f (a0_0 : Int) (l0_1 : List Int) (a1 : Int) : Option (Int):=(laws_szIntS.f l0_1 a1).bind fun t298 => (if t298 < 0 then (some (-1)) else (some t298))

/-! ### laws_toIntS: function 16 -/
def laws_toIntS.l0 : Nat → List Int → List Int → Int → Option (List Int)
  | 0,_,_,_ => none
  | k + 1,x0,x3,x4 => if x4 < (x0.length : Int) then (if 0 ≤ x4 then (if x4 < (x3.length : Int) then (laws_toIntS.l0 k x0 (x3.set (x4 : Int).toNat (rd x0 x4)) (wrap64 (x4 + 1))) else (none)) else (none)) else (some x3)
def laws_toIntS.f (k : Nat) (l0 : List Int) : Option (List Int):=if 0 ≤ (l0.length : Int) then (if ((l0.length : Int) : Int).toNat ≤ 35184372088832 then (laws_toIntS.l0 k l0 (List.replicate ((l0.length : Int) : Int).toNat 0) 0) else (none)) else (none)
/-! ### laws_toCells: function 12 -/
def laws_toCells.f (k : Nat) (a0_0 : Int) (l0_1 : List Int) : Option (Int × List Int):=(laws_toIntS.f k l0_1).bind fun t307 => (some (a0_0,t307))
/-! ### laws_eqIntS: function 18 -/
def laws_eqIntS.l0 : Nat → List Int → List Int → Int → Option (Bool)
  | 0,_,_,_ => none
  | k + 1,x0,x1,x5 => if x5 < (x0.length : Int) then (if 0 ≤ x5 then (if x5 < (x1.length : Int) then (if (rd x0 x5) = (rd x1 x5) then (laws_eqIntS.l0 k x0 x1 (wrap64 (x5 + 1))) else (some false)) else (none)) else (none)) else (some true)
def laws_eqIntS.f (k : Nat) (l0 : List Int) (l1 : List Int) : Option (Bool):=if (l0.length : Int) = (l1.length : Int) then (laws_eqIntS.l0 k l0 l1 0) else (some false)
/-! ### laws_eqCells: function 14 -/
def laws_eqCells.f (k : Nat) (a0_0 : Int) (l0_1 : List Int) (a1_0 : Int) (l1_1 : List Int) : Option (Bool):=if a0_0 = a1_0 then ((laws_eqIntS.f k l0_1 l1_1).bind fun t314 => (if t314 = true then (some true) else (some false))) else (some false)
/-! ### laws_markIntS: function 22 -/
def laws_markIntS.l0 : Nat → List Int → Int → Int → Option (Int × List Int)
  | 0,_,_,_ => none
  | k + 1,x0,x1,x5 => if x5 < (x0.length : Int) then (if 0 ≤ x5 then (laws_markIntS.l0 k (x0.set (x5 : Int).toNat x1) (wrap64 (x1 + 1)) (wrap64 (x5 + 1))) else (none)) else (some (x1,x0))
def laws_markIntS.f (k : Nat) (l0 : List Int) (a1 : Int) : Option (Int × List Int):=laws_markIntS.l0 k l0 a1 0
/-! ### laws_markCells: function 21 -/
def laws_markCells.f (k : Nat) (a0_0 : Int) (l0_1 : List Int) (a1 : Int) : Option (Int × List Int):=(laws_markIntS.f k l0_1 a1).bind fun bt317 => (some (bt317.1,bt317.2))
/-! ### spec_l4Abs: function 57 -/
def spec_l4Abs.f (a0 : Int) : Option (Int):=if a0 < 0 then (some (wrap64 (-a0))) else (some a0)

/-! ### spec_l18Step: function 44 -/
def spec_l18Step.j0 : Nat → Int → Int → Bool → Int → List Int → Option (Int)
  | 0,_,_,_,_,_ => none
  | k + 1,x1,x2,x18,x320000,x320001 => if x18 = true then (some 0) else (if x320000 = 0 then (none) else ((spec_l4Abs.f (wrap64 ((Int.tmod x2 x320000) - (Int.tmod x1 x320000)))).bind fun t322 => ((spec_l4Abs.f (wrap64 ((wrap64 (Int.tdiv x2 x320000)) - (wrap64 (Int.tdiv x1 x320000))))).bind fun t323 => (if (wrap64 (t322 + t323)) = 1 then (some 1) else (if t322 = 1 then (if t323 = 1 then ((spec_l12Free.f x320000 x320001 (wrap64 (x1 + (wrap64 ((Int.tmod x2 x320000) - (Int.tmod x1 x320000)))))).bind fun t324 => (if t324 = true then ((spec_l12Free.f x320000 x320001 (wrap64 (x1 + (wrap64 ((wrap64 ((wrap64 (Int.tdiv x2 x320000)) - (wrap64 (Int.tdiv x1 x320000)))) * x320000))))).bind fun t325 => (if t325 = true then (some 2) else (some 0))) else (some 0))) else (some 0)) else (some 0))))))
def spec_l18Step.f (k : Nat) (a0_0 : Int) (l0_1 : List Int) (a1 : Int) (a2 : Int) : Option (Int):=(spec_l12Free.f a0_0 l0_1 a1).bind fun t320 => (if t320 = true then ((spec_l12Free.f a0_0 l0_1 a2).bind fun t321 => (spec_l18Step.j0 k a1 a2 (!t321) a0_0 l0_1)) else (spec_l18Step.j0 k a1 a2 true a0_0 l0_1))
/-! ### spec_l12Has: function 63 -/
def spec_l12Has.f (a0 : Int) (a1 : Int) (a2 : Int) (a3 : Int) : Option (Bool):=if a2 ≥ 0 then (if a2 < a0 then (if a3 ≥ 0 then (if a0 = 0 then (none) else (some (decide (a3 < (wrap64 (Int.tdiv a1 a0)))))) else (some false)) else (some false)) else (some false)

/-! ### spec_l18Around: function 49 -/
mutual
def spec_l18Around.l0 : Nat → Int → List Int → Int → Int → List Int → Option (List Int)
  | 0,_,_,_,_,_ => none
  | k + 1,x1,x5,x6,x327000,x327001 => if x6 ≤ 1 then (spec_l18Around.l1 k x1 x5 x6 (-1) x327000 x327001) else (some x5)
def spec_l18Around.l1 : Nat → Int → List Int → Int → Int → Int → List Int → Option (List Int)
  | 0,_,_,_,_,_,_ => none
  | k + 1,x1,x5,x6,x7,x327000,x327001 => if x7 ≤ 1 then (if x327000 = 0 then (none) else ((spec_l12Has.f x327000 (x327001.length : Int) (wrap64 ((Int.tmod x1 x327000) + x7)) (wrap64 ((wrap64 (Int.tdiv x1 x327000)) + x6))).bind fun t327 => (if t327 = true then (if x7 = 0 then (if x6 = 0 then (spec_l18Around.l1 k x1 x5 x6 (wrap64 (x7 + 1)) x327000 x327001) else (if x5.length < 17592186044416 then (spec_l18Around.l1 k x1 (x5 ++ [wrap64 ((wrap64 ((wrap64 ((wrap64 (Int.tdiv x1 x327000)) + x6)) * x327000)) + (wrap64 ((Int.tmod x1 x327000) + x7)))]) x6 (wrap64 (x7 + 1)) x327000 x327001) else (none))) else (if x5.length < 17592186044416 then (spec_l18Around.l1 k x1 (x5 ++ [wrap64 ((wrap64 ((wrap64 ((wrap64 (Int.tdiv x1 x327000)) + x6)) * x327000)) + (wrap64 ((Int.tmod x1 x327000) + x7)))]) x6 (wrap64 (x7 + 1)) x327000 x327001) else (none))) else (spec_l18Around.l1 k x1 x5 x6 (wrap64 (x7 + 1)) x327000 x327001)))) else (spec_l18Around.l0 k x1 x5 (wrap64 (x6 + 1)) x327000 x327001)
end
def spec_l18Around.f (k : Nat) (a0_0 : Int) (l0_1 : List Int) (a1 : Int) : Option (List Int):=spec_l18Around.l0 k a1 ([] : List Int) (-1) a0_0 l0_1
/-! ### spec_l18Sign: function 64 -/
def spec_l18Sign.f (a0 : Int) : Option (Int):=if a0 < 0 then (some (-1)) else (if a0 > 0 then (some 1) else (some 0))

/-! ### spec_l18Cmp: function 50 -/
def spec_l18Cmp.j0 : Nat → Int → Int → Bool → Option (Int)
  | 0,_,_,_ => none
  | k + 1,x0,x1,x13 => if x13 = true then ((spec_l18Sign.f x0).bind fun t336 => (some t336)) else (if x0 = 0 then ((spec_l18Sign.f x1).bind fun t337 => (some t337)) else (if (wrap64 (x0 * x0)) > (wrap64 ((wrap64 (2 * x1)) * x1)) then ((spec_l18Sign.f x0).bind fun t338 => (some t338)) else ((spec_l18Sign.f x1).bind fun t339 => (some t339))))
def spec_l18Cmp.f (k : Nat) (a0 : Int) (a1 : Int) : Option (Int):=(spec_l18Sign.f a0).bind fun t334 => ((spec_l18Sign.f a1).bind fun t335 => (if t334 = t335 then (spec_l18Cmp.j0 k a0 a1 true) else (spec_l18Cmp.j0 k a0 a1 (a1 == 0))))
/-! ### spec_l18From: function 48 -/
mutual
def spec_l18From.l0 : Nat → Int → List Int → List Int → List Bool → Int → Int → Int → List Int → Option (List Int × List Int)
  | 0,_,_,_,_,_,_,_,_ => none
  | k + 1,x1,x7,x8,x9,x28,x29,x341000,x341001 => if x29 < x28 then (if 0 ≤ x29 then (if x29 < (x7.length : Int) then (if x29 < (x8.length : Int) then (spec_l18From.l0 k x1 (x7.set (x29 : Int).toNat (-1)) (x8.set (x29 : Int).toNat (-1)) x9 x28 (wrap64 (x29 + 1)) x341000 x341001) else (none)) else (none)) else (none)) else (if 0 ≤ x1 then (if x1 < (x7.length : Int) then (if x1 < (x8.length : Int) then (spec_l18From.l1 k (x7.set (x1 : Int).toNat 0) (x8.set (x1 : Int).toNat 0) x9 x341000 x341001) else (none)) else (none)) else (none))
def spec_l18From.l1 : Nat → List Int → List Int → List Bool → Int → List Int → Option (List Int × List Int)
  | 0,_,_,_,_,_ => none
  | k + 1,x7,x8,x9,x341000,x341001 => spec_l18From.l2 k x7 x8 x9 (-1) (x7.length : Int) 0 x341000 x341001
def spec_l18From.l2 : Nat → List Int → List Int → List Bool → Int → Int → Int → Int → List Int → Option (List Int × List Int)
  | 0,_,_,_,_,_,_,_,_ => none
  | k + 1,x7,x8,x9,x11,x46,x47,x341000,x341001 => if x47 < x46 then (if 0 ≤ x47 then (if x47 < (x7.length : Int) then (if (rd x7 x47) ≥ 0 then (if x47 < (x9.length : Int) then (if rdOf false x9 x47 = true then (spec_l18From.l2 k x7 x8 x9 x11 x46 (wrap64 (x47 + 1)) x341000 x341001) else (if x11 < 0 then (spec_l18From.l2 k x7 x8 x9 x47 x46 (wrap64 (x47 + 1)) x341000 x341001) else (if 0 ≤ x11 then (if x11 < (x7.length : Int) then (if x47 < (x8.length : Int) then (if x11 < (x8.length : Int) then ((spec_l18Cmp.f k (wrap64 ((rd x7 x47) - (rd x7 x11))) (wrap64 ((rd x8 x47) - (rd x8 x11)))).bind fun t360 => (if t360 < 0 then (spec_l18From.l2 k x7 x8 x9 x47 x46 (wrap64 (x47 + 1)) x341000 x341001) else (spec_l18From.l2 k x7 x8 x9 x11 x46 (wrap64 (x47 + 1)) x341000 x341001))) else (none)) else (none)) else (none)) else (none)))) else (none)) else (spec_l18From.l2 k x7 x8 x9 x11 x46 (wrap64 (x47 + 1)) x341000 x341001)) else (none)) else (none)) else (if x11 < 0 then (some (x7,x8)) else (if 0 ≤ x11 then (if x11 < (x9.length : Int) then ((spec_l18Around.f k x341000 x341001 x11).bind fun t362 => (spec_l18From.l3 k x7 x8 (x9.set (x11 : Int).toNat true) x11 t362 (t362.length : Int) 0 x341000 x341001)) else (none)) else (none)))
def spec_l18From.l3 : Nat → List Int → List Int → List Bool → Int → List Int → Int → Int → Int → List Int → Option (List Int × List Int)
  | 0,_,_,_,_,_,_,_,_,_ => none
  | k + 1,x7,x8,x9,x11,x99,x100,x101,x341000,x341001 => if x101 < x100 then (if 0 ≤ x101 then (if x101 < (x99.length : Int) then ((spec_l18Step.f k x341000 x341001 x11 (rd x99 x101)).bind fun t366 => (if t366 = 0 then (spec_l18From.j4 k x7 x8 x9 x11 (rd x99 x101) t366 x99 x100 x101 true x341000 x341001) else (if 0 ≤ (rd x99 x101) then (if (rd x99 x101) < (x9.length : Int) then (spec_l18From.j4 k x7 x8 x9 x11 (rd x99 x101) t366 x99 x100 x101 (rdOf false x9 (rd x99 x101)) x341000 x341001) else (none)) else (none)))) else (none)) else (none)) else (spec_l18From.l1 k x7 x8 x9 x341000 x341001)
def spec_l18From.j4 : Nat → List Int → List Int → List Bool → Int → Int → Int → List Int → Int → Int → Bool → Int → List Int → Option (List Int × List Int)
  | 0,_,_,_,_,_,_,_,_,_,_,_,_ => none
  | k + 1,x7,x8,x9,x11,x14,x15,x99,x100,x101,x116,x341000,x341001 => if x116 = true then (spec_l18From.l3 k x7 x8 x9 x11 x99 x100 (wrap64 (x101 + 1)) x341000 x341001) else (if 0 ≤ x11 then (if x11 < (x7.length : Int) then (if x11 < (x8.length : Int) then (if x15 = 1 then (if 0 ≤ x14 then (if x14 < (x7.length : Int) then (if (rd x7 x14) < 0 then (if x14 < (x8.length : Int) then (spec_l18From.l3 k (x7.set (x14 : Int).toNat (wrap64 ((rd x7 x11) + 1))) (x8.set (x14 : Int).toNat (rd x8 x11)) x9 x11 x99 x100 (wrap64 (x101 + 1)) x341000 x341001) else (none)) else (if x14 < (x8.length : Int) then ((spec_l18Cmp.f k (wrap64 ((wrap64 ((rd x7 x11) + 1)) - (rd x7 x14))) (wrap64 ((rd x8 x11) - (rd x8 x14)))).bind fun t375 => (if t375 < 0 then (spec_l18From.l3 k (x7.set (x14 : Int).toNat (wrap64 ((rd x7 x11) + 1))) (x8.set (x14 : Int).toNat (rd x8 x11)) x9 x11 x99 x100 (wrap64 (x101 + 1)) x341000 x341001) else (spec_l18From.l3 k x7 x8 x9 x11 x99 x100 (wrap64 (x101 + 1)) x341000 x341001))) else (none))) else (none)) else (none)) else (if 0 ≤ x14 then (if x14 < (x7.length : Int) then (if (rd x7 x14) < 0 then (if x14 < (x8.length : Int) then (spec_l18From.l3 k (x7.set (x14 : Int).toNat (rd x7 x11)) (x8.set (x14 : Int).toNat (wrap64 ((rd x8 x11) + 1))) x9 x11 x99 x100 (wrap64 (x101 + 1)) x341000 x341001) else (none)) else (if x14 < (x8.length : Int) then ((spec_l18Cmp.f k (wrap64 ((rd x7 x11) - (rd x7 x14))) (wrap64 ((wrap64 ((rd x8 x11) + 1)) - (rd x8 x14)))).bind fun t383 => (if t383 < 0 then (spec_l18From.l3 k (x7.set (x14 : Int).toNat (rd x7 x11)) (x8.set (x14 : Int).toNat (wrap64 ((rd x8 x11) + 1))) x9 x11 x99 x100 (wrap64 (x101 + 1)) x341000 x341001) else (spec_l18From.l3 k x7 x8 x9 x11 x99 x100 (wrap64 (x101 + 1)) x341000 x341001))) else (none))) else (none)) else (none))) else (none)) else (none)) else (none))
end
def spec_l18From.f (k : Nat) (a0_0 : Int) (l0_1 : List Int) (a1 : Int) : Option (List Int × List Int):=if 0 ≤ (l0_1.length : Int) then (if ((l0_1.length : Int) : Int).toNat ≤ 35184372088832 then ((some (List.replicate ((l0_1.length : Int) : Int).toNat 0 : List Int)).bind fun y341 => (if ((l0_1.length : Int) : Int).toNat ≤ 281474976710656 then (spec_l18From.l0 k a1 y341 (List.replicate ((l0_1.length : Int) : Int).toNat 0) (List.replicate ((l0_1.length : Int) : Int).toNat false) (y341.length : Int) 0 a0_0 l0_1) else (none))) else (none)) else (none)
/-! ### spec_ShortestWay: function 30 -/
mutual
def spec_ShortestWay.j0 : Nat → Int → Int → Bool → Int → List Int → Option (List Int × Int × Int × Bool)
  | 0,_,_,_,_,_ => none
  | k + 1,x1,x2,x29,x387000,x387001 => if x29 = true then (some (([] : List Int),0,0,false)) else ((spec_l18From.f k x387000 x387001 x2).bind fun bt391 => (if 0 ≤ x1 then (if x1 < (bt391.1.length : Int) then (if (rd bt391.1 x1) < 0 then (some (([] : List Int),0,0,false)) else (if x1 < (bt391.2.length : Int) then (spec_ShortestWay.l0 k x2 bt391.1 bt391.2 x1 x387000 x387001 (([x1] : List Int)) (rd bt391.1 x1) (rd bt391.2 x1)) else (none))) else (none)) else (none)))
def spec_ShortestWay.l0 : Nat → Int → List Int → List Int → Int → Int → List Int → List Int → Int → Int → Option (List Int × Int × Int × Bool)
  | 0,_,_,_,_,_,_,_,_,_ => none
  | k + 1,x2,x8,x9,x11,x387000,x387001,x404000,x404001,x404002 => if x11 = x2 then (some (x404000,x404001,x404002,true)) else ((spec_l18Around.f k x387000 x387001 x11).bind fun t404 => (spec_ShortestWay.l1 k x2 x8 x9 x11 t404 (t404.length : Int) 0 x387000 x387001 x404000 x404001 x404002))
def spec_ShortestWay.l1 : Nat → Int → List Int → List Int → Int → List Int → Int → Int → Int → List Int → List Int → Int → Int → Option (List Int × Int × Int × Bool)
  | 0,_,_,_,_,_,_,_,_,_,_,_,_ => none
  | k + 1,x2,x8,x9,x11,x60,x61,x62,x387000,x387001,x404000,x404001,x404002 => if x62 < x61 then (if 0 ≤ x62 then (if x62 < (x60.length : Int) then ((spec_l18Step.f k x387000 x387001 x11 (rd x60 x62)).bind fun t411 => (if t411 = 1 then (if 0 ≤ (rd x60 x62) then (if (rd x60 x62) < (x8.length : Int) then (if 0 ≤ x11 then (if x11 < (x8.length : Int) then (if (rd x60 x62) < (x9.length : Int) then (if x11 < (x9.length : Int) then ((spec_l18Cmp.f k (wrap64 ((wrap64 ((rd x8 (rd x60 x62)) + 1)) - (rd x8 x11))) (wrap64 ((rd x9 (rd x60 x62)) - (rd x9 x11)))).bind fun t416 => (if t416 = 0 then (if x404000.length < 17592186044416 then (spec_ShortestWay.l0 k x2 x8 x9 (rd x60 x62) x387000 x387001 (x404000 ++ [rd x60 x62]) x404001 x404002) else (none)) else (if t411 = 2 then ((spec_l18Cmp.f k (wrap64 ((rd x8 (rd x60 x62)) - (rd x8 x11))) (wrap64 ((wrap64 ((rd x9 (rd x60 x62)) + 1)) - (rd x9 x11)))).bind fun t424 => (if t424 = 0 then (if x404000.length < 17592186044416 then (spec_ShortestWay.l0 k x2 x8 x9 (rd x60 x62) x387000 x387001 (x404000 ++ [rd x60 x62]) x404001 x404002) else (none)) else (spec_ShortestWay.l1 k x2 x8 x9 x11 x60 x61 (wrap64 (x62 + 1)) x387000 x387001 x404000 x404001 x404002))) else (spec_ShortestWay.l1 k x2 x8 x9 x11 x60 x61 (wrap64 (x62 + 1)) x387000 x387001 x404000 x404001 x404002)))) else (none)) else (none)) else (none)) else (none)) else (none)) else (none)) else (if t411 = 2 then (if 0 ≤ (rd x60 x62) then (if (rd x60 x62) < (x8.length : Int) then (if 0 ≤ x11 then (if x11 < (x8.length : Int) then (if (rd x60 x62) < (x9.length : Int) then (if x11 < (x9.length : Int) then ((spec_l18Cmp.f k (wrap64 ((rd x8 (rd x60 x62)) - (rd x8 x11))) (wrap64 ((wrap64 ((rd x9 (rd x60 x62)) + 1)) - (rd x9 x11)))).bind fun t432 => (if t432 = 0 then (if x404000.length < 17592186044416 then (spec_ShortestWay.l0 k x2 x8 x9 (rd x60 x62) x387000 x387001 (x404000 ++ [rd x60 x62]) x404001 x404002) else (none)) else (spec_ShortestWay.l1 k x2 x8 x9 x11 x60 x61 (wrap64 (x62 + 1)) x387000 x387001 x404000 x404001 x404002))) else (none)) else (none)) else (none)) else (none)) else (none)) else (none)) else (spec_ShortestWay.l1 k x2 x8 x9 x11 x60 x61 (wrap64 (x62 + 1)) x387000 x387001 x404000 x404001 x404002)))) else (none)) else (none)) else (if x404000.length < 17592186044416 then (spec_ShortestWay.l0 k x2 x8 x9 x11 x387000 x387001 (x404000 ++ [x11]) x404001 x404002) else (none))
end
def spec_ShortestWay.f (k : Nat) (a0_0 : Int) (l0_1 : List Int) (a1 : Int) (a2 : Int) : Option (List Int × Int × Int × Bool):=(spec_GoodCells.f k a0_0 l0_1).bind fun t388 => (if t388 = true then ((spec_l12Free.f a0_0 l0_1 a1).bind fun t389 => (if t389 = true then ((spec_l12Free.f a0_0 l0_1 a2).bind fun t390 => (spec_ShortestWay.j0 k a1 a2 (!t390) a0_0 l0_1)) else (spec_ShortestWay.j0 k a1 a2 true a0_0 l0_1))) else (spec_ShortestWay.j0 k a1 a2 true a0_0 l0_1))
/-! ### impl_sign: function 65 -/
def impl_sign.f (a0 : Int) : Option (Int):=if a0 < 0 then (some (-1)) else (if a0 > 0 then (some 1) else (some 0))

/-! ### impl_cmpCost: function 51 -/
def impl_cmpCost.f (a0 : Int) (a1 : Int) : Option (Int):=(impl_sign.f a0).bind fun t436 => ((impl_sign.f a1).bind fun t437 => (if (wrap64 (t436 * t437)) ≥ 0 then ((impl_sign.f (wrap64 (a0 + a1))).bind fun t438 => (some t438)) else ((impl_sign.f a0).bind fun t439 => ((impl_sign.f (wrap64 ((wrap64 (a0 * a0)) - (wrap64 ((wrap64 (2 * a1)) * a1))))).bind fun t440 => (some (wrap64 (t439 * t440)))))))

/-! ### impl_Cells_next: function 58 -/
def impl_Cells_next.f (a0_0 : Int) (l0_1 : List Int) (a1 : Int) (a2 : Int) (a3 : Int) : Option (Int):=if a0_0 = 0 then (none) else (if (wrap64 ((Int.tmod a1 a0_0) + a2)) < 0 then (some (-1)) else (if (wrap64 ((Int.tmod a1 a0_0) + a2)) ≥ a0_0 then (some (-1)) else (if (wrap64 ((wrap64 (Int.tdiv a1 a0_0)) + a3)) < 0 then (some (-1)) else (if (wrap64 ((wrap64 (Int.tdiv a1 a0_0)) + a3)) ≥ (wrap64 ((l0_1.length : Int) / a0_0)) then (some (-1)) else (some (wrap64 ((wrap64 ((wrap64 ((wrap64 (Int.tdiv a1 a0_0)) + a3)) * a0_0)) + (wrap64 ((Int.tmod a1 a0_0) + a2)))))))))

/-! ### impl_Cells_step: function 45 -/
def impl_Cells_step.j0 : Nat → Int → Int → Bool → Int → List Int → Option (Int × Int × Bool)
  | 0,_,_,_,_,_ => none
  | k + 1,x1,x2,x19,x443000,x443001 => if x19 = true then (some (0,0,false)) else (if x443000 = 0 then (none) else (if (wrap64 ((wrap64 ((wrap64 ((Int.tmod x2 x443000) - (Int.tmod x1 x443000))) * (wrap64 ((Int.tmod x2 x443000) - (Int.tmod x1 x443000))))) + (wrap64 ((wrap64 ((wrap64 (Int.tdiv x2 x443000)) - (wrap64 (Int.tdiv x1 x443000)))) * (wrap64 ((wrap64 (Int.tdiv x2 x443000)) - (wrap64 (Int.tdiv x1 x443000)))))))) = 1 then (some (1,0,true)) else (if (wrap64 ((wrap64 ((wrap64 ((Int.tmod x2 x443000) - (Int.tmod x1 x443000))) * (wrap64 ((Int.tmod x2 x443000) - (Int.tmod x1 x443000))))) + (wrap64 ((wrap64 ((wrap64 (Int.tdiv x2 x443000)) - (wrap64 (Int.tdiv x1 x443000)))) * (wrap64 ((wrap64 (Int.tdiv x2 x443000)) - (wrap64 (Int.tdiv x1 x443000)))))))) = 2 then ((impl_Cells_next.f x443000 x443001 x1 (wrap64 ((Int.tmod x2 x443000) - (Int.tmod x1 x443000))) 0).bind fun t446 => ((impl_Cells_free.f x443000 x443001 t446).bind fun t447 => (if t447 = true then ((impl_Cells_next.f x443000 x443001 x1 0 (wrap64 ((wrap64 (Int.tdiv x2 x443000)) - (wrap64 (Int.tdiv x1 x443000))))).bind fun t448 => ((impl_Cells_free.f x443000 x443001 t448).bind fun t449 => (some (0,1,t449)))) else (some (0,1,false))))) else (some (0,0,false)))))
def impl_Cells_step.f (k : Nat) (a0_0 : Int) (l0_1 : List Int) (a1 : Int) (a2 : Int) : Option (Int × Int × Bool):=(impl_Cells_free.f a0_0 l0_1 a1).bind fun t444 => (if t444 = true then ((impl_Cells_free.f a0_0 l0_1 a2).bind fun t445 => (impl_Cells_step.j0 k a1 a2 (!t445) a0_0 l0_1)) else (impl_Cells_step.j0 k a1 a2 true a0_0 l0_1))
/-! ### impl_Cells_around: function 52 -/
mutual
def impl_Cells_around.l0 : Nat → Int → List Int → List (S66) → Int → Int → List Int → Option (List Int × (List (S66)))
  | 0,_,_,_,_,_,_ => none
  | k + 1,x1,x6,x7,x8,x451000,x451001 => if x8 ≤ 1 then (impl_Cells_around.l1 k x1 x6 x7 x8 (-1) x451000 x451001) else (some (x6,x7))
def impl_Cells_around.l1 : Nat → Int → List Int → List (S66) → Int → Int → Int → List Int → Option (List Int × (List (S66)))
  | 0,_,_,_,_,_,_,_ => none
  | k + 1,x1,x6,x7,x8,x9,x451000,x451001 => if x9 ≤ 1 then ((impl_Cells_next.f x451000 x451001 x1 x9 x8).bind fun t451 => (if t451 < 0 then (impl_Cells_around.j2 k x1 x6 x7 x8 x9 t451 true x451000 x451001) else (impl_Cells_around.j2 k x1 x6 x7 x8 x9 t451 (t451 == x1) x451000 x451001))) else (impl_Cells_around.l0 k x1 x6 x7 (wrap64 (x8 + 1)) x451000 x451001)
def impl_Cells_around.j2 : Nat → Int → List Int → List (S66) → Int → Int → Int → Bool → Int → List Int → Option (List Int × (List (S66)))
  | 0,_,_,_,_,_,_,_,_,_ => none
  | k + 1,x1,x6,x7,x8,x9,x10,x32,x451000,x451001 => if x32 = true then (impl_Cells_around.l1 k x1 x6 x7 x8 (wrap64 (x9 + 1)) x451000 x451001) else ((impl_Cells_step.f k x451000 x451001 x1 x10).bind fun bt452 => (if bt452.2.2 = true then ((some (([x10] : List Int) : List Int)).bind fun y456 => (if x6.length + y456.length < 17592186044416 then ((some (([(⟨bt452.1,bt452.2.1⟩ : S66)] : List (S66)) : List (S66))).bind fun y462 => (if x7.length + y462.length < 8796093022208 then (impl_Cells_around.l1 k x1 (x6 ++ y456) (x7 ++ y462) x8 (wrap64 (x9 + 1)) x451000 x451001) else (none))) else (none))) else (impl_Cells_around.l1 k x1 x6 x7 x8 (wrap64 (x9 + 1)) x451000 x451001)))
end
def impl_Cells_around.f (k : Nat) (a0_0 : Int) (l0_1 : List Int) (a1 : Int) : Option (List Int × (List (S66))):=impl_Cells_around.l0 k a1 ([] : List Int) ([] : List (S66)) (-1) a0_0 l0_1
end Go.Proofs.Ytjcmlggdaajicaa.Pr
/-
Own text,by hand: the contract of (Cells).clear.
-/
namespace Go.Proofs.Ytjcmlggdaajicaa.Pr
open Go.RowKit Go.Proofs.YtjcmlggdaajicaaW.PrintWords Go.Proofs.YtjcmlggdaajicaaW.PrintLast Go.Proofs.YtjcmlggdaajicaaW.PrintMore
attribute [local go_sem] max2_int min2_int max_two min_two

end Go.Proofs.Ytjcmlggdaajicaa.Pr
namespace Go.Proofs.Ytjcmlggdaajicaa.Pr
open Go.RowKit Go.Proofs.YtjcmlggdaajicaaW.PrintWords Go.Proofs.YtjcmlggdaajicaaW.PrintLast Go.Proofs.YtjcmlggdaajicaaW.PrintMore
attribute [local go_sem] max2_int min2_int max_two min_two max_three min_three max_four min_four
set_option linter.unusedVariables false
set_option linter.unusedSimpArgs false

set_option maxHeartbeats 8000000 in
set_option maxRecDepth 100000 in
theorem spec_l12Sized.calls (a0 : Int) (a1 : Int) (r : Bool) (w : World) (h : spec_l12Sized.f a0 a1 = some r) :
   Calls Try.prog 47 #[.int .i64 a0,.int .i64 a1] w fun e w' => e = .returned (.bool r) ∧ Drawn0 w w':=by
  have H : (if a0 ≥ 1 then (if a0 ≤ 16 then (if a1 ≥ a0 then (if a0 = 0 then (none) else (if (Int.tmod a1 a0) = 0 then (some (decide ((wrap64 (Int.tdiv a1 a0)) ≤ 16))) else (some false))) else (some false)) else (some false)) else (some false)) = some r:=h;clear h;by_cases c3 : a0 ≥ 1
  ·rw [if_pos c3] at H
   have z0 : decide (1 ≤ a0) = true:=decide_eq_true c3;clear c3;by_cases c4 : a0 ≤ 16
   ·rw [if_pos c4] at H
    have z1 : decide (a0 ≤ 16) = true:=decide_eq_true c4;clear c4;by_cases c5 : a1 ≥ a0
    ·rw [if_pos c5] at H
     have z2 : decide (a0 ≤ a1) = true:=decide_eq_true c5;clear c5;by_cases c6 : a0 = 0
     ·rw [if_pos c6] at H
      exact absurd H (by simp)
     ·rw [if_neg c6] at H
      have z5 : (a0 == 0) = false:=beq_eq_false_iff_ne.mpr c6;have z6 : (a0 != 0) = true:=bne_iff_ne.mpr c6;by_cases c7 : (Int.tmod a1 a0) = 0
      ·rw [if_pos c7] at H
       have z3 : ((Int.tmod a1 a0) == 0) = true:=beq_iff_eq.mpr c7;have z4 : ((Int.tmod a1 a0) != 0) = false:=bne_eq_false_iff_eq.mpr c7;clear c7
       obtain rfl:=Option.some.inj H
       go_enter Try.func47,Try.ntmps47;go_wp2;go_ret;exact ⟨es_,by repeat (first | exact Drawn0.refl _ | apply Drawn0.step)⟩
      ·rw [if_neg c7] at H
       have z3 : ((Int.tmod a1 a0) == 0) = false:=beq_eq_false_iff_ne.mpr c7;have z4 : ((Int.tmod a1 a0) != 0) = true:=bne_iff_ne.mpr c7
       obtain rfl:=Option.some.inj H
       go_enter Try.func47,Try.ntmps47;go_wp2;go_ret;exact ⟨es_,by repeat (first | exact Drawn0.refl _ | apply Drawn0.step)⟩
    ·rw [if_neg c5] at H
     have z2 : decide (a0 ≤ a1) = false:=decide_eq_false c5;clear c5
     obtain rfl:=Option.some.inj H
     go_enter Try.func47,Try.ntmps47;go_wp2;go_ret;exact ⟨es_,by repeat (first | exact Drawn0.refl _ | apply Drawn0.step)⟩
   ·rw [if_neg c4] at H
    have z1 : decide (a0 ≤ 16) = false:=decide_eq_false c4;clear c4
    obtain rfl:=Option.some.inj H
    go_enter Try.func47,Try.ntmps47;go_wp2;go_ret;exact ⟨es_,by repeat (first | exact Drawn0.refl _ | apply Drawn0.step)⟩
  ·rw [if_neg c3] at H
   have z0 : decide (1 ≤ a0) = false:=decide_eq_false c3;clear c3
   obtain rfl:=Option.some.inj H
   go_enter Try.func47,Try.ntmps47;go_wp2;go_ret;exact ⟨es_,by repeat (first | exact Drawn0.refl _ | apply Drawn0.step)⟩

set_option maxHeartbeats 8000000 in
set_option maxRecDepth 100000 in
theorem spec_GoodCells.calls (k : Nat) (a0_0 : Int) (z7 : Option Addr) (c0_1 : Nat) (z0 : List Int) (r : Bool) (w : World) (hr0_1 : Kd.C (Kd.int .i64) w z7 z0.length z0) (hc0_1 : z0.length ≤ c0_1) (h : spec_GoodCells.f k a0_0 z0 = some r) :
   Calls Try.prog 28 #[.agg #[.int .i64 a0_0,.slice z7 z0.length c0_1]] w fun e w' => e = .returned (.bool r) ∧ Below w.heap.size w w':=by
  have r5:=Try.underlying27;have z8:=Aside0.mk hr0_1;have r4:=Aside0.mk hc0_1;clear hr0_1 hc0_1;have HB:=ak (Below.refl w.heap.size w);have H : ((spec_l12Sized.f a0_0 (z0.length : Int)).bind fun z9 => (if z9 = true then (spec_GoodCells.l0 k z0 (z0.length : Int) 0) else (some false))) = some r:=h;clear h;replace H:=Option.bind_eq_some_iff.mp H;obtain ⟨z9,A20,H⟩:=H;replace H : (if z9 = true then (spec_GoodCells.l0 k z0 (z0.length : Int) 0) else (some false)) = some r:=H;have A2:=Aside0.mk A20;clear A20;by_cases c3 : z9 = true
  ·subst c3
   rw [if_pos rfl] at H;have H':=Aside0.mk H;clear H;go_enter Try.func28,Try.ntmps28;go_wp2_with (first | ((with_reducible refine gate_dst (N:=1) rfl ?_);refine box_event ?hg (N:=1) ?hd (cs:=#[.int .i64 a0_0,.slice z7 z0.length c0_1]) (t:=27) ?hr ?_;(case hd => rfl);(case hg => rfl);(case hr => first | (go_simp;done) | (go_simp;rfl));intro z4 hg w4 hbox hb;have z2:=ak (hbox);have j1 : Aside0 (w.heap.size ≤ z4):=gz_;have j2 : Aside0 (w.heap.size ≤ z4):=gz_;replace HB:=ak (below_step hb_ hb);clear hb hbox hg;have r0:=b20 z2;have r1:=b21 z2;have r2:=blk_frozen z2.out 0;have r3:=blk_frozen z2.out 1) | ((with_reducible refine gate_callee (f:=47) rfl ?_);refine goesL_ (some 10) rfl rfl Try.func47 (by kernel_rfl) rfl #[.int .i64 a0_0,.int .i64 (z0.length : Int)] rfl ls_ ?_;(with_reducible refine (spec_l12Sized.calls a0_0 (z0.length : Int) true _ A2.out).mono ?_);rintro e w' ⟨rfl,⟨nd,rfl⟩⟩;refine ⟨_,rfl,?_⟩))
   go_loopg [15] k (fun kq v15 w' => ∃ (z1 : Int),v15 = .int .i64 z1 ∧ Aside0 (spec_GoodCells.l0 kq z0 (z0.length : Int) z1 = some r) ∧ Aside0 (kq ≤ k) ∧ Aside0 (w'.heap[z4]? = some (.cells #[.int .i64 a0_0,(.slice z7 z0.length c0_1)] 27 (0,0))) ∧ Aside0 (Below w.heap.size w w'))
   case atStart => exact ⟨(0),es_,H',⟨Nat.le_refl _⟩,⟨bk_ z2.out⟩,⟨hb_⟩⟩
   case round =>
    clear H';obtain ⟨z1,rfl,HA,HK1,z2,HB⟩:=hrel
    cases gk with
    | zero => exact absurd HA.out (by simp [spec_GoodCells.l0])
    | succ k1 =>
     have H:=HA.out;clear HA;simp only [spec_GoodCells.l0] at H;by_cases c6 : z1 < (z0.length : Int)
     ·rw [if_pos c6] at H
      have j4 : decide (z1 < (z0.length : Int)) = true:=decide_eq_true c6;clear c6;by_cases c7 : 0 ≤ z1
      ·rw [if_pos c7] at H
       have r6 : decide (0 ≤ z1) = true:=decide_eq_true c7;clear c7;by_cases c8 : z1 < (z0.length : Int)
       ·rw [if_pos c8] at H
        have r7 : decide (z1 < (z0.length : Int)) = true:=decide_eq_true c8;clear c8;by_cases c9 : (rd z0 z1) < 0
        ·rw [if_pos c9] at H
         have j5 : decide ((rd z0 z1) < 0) = true:=decide_eq_true c9;clear c9
         obtain rfl:=Option.some.inj H
         have z5 : 0 ≤ (z1 : Int):=of_decide_eq_true as_;have z6 : z1 < (z0.length : Int):=of_decide_eq_true as_;obtain ⟨j0,e113,z3⟩:=Kd.at_int z8.out z1 z5 z6;cases e113;replace z3:=hc_ HB z3;replace z5:=eq_true z5;replace z6:=eq_true z6;go_wp2;go_ret;exact ⟨er_,hb_⟩
        ·rw [if_neg c9] at H
         have j5 : decide ((rd z0 z1) < 0) = false:=decide_eq_false c9;clear c9;by_cases c10 : (rd z0 z1) > 2
         ·rw [if_pos c10] at H
          have j3 : decide (2 < (rd z0 z1)) = true:=decide_eq_true c10;clear c10
          obtain rfl:=Option.some.inj H
          have z5 : 0 ≤ (z1 : Int):=of_decide_eq_true as_;have z6 : z1 < (z0.length : Int):=of_decide_eq_true as_;obtain ⟨j0,e113,z3⟩:=Kd.at_int z8.out z1 z5 z6;cases e113;replace z3:=hc_ HB z3;replace z5:=eq_true z5;replace z6:=eq_true z6;go_wp2;go_ret;exact ⟨er_,hb_⟩
         ·rw [if_neg c10] at H
          have j3 : decide (2 < (rd z0 z1)) = false:=decide_eq_false c10;clear c10;have H':=Aside0.mk H;clear H;have z5 : 0 ≤ (z1 : Int):=of_decide_eq_true as_;have z6 : z1 < (z0.length : Int):=of_decide_eq_true as_;obtain ⟨j0,e113,z3⟩:=Kd.at_int z8.out z1 z5 z6;cases e113;replace z3:=hc_ HB z3;replace z5:=eq_true z5;replace z6:=eq_true z6;go_wp2;go_roundg k1
          case measure => have:=HK1.out;omega
          case rel => exact ⟨(wrap64 (z1 + 1)),es_,H',⟨by have:=HK1.out;omega⟩,⟨bk_ z2.out⟩,⟨hb_⟩⟩
       ·rw [if_neg c8] at H
        exact absurd H (by simp)
      ·rw [if_neg c7] at H
       exact absurd H (by simp)
     ·rw [if_neg c6] at H
      have j4 : decide (z1 < (z0.length : Int)) = false:=decide_eq_false c6;clear c6
      obtain rfl:=Option.some.inj H
      go_wp2;go_ret;exact ⟨er_,hb_⟩
  ·replace c3:=Bool.eq_false_iff.mpr c3
   subst c3;rw [if_neg (show ¬ (false = true) by decide)] at H
   obtain rfl:=Option.some.inj H
   go_enter Try.func28,Try.ntmps28;go_wp2_with (first | ((with_reducible refine gate_dst (N:=1) rfl ?_);refine box_event ?hg (N:=1) ?hd (cs:=#[.int .i64 a0_0,.slice z7 z0.length c0_1]) (t:=27) ?hr ?_;(case hd => rfl);(case hg => rfl);(case hr => first | (go_simp;done) | (go_simp;rfl));intro z4 hg w11 hbox hb;have z2:=ak (hbox);have j1 : Aside0 (w.heap.size ≤ z4):=gz_;have j2 : Aside0 (w.heap.size ≤ z4):=gz_;replace HB:=ak (below_step hb_ hb);clear hb hbox hg;have j6:=b20 z2;have j7:=b21 z2;have j8:=blk_frozen z2.out 0;have j9:=blk_frozen z2.out 1) | ((with_reducible refine gate_callee (f:=47) rfl ?_);refine goesL_ (some 10) rfl rfl Try.func47 (by kernel_rfl) rfl #[.int .i64 a0_0,.int .i64 (z0.length : Int)] rfl ls_ ?_;(with_reducible refine (spec_l12Sized.calls a0_0 (z0.length : Int) false _ A2.out).mono ?_);rintro e w' ⟨rfl,⟨nd,rfl⟩⟩;refine ⟨_,rfl,?_⟩));go_ret;exact ⟨er_,hb_⟩

set_option maxHeartbeats 8000000 in
set_option maxRecDepth 100000 in
theorem spec_l12Free.calls (a0_0 : Int) (z3 : Option Addr) (c0_1 : Nat) (z0 : List Int) (a1 : Int) (r : Bool) (w : World) (hr0_1 : Kd.C (Kd.int .i64) w z3 z0.length z0) (hc0_1 : z0.length ≤ c0_1) (h : spec_l12Free.f a0_0 z0 a1 = some r) :
   Calls Try.prog 43 #[.agg #[.int .i64 a0_0,.slice z3 z0.length c0_1],.int .i64 a1] w fun e w' => e = .returned (.bool r) ∧ Below w.heap.size w w':=by
  have r2:=Try.underlying27;have z9:=Aside0.mk hr0_1;have r0:=Aside0.mk hc0_1;clear hr0_1 hc0_1;have HB:=ak (Below.refl w.heap.size w);have H : (if a1 ≥ 0 then (if a1 < (z0.length : Int) then (if 0 ≤ a1 then (some ((rd z0 a1) == 0)) else (none)) else (some false)) else (some false)) = some r:=h;clear h;by_cases c3 : a1 ≥ 0
  ·rw [if_pos c3] at H
   have j0 : decide (0 ≤ a1) = true:=decide_eq_true c3;clear c3;by_cases c4 : a1 < (z0.length : Int)
   ·rw [if_pos c4] at H
    have j1 : decide (a1 < (z0.length : Int)) = true:=decide_eq_true c4;clear c4;by_cases c5 : 0 ≤ a1
    ·rw [if_pos c5] at H
     have r3 : decide (0 ≤ a1) = true:=decide_eq_true c5;clear c5
     obtain rfl:=Option.some.inj H
     go_enter Try.func43,Try.ntmps43;go_wp2_with (first | ((with_reducible refine gate_dst (N:=2) rfl ?_);(try (refine gate_guard (by rfl) ?_;dsimp only));refine box_event ?hg (N:=2) ?hd (cs:=#[.int .i64 a0_0,.slice z3 z0.length c0_1]) (t:=27) ?hr ?_;(case hd => rfl);(case hg => rfl);(case hr => first | (go_simp;done) | (go_simp;rfl));intro z1 hg w6 hbox hb;have z2:=ak (hbox);have z7 : Aside0 (w.heap.size ≤ z1):=gz_;have z8 : Aside0 (w.heap.size ≤ z1):=gz_;replace HB:=ak (below_step hb_ hb);clear hb hbox hg;have j2:=b20 z2;have j3:=b21 z2;have j4:=blk_frozen z2.out 0;have j5:=blk_frozen z2.out 1;have z5 : 0 ≤ (a1 : Int):=of_decide_eq_true as_;have z6 : a1 < (z0.length : Int):=of_decide_eq_true as_;obtain ⟨r1,e115,z4⟩:=Kd.at_int z9.out a1 z5 z6;cases e115;replace z4:=hc_ HB z4;replace z5:=eq_true z5;replace z6:=eq_true z6));go_ret;exact ⟨er_,hb_⟩
    ·rw [if_neg c5] at H
     exact absurd H (by simp)
   ·rw [if_neg c4] at H
    have j1 : decide (a1 < (z0.length : Int)) = false:=decide_eq_false c4;clear c4
    obtain rfl:=Option.some.inj H
    go_enter Try.func43,Try.ntmps43;go_wp2_with (first | ((with_reducible refine gate_dst (N:=2) rfl ?_);(try (refine gate_guard (by rfl) ?_;dsimp only));refine box_event ?hg (N:=2) ?hd (cs:=#[.int .i64 a0_0,.slice z3 z0.length c0_1]) (t:=27) ?hr ?_;(case hd => rfl);(case hg => rfl);(case hr => first | (go_simp;done) | (go_simp;rfl));intro z1 hg w8 hbox hb;have z2:=ak (hbox);have z7 : Aside0 (w.heap.size ≤ z1):=gz_;have z8 : Aside0 (w.heap.size ≤ z1):=gz_;replace HB:=ak (below_step hb_ hb);clear hb hbox hg;have j6:=b20 z2;have j7:=b21 z2;have j8:=blk_frozen z2.out 0;have j9:=blk_frozen z2.out 1));go_ret;exact ⟨er_,hb_⟩
  ·rw [if_neg c3] at H
   have j0 : decide (0 ≤ a1) = false:=decide_eq_false c3;clear c3
   obtain rfl:=Option.some.inj H
   go_enter Try.func43,Try.ntmps43;go_wp2_with (first | ((with_reducible refine gate_dst (N:=2) rfl ?_);(try (refine gate_guard (by rfl) ?_;dsimp only));refine box_event ?hg (N:=2) ?hd (cs:=#[.int .i64 a0_0,.slice z3 z0.length c0_1]) (t:=27) ?hr ?_;(case hd => rfl);(case hg => rfl);(case hr => first | (go_simp;done) | (go_simp;rfl));intro z1 hg w10 hbox hb;have z2:=ak (hbox);have z7 : Aside0 (w.heap.size ≤ z1):=gz_;have z8 : Aside0 (w.heap.size ≤ z1):=gz_;replace HB:=ak (below_step hb_ hb);clear hb hbox hg));go_ret;exact ⟨er_,hb_⟩

end Go.Proofs.Ytjcmlggdaajicaa.Pr
namespace Go.Proofs.Ytjcmlggdaajicaa.Pr
open Go.RowKit Go.Proofs.YtjcmlggdaajicaaW.PrintWords Go.Proofs.YtjcmlggdaajicaaW.PrintLast Go.Proofs.YtjcmlggdaajicaaW.PrintMore
attribute [local go_sem] max2_int min2_int max_two min_two max_three min_three max_four min_four
set_option linter.unusedVariables false
set_option linter.unusedSimpArgs false

end Go.Proofs.Ytjcmlggdaajicaa.Pr
namespace Go.Proofs.Ytjcmlggdaajicaa.Pr
open Go.RowKit Go.Proofs.YtjcmlggdaajicaaW.PrintWords Go.Proofs.YtjcmlggdaajicaaW.PrintLast Go.Proofs.YtjcmlggdaajicaaW.PrintMore
attribute [local go_sem] max2_int min2_int max_two min_two max_three min_three max_four min_four
set_option linter.unusedVariables false
set_option linter.unusedSimpArgs false

end Go.Proofs.Ytjcmlggdaajicaa.Pr
namespace Go.Proofs.Ytjcmlggdaajicaa.Pr
open Go.RowKit Go.Proofs.YtjcmlggdaajicaaW.PrintWords Go.Proofs.YtjcmlggdaajicaaW.PrintLast Go.Proofs.YtjcmlggdaajicaaW.PrintMore
attribute [local go_sem] max2_int min2_int max_two min_two max_three min_three max_four min_four
set_option linter.unusedVariables false
set_option linter.unusedSimpArgs false

end Go.Proofs.Ytjcmlggdaajicaa.Pr
namespace Go.Proofs.Ytjcmlggdaajicaa.Pr
open Go.RowKit Go.Proofs.YtjcmlggdaajicaaW.PrintWords Go.Proofs.YtjcmlggdaajicaaW.PrintLast Go.Proofs.YtjcmlggdaajicaaW.PrintMore
attribute [local go_sem] max2_int min2_int max_two min_two max_three min_three max_four min_four
set_option linter.unusedVariables false
set_option linter.unusedSimpArgs false

end Go.Proofs.Ytjcmlggdaajicaa.Pr
namespace Go.Proofs.Ytjcmlggdaajicaa.Pr
open Go.RowKit Go.Proofs.YtjcmlggdaajicaaW.PrintWords Go.Proofs.YtjcmlggdaajicaaW.PrintLast Go.Proofs.YtjcmlggdaajicaaW.PrintMore
attribute [local go_sem] max2_int min2_int max_two min_two max_three min_three max_four min_four
set_option linter.unusedVariables false
set_option linter.unusedSimpArgs false

end Go.Proofs.Ytjcmlggdaajicaa.Pr
namespace Go.Proofs.Ytjcmlggdaajicaa.Pr
open Go.RowKit Go.Proofs.YtjcmlggdaajicaaW.PrintWords Go.Proofs.YtjcmlggdaajicaaW.PrintLast Go.Proofs.YtjcmlggdaajicaaW.PrintMore
attribute [local go_sem] max2_int min2_int max_two min_two max_three min_three max_four min_four
set_option linter.unusedVariables false
set_option linter.unusedSimpArgs false

end Go.Proofs.Ytjcmlggdaajicaa.Pr
namespace Go.Proofs.Ytjcmlggdaajicaa.Pr
open Go.RowKit Go.Proofs.YtjcmlggdaajicaaW.PrintWords Go.Proofs.YtjcmlggdaajicaaW.PrintLast Go.Proofs.YtjcmlggdaajicaaW.PrintMore
attribute [local go_sem] max2_int min2_int max_two min_two max_three min_three max_four min_four
set_option linter.unusedVariables false
set_option linter.unusedSimpArgs false

end Go.Proofs.Ytjcmlggdaajicaa.Pr
namespace Go.Proofs.Ytjcmlggdaajicaa.Pr
open Go.RowKit Go.Proofs.YtjcmlggdaajicaaW.PrintWords Go.Proofs.YtjcmlggdaajicaaW.PrintLast Go.Proofs.YtjcmlggdaajicaaW.PrintMore
attribute [local go_sem] max2_int min2_int max_two min_two max_three min_three max_four min_four
set_option linter.unusedVariables false
set_option linter.unusedSimpArgs false

end Go.Proofs.Ytjcmlggdaajicaa.Pr
namespace Go.Proofs.Ytjcmlggdaajicaa.Pr
open Go.RowKit Go.Proofs.YtjcmlggdaajicaaW.PrintWords Go.Proofs.YtjcmlggdaajicaaW.PrintLast Go.Proofs.YtjcmlggdaajicaaW.PrintMore
attribute [local go_sem] max2_int min2_int max_two min_two max_three min_three max_four min_four
set_option linter.unusedVariables false
set_option linter.unusedSimpArgs false

end Go.Proofs.Ytjcmlggdaajicaa.Pr
namespace Go.Proofs.Ytjcmlggdaajicaa.Pr
open Go.RowKit Go.Proofs.YtjcmlggdaajicaaW.PrintWords Go.Proofs.YtjcmlggdaajicaaW.PrintLast Go.Proofs.YtjcmlggdaajicaaW.PrintMore
attribute [local go_sem] max2_int min2_int max_two min_two max_three min_three max_four min_four
set_option linter.unusedVariables false
set_option linter.unusedSimpArgs false

set_option maxHeartbeats 8000000 in
set_option maxRecDepth 100000 in
theorem laws_szIntS.calls (A0 : Option Addr) (c0 : Nat) (l0 : List Int) (a1 : Int) (r : Int) (w : World) (hr0 : Kd.C (Kd.int .i64) w A0 l0.length l0) (hc0 : l0.length ≤ c0) (h : laws_szIntS.f l0 a1 = some r) :
   Calls Try.prog 38 #[.slice A0 l0.length c0,.int .i64 a1] w fun e w' => e = .returned (.int .i64 r) ∧ Drawn0 w w':=by
  have HR0:=Aside0.mk hr0;have HC0:=Aside0.mk hc0;clear hr0 hc0;have H : (if (wrap64 (a1 - (l0.length : Int))) < 0 then (some (-1)) else (some (wrap64 (a1 - (l0.length : Int))))) = some r:=h;clear h;by_cases c3 : (wrap64 (a1 - (l0.length : Int))) < 0
  ·rw [if_pos c3] at H
   have z0 : decide ((wrap64 (a1 - (l0.length : Int))) < 0) = true:=decide_eq_true c3;clear c3
   obtain rfl:=Option.some.inj H
   go_enter Try.func38,Try.ntmps38;go_wp2;go_ret;exact ⟨es_,by repeat (first | exact Drawn0.refl _ | apply Drawn0.step)⟩
  ·rw [if_neg c3] at H
   have z0 : decide ((wrap64 (a1 - (l0.length : Int))) < 0) = false:=decide_eq_false c3;clear c3
   obtain rfl:=Option.some.inj H
   go_enter Try.func38,Try.ntmps38;go_wp2;go_ret;exact ⟨es_,by repeat (first | exact Drawn0.refl _ | apply Drawn0.step)⟩

end Go.Proofs.Ytjcmlggdaajicaa.Pr
namespace Go.Proofs.Ytjcmlggdaajicaa.Pr
open Go.RowKit Go.Proofs.YtjcmlggdaajicaaW.PrintWords Go.Proofs.YtjcmlggdaajicaaW.PrintLast Go.Proofs.YtjcmlggdaajicaaW.PrintMore
attribute [local go_sem] max2_int min2_int max_two min_two max_three min_three max_four min_four
set_option linter.unusedVariables false
set_option linter.unusedSimpArgs false

set_option maxHeartbeats 8000000 in
set_option maxRecDepth 100000 in
theorem laws_szCells.calls (a0_0 : Int) (z4 : Option Addr) (c0_1 : Nat) (z0 : List Int) (a1 : Int) (r : Int) (w : World) (hr0_1 : Kd.C (Kd.int .i64) w z4 z0.length z0) (hc0_1 : z0.length ≤ c0_1) (h : laws_szCells.f a0_0 z0 a1 = some r) :
   Calls Try.prog 10 #[.agg #[.int .i64 a0_0,.slice z4 z0.length c0_1],.int .i64 a1] w fun e w' => e = .returned (.int .i64 r) ∧ Below w.heap.size w w':=by
  have r0:=Try.underlying24;have z7:=Aside0.mk hr0_1;have z8:=Aside0.mk hc0_1;clear hr0_1 hc0_1;have HB:=ak (Below.refl w.heap.size w);have H : ((laws_szIntS.f z0 a1).bind fun z3 => (if z3 < 0 then (some (-1)) else (some z3))) = some r:=h;clear h;replace H:=Option.bind_eq_some_iff.mp H;obtain ⟨z3,A30,H⟩:=H;replace H : (if z3 < 0 then (some (-1)) else (some z3)) = some r:=H;have A3:=Aside0.mk A30;clear A30;by_cases c4 : z3 < 0
  ·rw [if_pos c4] at H
   have j1 : decide (z3 < 0) = true:=decide_eq_true c4;clear c4
   obtain rfl:=Option.some.inj H
   go_enter Try.func10,Try.ntmps10;go_wp2_with (first | ((with_reducible refine gate_dst (N:=2) rfl ?_);refine box_event ?hg (N:=2) ?hd (cs:=#[.int .i64 a0_0,.slice z4 z0.length c0_1]) (t:=24) ?hr ?_;(case hd => rfl);(case hg => rfl);(case hr => first | (go_simp;done) | (go_simp;rfl));intro z1 hg w5 hbox hb;have z2:=ak (hbox);have z9 : Aside0 (w.heap.size ≤ z1):=gz_;have j0 : Aside0 (w.heap.size ≤ z1):=gz_;replace HB:=ak (below_step hb_ hb);clear hb hbox hg;have j2:=b20 z2;have j3:=b21 z2;have j4:=blk_frozen z2.out 0;have j5:=blk_frozen z2.out 1) | ((with_reducible refine gate_callee (f:=38) rfl ?_);refine goesL_ (some 8) rfl rfl Try.func38 (by kernel_rfl) rfl #[.slice z4 z0.length c0_1,.int .i64 a1] rfl ls_ ?_;(with_reducible refine (laws_szIntS.calls _ _ z0 a1 z3 _ ?z5 ?z6 A3.out).mono ?_);(case z5 => exact cb_ z7.out);(case z6 => exact z8.out);rintro e w' ⟨rfl,⟨nd,rfl⟩⟩;refine ⟨_,rfl,?_⟩));go_ret;exact ⟨er_,hb_⟩
  ·rw [if_neg c4] at H
   have j1 : decide (z3 < 0) = false:=decide_eq_false c4;clear c4
   obtain rfl:=Option.some.inj H
   go_enter Try.func10,Try.ntmps10;go_wp2_with (first | ((with_reducible refine gate_dst (N:=2) rfl ?_);refine box_event ?hg (N:=2) ?hd (cs:=#[.int .i64 a0_0,.slice z4 z0.length c0_1]) (t:=24) ?hr ?_;(case hd => rfl);(case hg => rfl);(case hr => first | (go_simp;done) | (go_simp;rfl));intro z1 hg w7 hbox hb;have z2:=ak (hbox);have z9 : Aside0 (w.heap.size ≤ z1):=gz_;have j0 : Aside0 (w.heap.size ≤ z1):=gz_;replace HB:=ak (below_step hb_ hb);clear hb hbox hg;have j6:=b20 z2;have j7:=b21 z2;have j8:=blk_frozen z2.out 0;have j9:=blk_frozen z2.out 1) | ((with_reducible refine gate_callee (f:=38) rfl ?_);refine goesL_ (some 8) rfl rfl Try.func38 (by kernel_rfl) rfl #[.slice z4 z0.length c0_1,.int .i64 a1] rfl ls_ ?_;(with_reducible refine (laws_szIntS.calls _ _ z0 a1 z3 _ ?z5 ?z6 A3.out).mono ?_);(case z5 => exact cb_ z7.out);(case z6 => exact z8.out);rintro e w' ⟨rfl,⟨nd,rfl⟩⟩;refine ⟨_,rfl,?_⟩));go_ret;exact ⟨er_,hb_⟩

set_option maxHeartbeats 8000000 in
set_option maxRecDepth 100000 in
theorem laws_toIntS.calls (k : Nat) (A0 : Option Addr) (c0 : Nat) (l0 : List Int) (r : List Int) (w : World) (hr0 : Kd.C (Kd.int .i64) w A0 l0.length l0) (hc0 : l0.length ≤ c0) (h : laws_toIntS.f k l0 = some r) :
   Calls Try.prog 16 #[.slice A0 l0.length c0] w fun e w' => ∃ v0_ : Value,e = .returned (v0_) ∧ Kd.R (Kd.int .i64) 3 w' w.heap.size (fun _ => True) v0_ r ∧ Below w.heap.size w w':=by
  have HR0:=Aside0.mk hr0;have HC0:=Aside0.mk hc0;clear hr0 hc0;have HB:=ak (Below.refl w.heap.size w);have H : (if 0 ≤ (l0.length : Int) then (if ((l0.length : Int) : Int).toNat ≤ 35184372088832 then (laws_toIntS.l0 k l0 (List.replicate ((l0.length : Int) : Int).toNat 0) 0) else (none)) else (none)) = some r:=h;clear h;by_cases c2 : 0 ≤ (l0.length : Int)
  ·rw [if_pos c2] at H
   have j9:=eq_true c2;have r0 : decide (0 ≤ (l0.length : Int)) = true:=decide_eq_true c2;clear c2;by_cases c3 : ((l0.length : Int) : Int).toNat ≤ 35184372088832
   ·rw [if_pos c3] at H
    have r1:=eq_true c3;have r2 : decide (((l0.length : Int) : Int).toNat ≤ 35184372088832) = true:=decide_eq_true c3;clear c3;obtain ⟨j1,z2⟩ : ∃ y_ : List Int,y_ = (List.replicate ((l0.length : Int) : Int).toNat 0):=⟨_,rfl⟩;(replace H : (laws_toIntS.l0 k l0 j1 0) = some r:=by first | (rw [z2];with_reducible exact H) | (have H2_:=(Option.bind_some _ _).symm.trans H;rw [z2];with_reducible exact H2_) | (have H2_:=(Option.bind_some _ _).symm.trans H;with_reducible exact H2_) | with_reducible exact H | (rw [z2];exact H) | exact H);have j0:=Aside0.mk z2;clear z2;have H':=Aside0.mk H;clear H;go_enter Try.func16,Try.ntmps16;go_wp2_with (first | ((with_reducible refine gate_dst (N:=7) rfl ?_);refine Kd.R_make (Kd.int .i64) _ 3 rfl (N:=7) rfl 22 _ _ rfl (l0.length : Int) rfl rfl Try.underlying22 (.int .i64 0) 8 info3 rfl (by decide) (by omega) 0 (ok:=fun _ => True) (okp:=fun _ => True) rfl (fun _ hk => hk) trivial (of_decide_eq_true as_) (Nat.le_trans (Nat.mul_le_mul_right _ (of_decide_eq_true as_ : (l0.length : Int).toNat ≤ 35184372088832)) (by omega)) (Below.refl _ _) (Nat.le_refl _) ?_;intro j4 w4 ho5 hb hg_ hnew_;clear hg_ hnew_;(first | rw [← j0.out] at ho5 | (simp only [Int.reduceToNat] at ho5;rw [← j0.out] at ho5));have j2:=ak (Kd.R_lower ho5 (below_size hb_));replace HB:=ak (below_step hb_ hb);clear hb ho5))
    go_loopg [4] k (fun kq v4 w' => ∃ (z1 : List Int) (z0 : Int),v4 = .int .i64 z0 ∧ Aside0 (laws_toIntS.l0 kq l0 z1 z0 = some r) ∧ Aside0 (kq ≤ k) ∧ Aside0 (Kd.R (Kd.int .i64) 3 w' w.heap.size (fun _ => True) j4 z1) ∧ Aside0 (Below w.heap.size w w'))
    case atStart => exact ⟨(j1),(0),es_,H',⟨Nat.le_refl _⟩,⟨ra_ j2.out⟩,⟨hb_⟩⟩
    case round =>
     clear H';obtain ⟨z1,z0,rfl,HA,HK1,z4,HB⟩:=hrel
     cases gk with
     | zero => exact absurd HA.out (by simp [laws_toIntS.l0])
     | succ k1 =>
      have H:=HA.out;clear HA;simp only [laws_toIntS.l0] at H;by_cases c6 : z0 < (l0.length : Int)
      ·rw [if_pos c6] at H
       have j5 : decide (z0 < (l0.length : Int)) = true:=decide_eq_true c6;clear c6;by_cases c7 : 0 ≤ z0
       ·rw [if_pos c7] at H
        have r3 : decide (0 ≤ z0) = true:=decide_eq_true c7;clear c7;by_cases c8 : z0 < (z1.length : Int)
        ·rw [if_pos c8] at H
         have r4 : decide (z0 < (z1.length : Int)) = true:=decide_eq_true c8;clear c8;obtain ⟨z6,z3⟩ : ∃ y_ : List Int,y_ = (z1.set (z0 : Int).toNat (rd l0 z0)):=⟨_,rfl⟩;(replace H : (laws_toIntS.l0 k1 l0 z6 (wrap64 (z0 + 1))) = some r:=by first | (rw [z3];with_reducible exact H) | (have H2_:=(Option.bind_some _ _).symm.trans H;rw [z3];with_reducible exact H2_) | (have H2_:=(Option.bind_some _ _).symm.trans H;with_reducible exact H2_) | with_reducible exact H | (rw [z3];exact H) | exact H);have j3:=Aside0.mk z3;clear z3;have H':=Aside0.mk H;clear H;have z7 : 0 ≤ (z0 : Int):=of_decide_eq_true as_;have z8 : z0 < (l0.length : Int):=of_decide_eq_true as_;obtain ⟨j6,e302,z5⟩:=Kd.at_int HR0.out z0 z7 z8;cases e302;replace z5:=hc_ HB z5;replace z7:=eq_true z7;replace z8:=eq_true z8;have p9 : 0 ≤ (z0 : Int):=of_decide_eq_true as_;have q9 : (z0 : Int) < ((z1.length : Int) : Int):=of_decide_eq_true as_;obtain ⟨go9,co9,eo9,gb9,gl9,cl9,HG9⟩:=Kd.R_form z4.out (by omega);(first | cases eo9 | (injection eo9 with ea_ en_ ec_;(first | subst ea_ | (injection ea_ with ea_;subst ea_));subst ec_;clear en_));have GB9:=Aside0.mk gb9;have GG9:=Aside0.mk HG9;clear gb9 gl9 HG9;obtain ⟨j7,j8⟩:=Kd.R_celln 0 z4.out (z0 : Int) p9 q9;replace p9:=eq_true p9;replace q9:=eq_true q9;have z9:=Kd.R_putg z4.out (z0 : Int) (rd l0 z0);go_wp2_with (first | ((with_reducible refine gate_store (t:=3) (p:=20) rfl ?_);refine store_event (t:=3) (p:=20) (v:=?vo_w11) (w1:=(wr.setCell ⟨go9,(z0 : Int).toNat,none⟩ (.int .i64 (rd l0 z0)))) ?hg ?ho ?hn ?hr ?_;(case ho => rfl);(case hg => rfl);(case hn => rfl);(case hr => first | (go_simp;done) | (go_simp;rfl));intro w11 hw;have hg : wr.grownBy w11 (some go9):=(by rw [hw];exact z9.2);have hp_ : Kd.R (Kd.int .i64) 3 w11 w.heap.size (fun _ => True) (.slice (some ⟨go9,0,none⟩) z1.length co9) z6:=(by rw [hw,j3.out];exact z9.1);clear z9;replace z4:=ak (hp_);replace HB:=ak ((by rw [hw];exact below_set (HB.out) GB9.out : Below w.heap.size w w11));clear hg hw hp_));go_roundg k1
         case measure => have:=HK1.out;omega
         case rel => exact ⟨(z6),(wrap64 (z0 + 1)),es_,H',⟨by have:=HK1.out;omega⟩,⟨ra_ z4.out⟩,⟨hb_⟩⟩
        ·rw [if_neg c8] at H
         exact absurd H (by simp)
       ·rw [if_neg c7] at H
        exact absurd H (by simp)
      ·rw [if_neg c6] at H
       have j5 : decide (z0 < (l0.length : Int)) = false:=decide_eq_false c6;clear c6
       obtain rfl:=Option.some.inj H
       go_wp2;go_ret;exact ⟨_,er_,by (with_reducible repeat (first | apply Kd.R_alloc | apply Kd.R_drewN | apply Kd.R_drew));exact z4.out,hb_⟩
   ·rw [if_neg c3] at H
    exact absurd H (by simp)
  ·rw [if_neg c2] at H
   exact absurd H (by simp)

set_option maxHeartbeats 8000000 in
set_option maxRecDepth 100000 in
theorem laws_toCells.calls (k : Nat) (a0_0 : Int) (z7 : Option Addr) (c0_1 : Nat) (z5 : List Int) (r1 : Int) (r2 : List Int) (w : World) (hr0_1 : Kd.C (Kd.int .i64) w z7 z5.length z5) (hc0_1 : z5.length ≤ c0_1) (h : laws_toCells.f k a0_0 z5 = some (r1,r2)) :
   Calls Try.prog 12 #[.agg #[.int .i64 a0_0,.slice z7 z5.length c0_1]] w fun e w' => ∃ v1_ : Value,e = .returned (.agg #[.int .i64 r1,v1_]) ∧ Kd.R (Kd.int .i64) 3 w' w.heap.size (fun _ => True) v1_ r2 ∧ Below w.heap.size w w':=by
  have za7:=Try.underlying24;have za8:=Try.underlying27;have j8:=Aside0.mk hr0_1;have j9:=Aside0.mk hc0_1;clear hr0_1 hc0_1;have HB:=ak (Below.refl w.heap.size w);have H : ((laws_toIntS.f k z5).bind fun z9 => (some (a0_0,z9))) = some (r1,r2):=h;clear h;replace H:=Option.bind_eq_some_iff.mp H;obtain ⟨z9,A20,H⟩:=H;replace H : (some (a0_0,z9)) = some (r1,r2):=H;have A2:=Aside0.mk A20;clear A20;simp only [Option.some.injEq,Prod.mk.injEq] at H;obtain ⟨rfl,rfl⟩:=H;go_enter Try.func12,Try.ntmps12;go_wp2_with (first | ((with_reducible refine gate_dst (N:=1) rfl ?_);refine box_event ?hg (N:=1) ?hd (cs:=#[.int .i64 a0_0,.slice z7 z5.length c0_1]) (t:=24) ?hr ?_;(case hd => rfl);(case hg => rfl);(case hr => first | (go_simp;done) | (go_simp;rfl));intro z2 hg w3 hbox hb;have z0:=ak (hbox);have za1 : Aside0 (w.heap.size ≤ z2):=gz_;have za2 : Aside0 (w.heap.size ≤ z2):=gz_;replace HB:=ak (below_step hb_ hb);clear hb hbox hg) | ((with_reducible refine gate_dst (N:=2) rfl ?_);refine box_event ?hg (N:=2) ?hd (cs:=#[.int .i64 0,.slice none 0 0]) (t:=27) ?hr ?_;(case hd => rfl);(case hg => rfl);(case hr => first | (go_simp;done) | (go_simp;rfl));intro z1 hg w4 hbox hb;have z3:=ak (hbox);have za3 : Aside0 (w.heap.size ≤ z1):=gz_;have za4 : Aside0 (w.heap.size ≤ z1):=gz_;have j1:=ak ((by rw [hg];exact Nat.ne_of_lt (blk_lt (g:=z2) (o:=.cells #[.int .i64 a0_0,.slice z7 z5.length c0_1] 24 (0,0)) (bk_ z0.out)) : z2 ≠ z1));have j2:=ak ((by rw [hg];exact Nat.ne_of_gt (blk_lt (g:=z2) (o:=.cells #[.int .i64 a0_0,.slice z7 z5.length c0_1] 24 (0,0)) (bk_ z0.out)) : z1 ≠ z2));replace z0:=bb_ z0 hb;replace HB:=ak (below_step hb_ hb);clear hb hbox hg) | ((with_reducible refine gate_dst (N:=3) rfl ?_);refine box_event ?hg (N:=3) ?hd (cs:=#[.int .i64 0,.slice none 0 0]) (t:=27) ?hr ?_;(case hd => rfl);(case hg => rfl);(case hr => first | (go_simp;done) | (go_simp;rfl));intro z4 hg w5 hbox hb;have z6:=ak (hbox);have za5 : Aside0 (w.heap.size ≤ z4):=gz_;have za6 : Aside0 (w.heap.size ≤ z4):=gz_;have j0:=ak ((by rw [hg];exact Nat.ne_of_lt (blk_lt (g:=z2) (o:=.cells #[.int .i64 a0_0,.slice z7 z5.length c0_1] 24 (0,0)) (bk_ z0.out)) : z2 ≠ z4));have j3:=ak ((by rw [hg];exact Nat.ne_of_gt (blk_lt (g:=z2) (o:=.cells #[.int .i64 a0_0,.slice z7 z5.length c0_1] 24 (0,0)) (bk_ z0.out)) : z4 ≠ z2));replace z0:=bb_ z0 hb;have z8:=ak ((by rw [hg];exact Nat.ne_of_lt (blk_lt (g:=z1) (o:=.cells #[.int .i64 0,.slice none 0 0] 27 (0,0)) (bk_ z3.out)) : z1 ≠ z4));have j4:=ak ((by rw [hg];exact Nat.ne_of_gt (blk_lt (g:=z1) (o:=.cells #[.int .i64 0,.slice none 0 0] 27 (0,0)) (bk_ z3.out)) : z4 ≠ z1));replace z3:=bb_ z3 hb;replace HB:=ak (below_step hb_ hb);clear hb hbox hg;have za9:=j1.out;have zb0:=j2.out;have zb1:=j0.out;have zb2:=j3.out;have m7:=b20 z0;have m8:=b21 z0;have m9:=blk_frozen z0.out 0;have za0:=blk_frozen z0.out 1;have zb3:=j4.out;have zb4:=z8.out;have r5:=b20 z6;have r6:=b21 z6;have r7:=blk_frozen z6.out 0;have r8:=blk_frozen z6.out 1) | ((with_reducible refine gate_callee (f:=16) rfl ?_);refine goesL_ (some 9) rfl rfl Try.func16 (by kernel_rfl) rfl #[.slice z7 z5.length c0_1] rfl ls_ ?_;(with_reducible refine (laws_toIntS.calls k _ _ z5 z9 _ ?r0 ?r3 A2.out).mono ?_);(case r0 => exact Kd.C_below j8.out hb_);(case r3 => exact j9.out);rintro e w11 ⟨zb5,rfl,ho0,hb⟩;refine ⟨_,rfl,?_⟩;have j7:=ak (Kd.R_lower ho0 (below_size hb_));replace z0:=ak (blk_below (g:=z2) (o:=.cells #[.int .i64 a0_0,.slice z7 z5.length c0_1] 24 (0,0)) (by (with_reducible repeat (first | refine blk_drewN ?_ _ | refine blk_drew ?_ | refine blk_alloc ?_ _));refine blk_far ?_ j0.out _;exact bk_ z0.out) hb);replace z3:=ak (blk_below (g:=z1) (o:=.cells #[.int .i64 0,.slice none 0 0] 27 (0,0)) (by (with_reducible repeat (first | refine blk_drewN ?_ _ | refine blk_drew ?_ | refine blk_alloc ?_ _));refine blk_far ?_ z8.out _;exact bk_ z3.out) hb);replace z6:=ak (blk_below (g:=z4) (o:=.cells #[.int .i64 a0_0,.slice none 0 0] 27 (0,0)) (by (with_reducible repeat (first | refine blk_drewN ?_ _ | refine blk_drew ?_ | refine blk_alloc ?_ _));refine blk_put (cs:=#[.int .i64 0,.slice none 0 0]) ?_ 0 _ rfl;exact bk_ z6.out) hb);replace HB:=ak (below_step hb_ hb);(try clear hb);(try clear hb2);(try clear hk);(try clear hi);(try clear ho0);obtain ⟨j5,j6,r4⟩:=Kd.R_slice j7.out;subst r4;have r9:=b20 z6;have m0:=b21 z6;have m1:=blk_frozen z6.out 0;have m2:=blk_frozen z6.out 1;have m3:=b20 z3;have m4:=b21 z3;have m5:=blk_frozen z3.out 0;have m6:=blk_frozen z3.out 1))
  refine bodyPost_ret (results_cell_row rfl _ _ z1 27 #[.int .i64 a0_0,.slice j5 z9.length j6] (0,0) _ rfl (by (with_reducible repeat (first | refine blk_drewN ?_ _ | refine blk_drew ?_ | refine blk_alloc ?_ _));refine blk_put (cs:=#[.int .i64 a0_0,.slice none 0 0]) ?_ 1 _ rfl;(with_reducible repeat (first | refine blk_drewN ?_ _ | refine blk_drew ?_ | refine blk_alloc ?_ _));refine blk_put (cs:=#[.int .i64 0,.slice none 0 0]) ?_ 0 _ rfl;(with_reducible repeat (first | refine blk_drewN ?_ _ | refine blk_drew ?_ | refine blk_alloc ?_ _));refine blk_far ?_ z8.out _;exact bk_ z3.out) Try.underlying27 rfl (by kernel_rfl)) rfl ?_;exact ⟨_,er_,by (with_reducible repeat (first | apply Kd.R_alloc | apply Kd.R_drewN | apply Kd.R_drew));exact Kd.R_mono (Kd.R_far (p:=⟨z1,1,none⟩) (Kd.R_far (p:=⟨z1,0,none⟩) (Kd.R_far (p:=⟨z4,1,none⟩) (Kd.R_types (Kd.R_types j7.out z6.out (by decide)) z3.out (by decide)) (fun _ hk => hk.1.2) (.slice j5 z9.length j6)) (fun _ hk => hk.2) (.int .i64 a0_0)) (fun _ hk => hk.2) (.slice j5 z9.length j6)) (fun _ hk => trivial),hb_⟩

set_option maxHeartbeats 8000000 in
set_option maxRecDepth 100000 in
theorem laws_eqIntS.calls (k : Nat) (A0 : Option Addr) (c0 : Nat) (l0 : List Int) (A1 : Option Addr) (c1 : Nat) (l1 : List Int) (r : Bool) (w : World) (hr0 : Kd.C (Kd.int .i64) w A0 l0.length l0) (hc0 : l0.length ≤ c0) (hr1 : Kd.C (Kd.int .i64) w A1 l1.length l1) (hc1 : l1.length ≤ c1) (h : laws_eqIntS.f k l0 l1 = some r) :
   Calls Try.prog 18 #[.slice A0 l0.length c0,.slice A1 l1.length c1] w fun e w' => e = .returned (.bool r) ∧ Drawn0 w w':=by
  have HR0:=Aside0.mk hr0;have HC0:=Aside0.mk hc0;clear hr0 hc0;have HR1:=Aside0.mk hr1;have HC1:=Aside0.mk hc1;clear hr1 hc1;have H : (if (l0.length : Int) = (l1.length : Int) then (laws_eqIntS.l0 k l0 l1 0) else (some false)) = some r:=h;clear h;by_cases c3 : (l0.length : Int) = (l1.length : Int)
  ·rw [if_pos c3] at H
   have z9 : ((l0.length : Int) == (l1.length : Int)) = true:=beq_iff_eq.mpr c3;have j0 : ((l0.length : Int) != (l1.length : Int)) = false:=bne_eq_false_iff_eq.mpr c3;(have j1 : (l0.length == l1.length) = true:=by first | simpa using c3 | (simp at c3 ⊢;omega));clear c3;have H':=Aside0.mk H;clear H;go_enter Try.func18,Try.ntmps18;go_wp2;(repeat (go_quiet (fail);try go_wp2))
   go_loopg [5] k (fun kq v5 w' => ∃ (z0 : Int),v5 = .int .i64 z0 ∧ Aside0 (laws_eqIntS.l0 kq l0 l1 z0 = some r) ∧ Aside0 (kq ≤ k) ∧ Drawn0 w w')
   case atStart => exact ⟨(0),es_,H',⟨Nat.le_refl _⟩,by repeat (first | exact Drawn0.refl _ | apply Drawn0.step)⟩
   case round =>
    clear H';obtain ⟨z0,rfl,HA,HK1,⟨m1,rfl⟩⟩:=hrel
    cases gk with
    | zero => exact absurd HA.out (by simp [laws_eqIntS.l0])
    | succ k1 =>
     have H:=HA.out;clear HA;simp only [laws_eqIntS.l0] at H;by_cases c4 : z0 < (l0.length : Int)
     ·rw [if_pos c4] at H
      have j2 : decide (z0 < (l0.length : Int)) = true:=decide_eq_true c4;clear c4;by_cases c5 : 0 ≤ z0
      ·rw [if_pos c5] at H
       have j5 : decide (0 ≤ z0) = true:=decide_eq_true c5;clear c5;by_cases c6 : z0 < (l1.length : Int)
       ·rw [if_pos c6] at H
        have j6 : decide (z0 < (l1.length : Int)) = true:=decide_eq_true c6;clear c6;by_cases c7 : (rd l0 z0) = (rd l1 z0)
        ·rw [if_pos c7] at H
         have j3 : ((rd l0 z0) == (rd l1 z0)) = true:=beq_iff_eq.mpr c7;have j4 : ((rd l0 z0) != (rd l1 z0)) = false:=bne_eq_false_iff_eq.mpr c7;clear c7;have H':=Aside0.mk H;clear H;have z1 : 0 ≤ (z0 : Int):=of_decide_eq_true as_;have z2 : z0 < (l0.length : Int):=of_decide_eq_true as_;obtain ⟨z7,e310,z5⟩:=Kd.at_int HR0.out z0 z1 z2;cases e310;replace z1:=eq_true z1;replace z2:=eq_true z2;have z3 : 0 ≤ (z0 : Int):=of_decide_eq_true as_;have z4 : z0 < (l1.length : Int):=of_decide_eq_true as_;obtain ⟨z8,e311,z6⟩:=Kd.at_int HR1.out z0 z3 z4;cases e311;replace z3:=eq_true z3;replace z4:=eq_true z4;go_wp2;(repeat (go_quiet (fail);try go_wp2));go_roundg k1
         case measure => have:=HK1.out;omega
         case rel => exact ⟨(wrap64 (z0 + 1)),es_,H',⟨by have:=HK1.out;omega⟩,by repeat (first | exact Drawn0.refl _ | apply Drawn0.step)⟩
        ·rw [if_neg c7] at H
         have j3 : ((rd l0 z0) == (rd l1 z0)) = false:=beq_eq_false_iff_ne.mpr c7;have j4 : ((rd l0 z0) != (rd l1 z0)) = true:=bne_iff_ne.mpr c7
         obtain rfl:=Option.some.inj H
         have z1 : 0 ≤ (z0 : Int):=of_decide_eq_true as_;have z2 : z0 < (l0.length : Int):=of_decide_eq_true as_;obtain ⟨z7,e310,z5⟩:=Kd.at_int HR0.out z0 z1 z2;cases e310;replace z1:=eq_true z1;replace z2:=eq_true z2;have z3 : 0 ≤ (z0 : Int):=of_decide_eq_true as_;have z4 : z0 < (l1.length : Int):=of_decide_eq_true as_;obtain ⟨z8,e311,z6⟩:=Kd.at_int HR1.out z0 z3 z4;cases e311;replace z3:=eq_true z3;replace z4:=eq_true z4;go_wp2;(repeat (go_quiet (fail);try go_wp2));go_ret;exact ⟨es_,by repeat (first | exact Drawn0.refl _ | apply Drawn0.step)⟩
       ·rw [if_neg c6] at H
        exact absurd H (by simp)
      ·rw [if_neg c5] at H
       exact absurd H (by simp)
     ·rw [if_neg c4] at H
      have j2 : decide (z0 < (l0.length : Int)) = false:=decide_eq_false c4;clear c4
      obtain rfl:=Option.some.inj H
      go_wp2;(repeat (go_quiet (fail);try go_wp2));go_ret;exact ⟨es_,by repeat (first | exact Drawn0.refl _ | apply Drawn0.step)⟩
  ·rw [if_neg c3] at H
   have z9 : ((l0.length : Int) == (l1.length : Int)) = false:=beq_eq_false_iff_ne.mpr c3;have j0 : ((l0.length : Int) != (l1.length : Int)) = true:=bne_iff_ne.mpr c3;(have j1 : (l0.length == l1.length) = false:=by first | simpa using c3 | (simp at c3 ⊢;omega))
   obtain rfl:=Option.some.inj H
   go_enter Try.func18,Try.ntmps18;go_wp2;(repeat (go_quiet (fail);try go_wp2));go_ret;exact ⟨es_,by repeat (first | exact Drawn0.refl _ | apply Drawn0.step)⟩

set_option maxHeartbeats 8000000 in
set_option maxRecDepth 100000 in
theorem laws_eqCells.calls (k : Nat) (a0_0 : Int) (z5 : Option Addr) (c0_1 : Nat) (z3 : List Int) (a1_0 : Int) (z9 : Option Addr) (c1_1 : Nat) (z6 : List Int) (r : Bool) (w : World) (hr0_1 : Kd.C (Kd.int .i64) w z5 z3.length z3) (hc0_1 : z3.length ≤ c0_1) (hr1_1 : Kd.C (Kd.int .i64) w z9 z6.length z6) (hc1_1 : z6.length ≤ c1_1) (h : laws_eqCells.f k a0_0 z3 a1_0 z6 = some r) :
   Calls Try.prog 14 #[.agg #[.int .i64 a0_0,.slice z5 z3.length c0_1],.agg #[.int .i64 a1_0,.slice z9 z6.length c1_1]] w fun e w' => e = .returned (.bool r) ∧ Below w.heap.size w w':=by
  have zb3:=Try.underlying27;have j5:=Aside0.mk hr0_1;have j6:=Aside0.mk hc0_1;clear hr0_1 hc0_1;have j7:=Aside0.mk hr1_1;have j8:=Aside0.mk hc1_1;clear hr1_1 hc1_1;have HB:=ak (Below.refl w.heap.size w);have H : (if a0_0 = a1_0 then ((laws_eqIntS.f k z3 z6).bind fun j0 => (if j0 = true then (some true) else (some false))) else (some false)) = some r:=h;clear h;by_cases c3 : a0_0 = a1_0
  ·rw [if_pos c3] at H
   have r3 : (a0_0 == a1_0) = true:=beq_iff_eq.mpr c3;have r4 : (a0_0 != a1_0) = false:=bne_eq_false_iff_eq.mpr c3;clear c3;replace H:=Option.bind_eq_some_iff.mp H;obtain ⟨j0,A40,H⟩:=H;replace H : (if j0 = true then (some true) else (some false)) = some r:=H;have A4:=Aside0.mk A40;clear A40;by_cases c5 : j0 = true
   ·subst c5
    rw [if_pos rfl] at H
    obtain rfl:=Option.some.inj H
    go_enter Try.func14,Try.ntmps14;go_wp2_with (first | ((with_reducible refine gate_dst (N:=2) rfl ?_);refine box_event ?hg (N:=2) ?hd (cs:=#[.int .i64 a0_0,.slice z5 z3.length c0_1]) (t:=27) ?hr ?_;(case hd => rfl);(case hg => rfl);(case hr => first | (go_simp;done) | (go_simp;rfl));intro z0 hg w6 hbox hb;have z1:=ak (hbox);have j9 : Aside0 (w.heap.size ≤ z0):=gz_;have r0 : Aside0 (w.heap.size ≤ z0):=gz_;replace HB:=ak (below_step hb_ hb);clear hb hbox hg) | ((with_reducible refine gate_dst (N:=3) rfl ?_);refine box_event ?hg (N:=3) ?hd (cs:=#[.int .i64 a1_0,.slice z9 z6.length c1_1]) (t:=27) ?hr ?_;(case hd => rfl);(case hg => rfl);(case hr => first | (go_simp;done) | (go_simp;rfl));intro z2 hg w7 hbox hb;have z4:=ak (hbox);have r1 : Aside0 (w.heap.size ≤ z2):=gz_;have r2 : Aside0 (w.heap.size ≤ z2):=gz_;have z7:=ak ((by rw [hg];exact Nat.ne_of_lt (blk_lt (g:=z0) (o:=.cells #[.int .i64 a0_0,.slice z5 z3.length c0_1] 27 (0,0)) (bk_ z1.out)) : z0 ≠ z2));have z8:=ak ((by rw [hg];exact Nat.ne_of_gt (blk_lt (g:=z0) (o:=.cells #[.int .i64 a0_0,.slice z5 z3.length c0_1] 27 (0,0)) (bk_ z1.out)) : z2 ≠ z0));replace z1:=bb_ z1 hb;replace HB:=ak (below_step hb_ hb);clear hb hbox hg;have zb4:=z7.out;have zb5:=z8.out;have za5:=b20 z1;have za6:=b21 z1;have za7:=blk_frozen z1.out 0;have za8:=blk_frozen z1.out 1;have r5:=b20 z4;have r6:=b21 z4;have r7:=blk_frozen z4.out 0;have r8:=blk_frozen z4.out 1) | ((with_reducible refine gate_callee (f:=18) rfl ?_);refine goesL_ (some 14) rfl rfl Try.func18 (by kernel_rfl) rfl #[.slice z5 z3.length c0_1,.slice z9 z6.length c1_1] rfl ls_ ?_;(with_reducible refine (laws_eqIntS.calls k _ _ z3 _ _ z6 true _ ?j1 ?j2 ?j3 ?j4 A4.out).mono ?_);(case j1 => exact cb_ j5.out);(case j2 => exact j6.out);(case j3 => exact cb_ j7.out);(case j4 => exact j8.out);rintro e w' ⟨rfl,⟨nd,rfl⟩⟩;refine ⟨_,rfl,?_⟩));go_ret;exact ⟨er_,hb_⟩
   ·replace c5:=Bool.eq_false_iff.mpr c5
    subst c5;rw [if_neg (show ¬ (false = true) by decide)] at H
    obtain rfl:=Option.some.inj H
    go_enter Try.func14,Try.ntmps14;go_wp2_with (first | ((with_reducible refine gate_dst (N:=2) rfl ?_);refine box_event ?hg (N:=2) ?hd (cs:=#[.int .i64 a0_0,.slice z5 z3.length c0_1]) (t:=27) ?hr ?_;(case hd => rfl);(case hg => rfl);(case hr => first | (go_simp;done) | (go_simp;rfl));intro z0 hg w11 hbox hb;have z1:=ak (hbox);have j9 : Aside0 (w.heap.size ≤ z0):=gz_;have r0 : Aside0 (w.heap.size ≤ z0):=gz_;replace HB:=ak (below_step hb_ hb);clear hb hbox hg) | ((with_reducible refine gate_dst (N:=3) rfl ?_);refine box_event ?hg (N:=3) ?hd (cs:=#[.int .i64 a1_0,.slice z9 z6.length c1_1]) (t:=27) ?hr ?_;(case hd => rfl);(case hg => rfl);(case hr => first | (go_simp;done) | (go_simp;rfl));intro z2 hg w12 hbox hb;have z4:=ak (hbox);have r1 : Aside0 (w.heap.size ≤ z2):=gz_;have r2 : Aside0 (w.heap.size ≤ z2):=gz_;have z7:=ak ((by rw [hg];exact Nat.ne_of_lt (blk_lt (g:=z0) (o:=.cells #[.int .i64 a0_0,.slice z5 z3.length c0_1] 27 (0,0)) (bk_ z1.out)) : z0 ≠ z2));have z8:=ak ((by rw [hg];exact Nat.ne_of_gt (blk_lt (g:=z0) (o:=.cells #[.int .i64 a0_0,.slice z5 z3.length c0_1] 27 (0,0)) (bk_ z1.out)) : z2 ≠ z0));replace z1:=bb_ z1 hb;replace HB:=ak (below_step hb_ hb);clear hb hbox hg;have za9:=z7.out;have zb0:=z8.out;have r9:=b20 z1;have m0:=b21 z1;have m1:=blk_frozen z1.out 0;have m2:=blk_frozen z1.out 1;have m3:=b20 z4;have m4:=b21 z4;have m5:=blk_frozen z4.out 0;have m6:=blk_frozen z4.out 1) | ((with_reducible refine gate_callee (f:=18) rfl ?_);refine goesL_ (some 14) rfl rfl Try.func18 (by kernel_rfl) rfl #[.slice z5 z3.length c0_1,.slice z9 z6.length c1_1] rfl ls_ ?_;(with_reducible refine (laws_eqIntS.calls k _ _ z3 _ _ z6 false _ ?j1 ?j2 ?j3 ?j4 A4.out).mono ?_);(case j1 => exact cb_ j5.out);(case j2 => exact j6.out);(case j3 => exact cb_ j7.out);(case j4 => exact j8.out);rintro e w' ⟨rfl,⟨nd,rfl⟩⟩;refine ⟨_,rfl,?_⟩));go_ret;exact ⟨er_,hb_⟩
  ·rw [if_neg c3] at H
   have r3 : (a0_0 == a1_0) = false:=beq_eq_false_iff_ne.mpr c3;have r4 : (a0_0 != a1_0) = true:=bne_iff_ne.mpr c3
   obtain rfl:=Option.some.inj H
   go_enter Try.func14,Try.ntmps14;go_wp2_with (first | ((with_reducible refine gate_dst (N:=2) rfl ?_);refine box_event ?hg (N:=2) ?hd (cs:=#[.int .i64 a0_0,.slice z5 z3.length c0_1]) (t:=27) ?hr ?_;(case hd => rfl);(case hg => rfl);(case hr => first | (go_simp;done) | (go_simp;rfl));intro z0 hg w16 hbox hb;have z1:=ak (hbox);have j9 : Aside0 (w.heap.size ≤ z0):=gz_;have r0 : Aside0 (w.heap.size ≤ z0):=gz_;replace HB:=ak (below_step hb_ hb);clear hb hbox hg) | ((with_reducible refine gate_dst (N:=3) rfl ?_);refine box_event ?hg (N:=3) ?hd (cs:=#[.int .i64 a1_0,.slice z9 z6.length c1_1]) (t:=27) ?hr ?_;(case hd => rfl);(case hg => rfl);(case hr => first | (go_simp;done) | (go_simp;rfl));intro z2 hg w17 hbox hb;have z4:=ak (hbox);have r1 : Aside0 (w.heap.size ≤ z2):=gz_;have r2 : Aside0 (w.heap.size ≤ z2):=gz_;have z7:=ak ((by rw [hg];exact Nat.ne_of_lt (blk_lt (g:=z0) (o:=.cells #[.int .i64 a0_0,.slice z5 z3.length c0_1] 27 (0,0)) (bk_ z1.out)) : z0 ≠ z2));have z8:=ak ((by rw [hg];exact Nat.ne_of_gt (blk_lt (g:=z0) (o:=.cells #[.int .i64 a0_0,.slice z5 z3.length c0_1] 27 (0,0)) (bk_ z1.out)) : z2 ≠ z0));replace z1:=bb_ z1 hb;replace HB:=ak (below_step hb_ hb);clear hb hbox hg;have zb1:=z7.out;have zb2:=z8.out;have m7:=b20 z1;have m8:=b21 z1;have m9:=blk_frozen z1.out 0;have za0:=blk_frozen z1.out 1;have za1:=b20 z4;have za2:=b21 z4;have za3:=blk_frozen z4.out 0;have za4:=blk_frozen z4.out 1));go_ret;exact ⟨er_,hb_⟩

end Go.Proofs.Ytjcmlggdaajicaa.Pr
