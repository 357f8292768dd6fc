-- Joined and pruned by wip/tools/prune.py out of this session's own texts (Pr0, Prd1, Pr1, HdClear, Prd2, HClear, Pr2)
import Derived.Test.YtjcmlggdaajicaaZfy2
import Derived.Test.YtjcmlggdaajicaaProg
import Derived.Below
import Derived.Deep.Draws
import Derived.Deep.AppendLies
import Derived.Maps.AppendAt
import Derived.OwnWalk
import Derived.Laws.BytesArg
import Derived.Laws.MakeOwn
import Derived.Laws.OwnMore
import Derived.Deep.OwnRows
import Derived.Tactics
import Derived.Lib.ConvBytes
import Derived.Laws.Slices
import Derived.WalkKit
import Derived.KernelRfl
import Derived.RowKit3
import Derived.Deep.LoopGhost
import Derived.Deep.QuietTactic
import Derived.BigQuiet
import Derived.WideLaws
import Derived.Deep.DeepCutAuto
import Derived.Deep.CutBlock
import Derived.Deep.RegionHeld3
import Derived.Laws.Rows
import Derived.Lib.AppendStr
import Derived.ArgAppend
import Derived.Laws.IdiomCopy
import Derived.OrdersHeld
import Derived.Laws.BitsLemmas
import Derived.RowKit
import Derived.Outline
import Derived.Deep.DeepMust
namespace Go.Proofs.Ytjcmlggdaajicaa.Pr
open Go.RowKit Go.Proofs.YtjcmlggdaajicaaW.PrintWords Go.Proofs.YtjcmlggdaajicaaW.PrintLast Go.Proofs.YtjcmlggdaajicaaW.PrintMore
attribute [local go_sem] max2_int min2_int max_two min_two max_three min_three max_four min_four
set_option linter.unusedVariables false
set_option linter.unusedSimpArgs false



def errW : Option Int → Value
  | none => .nilIface
  | some c => .iface 0 (.int .i64 c)
theorem errW_none : errW none = .nilIface:=rfl
theorem errW_some (c : Int) : errW (some c) = .iface 0 (.int .i64 c):=rfl

theorem info3 : (Try.prog.info? 3).map (fun i => (i.zero,i.size,i.bytes)) = some (some (.int .i64 0),1,8):=by kernel_rfl
theorem info4 : (Try.prog.info? 4).map (fun i => (i.zero,i.size,i.bytes)) = some (some (.bool false),1,1):=by kernel_rfl
theorem info66 : (Try.prog.info? 66).map (fun i => (i.zero,i.size,i.bytes)) = some (some (.agg #[(.int .i64 0),(.int .i64 0)]),2,16):=by kernel_rfl
-- the values' own types
/-! #### struct type 66 -/
structure S66 where
  f0 : Int
  f1 : Int
def z66 : S66:=⟨(0 : Int),(0 : Int)⟩
def k66 : Kd S66:=Kd.iso (Kd.pair (Kd.int .i64) (Kd.int .i64)) (fun x : S66 => (x.f0,x.f1))
theorem k66_open {w : World} {x : S66} {cs : List Value} (h : k66.K w x cs) : cs = [.int .i64 x.f0,.int .i64 x.f1]:=by
  obtain ⟨_,_,rfl,rfl,rfl⟩:=h;exact rfl
theorem k66_mkM (w : World) (base : Nat) (ok : Nat → Prop) (x : S66)  : k66.M w base ok x [.int .i64 x.f0,.int .i64 x.f1]:=⟨[.int .i64 x.f0],[.int .i64 x.f1],rfl,rfl,rfl⟩
def rd_T66 (xs : List S66) (i : Int) : S66:=xs.getD i.toNat z66
theorem at_T66 {w : World} {A : Option Addr} {n : Nat} {xs : List S66} (h : Kd.C k66 w A n xs) (i : Int) (h0 : 0 ≤ i) (h1 : i < n) : ∃ ad ,A = some ad ∧ w.cell? (ad.add (i.toNat * 2)) = some (.int .i64 (rd_T66 xs i).f0) ∧ w.cell? ⟨(ad.add (i.toNat * 2)).block,(ad.add (i.toNat * 2)).off + 1,none⟩ = some (.int .i64 (rd_T66 xs i).f1):=by
  obtain ⟨ad,c,e,_,hK,hc0⟩:=Kd.C_get h z66 i h0 h1;have hc : ∀ j u,c[j]? = some u → w.cell? (ad.add (i.toNat * 2 + j)) = some u:=hc0
  obtain rfl:=k66_open hK
  exact ⟨ad,e,hc 0 _ rfl,by rw [← add_field _ _ 1 (by omega)];exact hc 1 _ rfl⟩

end Go.Proofs.Ytjcmlggdaajicaa.Pr
namespace Go.Proofs.Ytjcmlggdaajicaa.Pr
open Go.RowKit Go.Proofs.YtjcmlggdaajicaaW.PrintWords Go.Proofs.YtjcmlggdaajicaaW.PrintLast Go.Proofs.YtjcmlggdaajicaaW.PrintMore
attribute [local go_sem] max2_int min2_int max_two min_two max_three min_three max_four min_four
set_option linter.unusedVariables false
set_option linter.unusedSimpArgs false

/-! ### impl_squared: function 56 -/
def impl_squared.f (a0 : Int) (a1 : Int) : Option (Bool):=if a0 ≥ 1 then (if a0 ≤ 16 then (if a0 = 0 then (none) else (if (Int.tmod a1 a0) = 0 then (if (wrap64 (Int.tdiv a1 a0)) ≥ 1 then (some (decide ((wrap64 (Int.tdiv a1 a0)) ≤ 16))) else (some false)) else (some false))) else (some false)) else (some false)

/-! ### impl_GoodCells: function 40 -/
def impl_GoodCells.l0 : Nat → List Int → Int → Int → Option (Bool)
  | 0,_,_,_ => none
  | k + 1,x13,x14,x15 => if x15 < x14 then (if 0 ≤ x15 then (if x15 < (x13.length : Int) then (if (rd x13 x15) < 0 then (some false) else (if (rd x13 x15) > 2 then (some false) else (impl_GoodCells.l0 k x13 x14 (wrap64 (x15 + 1))))) else (none)) else (none)) else (some true)
def impl_GoodCells.f (k : Nat) (a0_0 : Int) (l0_1 : List Int) : Option (Bool):=(impl_squared.f a0_0 (l0_1.length : Int)).bind fun t102 => (if t102 = true then (impl_GoodCells.l0 k l0_1 (l0_1.length : Int) 0) else (some false))
/-! ### impl_Cells_free: function 41 -/
def impl_Cells_free.f (a0_0 : Int) (l0_1 : List Int) (a1 : Int) : Option (Bool):=if a1 ≥ 0 then (if a1 < (l0_1.length : Int) then (if 0 ≤ a1 then (some ((rd l0_1 a1) == 0)) else (none)) else (some false)) else (some false)

end Go.Proofs.Ytjcmlggdaajicaa.Pr
namespace Go.Proofs.Ytjcmlggdaajicaa.Pr
open Go.RowKit Go.Proofs.YtjcmlggdaajicaaW.PrintWords Go.Proofs.YtjcmlggdaajicaaW.PrintLast Go.Proofs.YtjcmlggdaajicaaW.PrintMore
attribute [local go_sem] max2_int min2_int max_two min_two max_three min_three max_four min_four
set_option linter.unusedVariables false
set_option linter.unusedSimpArgs false

set_option maxHeartbeats 8000000 in
set_option maxRecDepth 100000 in
theorem impl_squared.calls (a0 : Int) (a1 : Int) (r : Bool) (w : World) (h : impl_squared.f a0 a1 = some r) :
   Calls Try.prog 56 #[.int .i64 a0,.int .i64 a1] w fun e w' => e = .returned (.bool r) ∧ Drawn0 w w':=by
  have H : (if a0 ≥ 1 then (if a0 ≤ 16 then (if a0 = 0 then (none) else (if (Int.tmod a1 a0) = 0 then (if (wrap64 (Int.tdiv a1 a0)) ≥ 1 then (some (decide ((wrap64 (Int.tdiv a1 a0)) ≤ 16))) else (some false)) else (some false))) else (some false)) else (some false)) = some r:=h;clear h;by_cases c3 : a0 ≥ 1
  ·rw [if_pos c3] at H
   have z0 : decide (1 ≤ a0) = true:=dt_ c3;clear c3;by_cases c4 : a0 ≤ 16
   ·rw [if_pos c4] at H
    have z1 : decide (a0 ≤ 16) = true:=dt_ c4;clear c4;by_cases c5 : a0 = 0
    ·rw [if_pos c5] at H
     exact absurd H (by simp)
    ·rw [if_neg c5] at H
     have z5 : (a0 == 0) = false:=beq_eq_false_iff_ne.mpr c5;have z6 : (a0 != 0) = true:=bne_iff_ne.mpr c5;by_cases c6 : (Int.tmod a1 a0) = 0
     ·rw [if_pos c6] at H
      have z2 : ((Int.tmod a1 a0) == 0) = true:=beq_iff_eq.mpr c6;have z3 : ((Int.tmod a1 a0) != 0) = false:=bne_eq_false_iff_eq.mpr c6;clear c6;by_cases c7 : (wrap64 (Int.tdiv a1 a0)) ≥ 1
      ·rw [if_pos c7] at H
       have z4 : decide (1 ≤ (wrap64 (Int.tdiv a1 a0))) = true:=dt_ c7;clear c7
       obtain rfl:=Option.some.inj H
       go_enter Try.func56,Try.ntmps56;go_wp2;go_ret;exact ⟨es_,by repeat (first | exact Drawn0.refl _ | apply Drawn0.step)⟩
      ·rw [if_neg c7] at H
       have z4 : decide (1 ≤ (wrap64 (Int.tdiv a1 a0))) = false:=df_ c7;clear c7
       obtain rfl:=Option.some.inj H
       go_enter Try.func56,Try.ntmps56;go_wp2;go_ret;exact ⟨es_,by repeat (first | exact Drawn0.refl _ | apply Drawn0.step)⟩
     ·rw [if_neg c6] at H
      have z2 : ((Int.tmod a1 a0) == 0) = false:=beq_eq_false_iff_ne.mpr c6;have z3 : ((Int.tmod a1 a0) != 0) = true:=bne_iff_ne.mpr c6
      obtain rfl:=Option.some.inj H
      go_enter Try.func56,Try.ntmps56;go_wp2;go_ret;exact ⟨es_,by repeat (first | exact Drawn0.refl _ | apply Drawn0.step)⟩
   ·rw [if_neg c4] at H
    have z1 : decide (a0 ≤ 16) = false:=df_ c4;clear c4
    obtain rfl:=Option.some.inj H
    go_enter Try.func56,Try.ntmps56;go_wp2;go_ret;exact ⟨es_,by repeat (first | exact Drawn0.refl _ | apply Drawn0.step)⟩
  ·rw [if_neg c3] at H
   have z0 : decide (1 ≤ a0) = false:=df_ c3;clear c3
   obtain rfl:=Option.some.inj H
   go_enter Try.func56,Try.ntmps56;go_wp2;go_ret;exact ⟨es_,by repeat (first | exact Drawn0.refl _ | apply Drawn0.step)⟩

set_option maxHeartbeats 8000000 in
set_option maxRecDepth 100000 in
theorem impl_GoodCells.calls (k : Nat) (a0_0 : Int) (z7 : Option Addr) (c0_1 : Nat) (z0 : List Int) (r : Bool) (w : World) (hr0_1 : Kd.C (Kd.int .i64) w z7 z0.length z0) (hc0_1 : z0.length ≤ c0_1) (h : impl_GoodCells.f k a0_0 z0 = some r) :
   Calls Try.prog 40 #[.agg #[.int .i64 a0_0,.slice z7 z0.length c0_1]] w fun e w' => e = .returned (.bool r) ∧ Below w.heap.size w w':=by
  have r5:=Try.underlying27;have z8:=ak hr0_1;have r4:=ak hc0_1;clear hr0_1 hc0_1;have HB:=ak (Below.refl w.heap.size w);have H : ((impl_squared.f a0_0 (z0.length : Int)).bind fun z9 => (if z9 = true then (impl_GoodCells.l0 k z0 (z0.length : Int) 0) else (some false))) = some r:=h;clear h;replace H:=Option.bind_eq_some_iff.mp H;obtain ⟨z9,A20,H⟩:=H;replace H : (if z9 = true then (impl_GoodCells.l0 k z0 (z0.length : Int) 0) else (some false)) = some r:=H;have A2:=ak A20;clear A20;by_cases c3 : z9 = true
  ·subst c3
   rw [if_pos rfl] at H;have H':=ak H;clear H;go_enter Try.func40,Try.ntmps40;go_wp2_with (first | ((with_reducible refine gate_dst (N:=1) rfl ?_);refine box_event ?hg (N:=1) ?hd (cs:=#[.int .i64 a0_0,.slice z7 z0.length c0_1]) (t:=27) ?hr ?_;(case hd => rfl);(case hg => rfl);(case hr => first | (go_simp;done) | (go_simp;rfl));intro z4 hg w4 hbox hb;have z2:=ak (hbox);have j1 : Aside0 (w.heap.size ≤ z4):=gz_;have j2 : Aside0 (w.heap.size ≤ z4):=gz_;replace HB:=bq_ hb;clear hb hbox hg;have r0:=b20 z2;have r1:=b21 z2;have r2:=bf_ z2 0;have r3:=bf_ z2 1) | ((with_reducible refine gate_callee (f:=56) rfl ?_);refine goesL_ (some 10) rfl rfl Try.func56 (by kernel_rfl) rfl #[.int .i64 a0_0,.int .i64 (z0.length : Int)] rfl ls_ ?_;(with_reducible refine (impl_squared.calls a0_0 (z0.length : Int) true _ A2.out).mono ?_);rintro e w' ⟨rfl,⟨nd,rfl⟩⟩;refine ⟨_,rfl,?_⟩))
   go_loopg [15] k (fun kq v15 w' => ∃ (z1 : Int),v15 = .int .i64 z1 ∧ Aside0 (impl_GoodCells.l0 kq z0 (z0.length : Int) z1 = some r) ∧ Aside0 (kq ≤ k) ∧ Aside0 (w'.heap[z4]? = some (.cells #[.int .i64 a0_0,(.slice z7 z0.length c0_1)] 27 (0,0))) ∧ Aside0 (Below w.heap.size w w'))
   case atStart => exact ⟨(0),es_,H',⟨Nat.le_refl _⟩,⟨bk_ z2.out⟩,⟨hb_⟩⟩
   case round =>
    clear H';obtain ⟨z1,rfl,HA,HK1,z2,HB⟩:=hrel
    cases gk with
    | zero => exact absurd HA.out (by simp [impl_GoodCells.l0])
    | succ k1 =>
     have H:=HA.out;clear HA;simp only [impl_GoodCells.l0] at H;by_cases c6 : z1 < (z0.length : Int)
     ·rw [if_pos c6] at H
      have j4 : decide (z1 < (z0.length : Int)) = true:=dt_ c6;clear c6;by_cases c7 : 0 ≤ z1
      ·rw [if_pos c7] at H
       have r6 : decide (0 ≤ z1) = true:=dt_ c7;clear c7;by_cases c8 : z1 < (z0.length : Int)
       ·rw [if_pos c8] at H
        have r7 : decide (z1 < (z0.length : Int)) = true:=dt_ c8;clear c8;by_cases c9 : (rd z0 z1) < 0
        ·rw [if_pos c9] at H
         have j5 : decide ((rd z0 z1) < 0) = true:=dt_ c9;clear c9
         obtain rfl:=Option.some.inj H
         have z5 : 0 ≤ (z1 : Int):=od_;have z6 : z1 < (z0.length : Int):=od_;obtain ⟨j0,e103,z3⟩:=Kd.at_int z8.out z1 z5 z6;cases e103;replace z3:=hc_ HB z3;replace z5:=eq_true z5;replace z6:=eq_true z6;go_wp2;go_ret;exact ⟨er_,hb_⟩
        ·rw [if_neg c9] at H
         have j5 : decide ((rd z0 z1) < 0) = false:=df_ c9;clear c9;by_cases c10 : (rd z0 z1) > 2
         ·rw [if_pos c10] at H
          have j3 : decide (2 < (rd z0 z1)) = true:=dt_ c10;clear c10
          obtain rfl:=Option.some.inj H
          have z5 : 0 ≤ (z1 : Int):=od_;have z6 : z1 < (z0.length : Int):=od_;obtain ⟨j0,e103,z3⟩:=Kd.at_int z8.out z1 z5 z6;cases e103;replace z3:=hc_ HB z3;replace z5:=eq_true z5;replace z6:=eq_true z6;go_wp2;go_ret;exact ⟨er_,hb_⟩
         ·rw [if_neg c10] at H
          have j3 : decide (2 < (rd z0 z1)) = false:=df_ c10;clear c10;have H':=ak H;clear H;have z5 : 0 ≤ (z1 : Int):=od_;have z6 : z1 < (z0.length : Int):=od_;obtain ⟨j0,e103,z3⟩:=Kd.at_int z8.out z1 z5 z6;cases e103;replace z3:=hc_ HB z3;replace z5:=eq_true z5;replace z6:=eq_true z6;go_wp2;go_roundg k1
          case measure => have:=HK1.out;omega
          case rel => exact ⟨(wrap64 (z1 + 1)),es_,H',⟨by have:=HK1.out;omega⟩,⟨bk_ z2.out⟩,⟨hb_⟩⟩
       ·rw [if_neg c8] at H
        exact absurd H (by simp)
      ·rw [if_neg c7] at H
       exact absurd H (by simp)
     ·rw [if_neg c6] at H
      have j4 : decide (z1 < (z0.length : Int)) = false:=df_ c6;clear c6
      obtain rfl:=Option.some.inj H
      go_wp2;go_ret;exact ⟨er_,hb_⟩
  ·replace c3:=Bool.eq_false_iff.mpr c3
   subst c3;rw [if_neg (show ¬ (false = true) by decide)] at H
   obtain rfl:=Option.some.inj H
   go_enter Try.func40,Try.ntmps40;go_wp2_with (first | ((with_reducible refine gate_dst (N:=1) rfl ?_);refine box_event ?hg (N:=1) ?hd (cs:=#[.int .i64 a0_0,.slice z7 z0.length c0_1]) (t:=27) ?hr ?_;(case hd => rfl);(case hg => rfl);(case hr => first | (go_simp;done) | (go_simp;rfl));intro z4 hg w11 hbox hb;have z2:=ak (hbox);have j1 : Aside0 (w.heap.size ≤ z4):=gz_;have j2 : Aside0 (w.heap.size ≤ z4):=gz_;replace HB:=bq_ hb;clear hb hbox hg;have j6:=b20 z2;have j7:=b21 z2;have j8:=bf_ z2 0;have j9:=bf_ z2 1) | ((with_reducible refine gate_callee (f:=56) rfl ?_);refine goesL_ (some 10) rfl rfl Try.func56 (by kernel_rfl) rfl #[.int .i64 a0_0,.int .i64 (z0.length : Int)] rfl ls_ ?_;(with_reducible refine (impl_squared.calls a0_0 (z0.length : Int) false _ A2.out).mono ?_);rintro e w' ⟨rfl,⟨nd,rfl⟩⟩;refine ⟨_,rfl,?_⟩));go_ret;exact ⟨er_,hb_⟩

set_option maxHeartbeats 8000000 in
set_option maxRecDepth 100000 in
theorem impl_Cells_free.calls (a0_0 : Int) (z3 : Option Addr) (c0_1 : Nat) (z0 : List Int) (a1 : Int) (r : Bool) (w : World) (hr0_1 : Kd.C (Kd.int .i64) w z3 z0.length z0) (hc0_1 : z0.length ≤ c0_1) (h : impl_Cells_free.f a0_0 z0 a1 = some r) :
   Calls Try.prog 41 #[.agg #[.int .i64 a0_0,.slice z3 z0.length c0_1],.int .i64 a1] w fun e w' => e = .returned (.bool r) ∧ Below w.heap.size w w':=by
  have r2:=Try.underlying27;have z9:=ak hr0_1;have r0:=ak hc0_1;clear hr0_1 hc0_1;have HB:=ak (Below.refl w.heap.size w);have H : (if a1 ≥ 0 then (if a1 < (z0.length : Int) then (if 0 ≤ a1 then (some ((rd z0 a1) == 0)) else (none)) else (some false)) else (some false)) = some r:=h;clear h;by_cases c3 : a1 ≥ 0
  ·rw [if_pos c3] at H
   have j0 : decide (0 ≤ a1) = true:=dt_ c3;clear c3;by_cases c4 : a1 < (z0.length : Int)
   ·rw [if_pos c4] at H
    have j1 : decide (a1 < (z0.length : Int)) = true:=dt_ c4;clear c4;by_cases c5 : 0 ≤ a1
    ·rw [if_pos c5] at H
     have r3 : decide (0 ≤ a1) = true:=dt_ c5;clear c5
     obtain rfl:=Option.some.inj H
     go_enter Try.func41,Try.ntmps41;go_wp2_with (first | ((with_reducible refine gate_dst (N:=2) rfl ?_);(try (refine gate_guard (by rfl) ?_;dsimp only));refine box_event ?hg (N:=2) ?hd (cs:=#[.int .i64 a0_0,.slice z3 z0.length c0_1]) (t:=27) ?hr ?_;(case hd => rfl);(case hg => rfl);(case hr => first | (go_simp;done) | (go_simp;rfl));intro z1 hg w6 hbox hb;have z2:=ak (hbox);have z7 : Aside0 (w.heap.size ≤ z1):=gz_;have z8 : Aside0 (w.heap.size ≤ z1):=gz_;replace HB:=bq_ hb;clear hb hbox hg;have j2:=b20 z2;have j3:=b21 z2;have j4:=bf_ z2 0;have j5:=bf_ z2 1;have z5 : 0 ≤ (a1 : Int):=od_;have z6 : a1 < (z0.length : Int):=od_;obtain ⟨r1,e105,z4⟩:=Kd.at_int z9.out a1 z5 z6;cases e105;replace z4:=hc_ HB z4;replace z5:=eq_true z5;replace z6:=eq_true z6));go_ret;exact ⟨er_,hb_⟩
    ·rw [if_neg c5] at H
     exact absurd H (by simp)
   ·rw [if_neg c4] at H
    have j1 : decide (a1 < (z0.length : Int)) = false:=df_ c4;clear c4
    obtain rfl:=Option.some.inj H
    go_enter Try.func41,Try.ntmps41;go_wp2_with (first | ((with_reducible refine gate_dst (N:=2) rfl ?_);(try (refine gate_guard (by rfl) ?_;dsimp only));refine box_event ?hg (N:=2) ?hd (cs:=#[.int .i64 a0_0,.slice z3 z0.length c0_1]) (t:=27) ?hr ?_;(case hd => rfl);(case hg => rfl);(case hr => first | (go_simp;done) | (go_simp;rfl));intro z1 hg w8 hbox hb;have z2:=ak (hbox);have z7 : Aside0 (w.heap.size ≤ z1):=gz_;have z8 : Aside0 (w.heap.size ≤ z1):=gz_;replace HB:=bq_ hb;clear hb hbox hg;have j6:=b20 z2;have j7:=b21 z2;have j8:=bf_ z2 0;have j9:=bf_ z2 1));go_ret;exact ⟨er_,hb_⟩
  ·rw [if_neg c3] at H
   have j0 : decide (0 ≤ a1) = false:=df_ c3;clear c3
   obtain rfl:=Option.some.inj H
   go_enter Try.func41,Try.ntmps41;go_wp2_with (first | ((with_reducible refine gate_dst (N:=2) rfl ?_);(try (refine gate_guard (by rfl) ?_;dsimp only));refine box_event ?hg (N:=2) ?hd (cs:=#[.int .i64 a0_0,.slice z3 z0.length c0_1]) (t:=27) ?hr ?_;(case hd => rfl);(case hg => rfl);(case hr => first | (go_simp;done) | (go_simp;rfl));intro z1 hg w10 hbox hb;have z2:=ak (hbox);have z7 : Aside0 (w.heap.size ≤ z1):=gz_;have z8 : Aside0 (w.heap.size ≤ z1):=gz_;replace HB:=bq_ hb;clear hb hbox hg));go_ret;exact ⟨er_,hb_⟩

end Go.Proofs.Ytjcmlggdaajicaa.Pr
/-
Own text,by hand: what (Cells).clear comes to,where the cells are few and both places are cells.
-/
namespace Go.Proofs.Ytjcmlggdaajicaa.Pr
open Go.RowKit Go.Proofs.YtjcmlggdaajicaaW.PrintWords Go.Proofs.YtjcmlggdaajicaaW.PrintLast
/-- The corners of a cell, as the program goes through them. -/
def cornX : Nat → Int
  | 0 => -1
  | 1 => -1
  | _ => 1
def cornY : Nat → Int
  | 0 => -1
  | 1 => 1
  | 2 => -1
  | _ => 1
/-- On which side of the line a corner lies. -/
def sideOf (x1 y1 x2 y2 x y : Int) (k : Nat) : Int:=(x2 - x1) * (y + cornY k - y1) - (y2 - y1) * (x + cornX k - x1)
def lessTo (x1 y1 x2 y2 x y : Int) : Nat → Bool
  | 0 => false
  | k + 1 => lessTo x1 y1 x2 y2 x y k || decide (sideOf x1 y1 x2 y2 x y k ≤ 0)
def moreTo (x1 y1 x2 y2 x y : Int) : Nat → Bool
  | 0 => false
  | k + 1 => moreTo x1 y1 x2 y2 x y k || decide (sideOf x1 y1 x2 y2 x y k ≥ 0)
def maxI (a b : Int) : Int:=if a < b then b else a
def minI (a b : Int) : Int:=if b < a then b else a
/-- The line's box doesn't come near the cell. -/
def farOf (x1 y1 x2 y2 x y : Int) : Bool:=decide (maxI x1 x2 < x - 1) || decide (minI x1 x2 > x + 1) || decide (maxI y1 y2 < y - 1) || decide (minI y1 y2 > y + 1)
/-- Cell number c stands in the way. -/
def blocks (w : Int) (l : List Int) (a b : Int) (c : Nat) : Bool:=
  !(l.getD c 0 == 0) && !(farOf (2 * (a % w)) (2 * (a / w)) (2 * (b % w)) (2 * (b / w)) (2 * ((c : Int) % w)) (2 * ((c : Int) / w))) &&
    (lessTo (2 * (a % w)) (2 * (a / w)) (2 * (b % w)) (2 * (b / w)) (2 * ((c : Int) % w)) (2 * ((c : Int) / w)) 4 && moreTo (2 * (a % w)) (2 * (a / w)) (2 * (b % w)) (2 * (b / w)) (2 * ((c : Int) % w)) (2 * ((c : Int) / w)) 4)
theorem prod_bound {u v : Int} (hu0 : -600 ≤ u) (hu1 : u ≤ 600) (hv0 : -600 ≤ v) (hv1 : v ≤ 600) : -360000 ≤ u * v ∧ u * v ≤ 360000:=by
  have h1:=Int.mul_nonneg (show 0 ≤ 600 - u by omega) (show 0 ≤ 600 - v by omega);have h2:=Int.mul_nonneg (show 0 ≤ 600 + u by omega) (show 0 ≤ 600 + v by omega);have h3:=Int.mul_nonneg (show 0 ≤ 600 - u by omega) (show 0 ≤ 600 + v by omega);have h4:=Int.mul_nonneg (show 0 ≤ 600 + u by omega) (show 0 ≤ 600 - v by omega);rw [Int.sub_mul,Int.mul_sub,Int.mul_sub] at h1;rw [Int.add_mul,Int.mul_add,Int.mul_add] at h2;rw [Int.sub_mul,Int.mul_add,Int.mul_add] at h3;rw [Int.add_mul,Int.mul_sub,Int.mul_sub] at h4
  omega
theorem side_eq {x1 y1 x2 y2 x y dx dy : Int} (bx1 : 0 ≤ x1 ∧ x1 ≤ 30) (by1 : 0 ≤ y1 ∧ y1 ≤ 510) (bx2 : 0 ≤ x2 ∧ x2 ≤ 30) (by2 : 0 ≤ y2 ∧ y2 ≤ 510) (bx : 0 ≤ x ∧ x ≤ 30) (by_ : 0 ≤ y ∧ y ≤ 510) (hdx : -1 ≤ dx ∧ dx ≤ 1) (hdy : -1 ≤ dy ∧ dy ≤ 1) :
    wrap64 (wrap64 ((x2 - x1) * (y + dy - y1)) - wrap64 ((y2 - y1) * (x + dx - x1))) = (x2 - x1) * (y + dy - y1) - (y2 - y1) * (x + dx - x1):=by
  have h1:=prod_bound (u:=x2 - x1) (v:=y + dy - y1) (by omega) (by omega) (by omega) (by omega);have h2:=prod_bound (u:=y2 - y1) (v:=x + dx - x1) (by omega) (by omega) (by omega) (by omega);generalize (x2 - x1) * (y + dy - y1) = p at *;generalize (y2 - y1) * (x + dx - x1) = q at *;(have e1 : wrap64 p = p:=by unfold wrap64;omega);(have e2 : wrap64 q = q:=by unfold wrap64;omega);rw [e1,e2];unfold wrap64
  omega
def impl_Cells_clear.f (a0_0 : Int) (l0_1 : List Int) (a1 : Int) (a2 : Int) : Option Bool:=
  if 1 ≤ a0_0 ∧ a0_0 ≤ 16 ∧ l0_1.length ≤ 256 ∧ 0 ≤ a1 ∧ a1 < l0_1.length ∧ 0 ≤ a2 ∧ a2 < l0_1.length then some ((List.range l0_1.length).all fun c => !blocks a0_0 l0_1 a1 a2 c) else none
end Go.Proofs.Ytjcmlggdaajicaa.Pr
namespace Go.Proofs.Ytjcmlggdaajicaa.Pr
open Go.RowKit Go.Proofs.YtjcmlggdaajicaaW.PrintWords Go.Proofs.YtjcmlggdaajicaaW.PrintLast Go.Proofs.YtjcmlggdaajicaaW.PrintMore
attribute [local go_sem] max2_int min2_int max_two min_two max_three min_three max_four min_four
set_option linter.unusedVariables false
set_option linter.unusedSimpArgs false

/-! ### impl_Clear: function 13 -/
def impl_Clear.f (k : Nat) (a0_0 : Int) (l0_1 : List Int) (a1 : Int) (a2 : Int) : Option (Bool):=(impl_GoodCells.f k a0_0 l0_1).bind fun t107 => (if t107 = true then ((impl_Cells_free.f a0_0 l0_1 a1).bind fun t108 => (if t108 = true then ((impl_Cells_free.f a0_0 l0_1 a2).bind fun t109 => (if t109 = true then ((impl_Cells_clear.f a0_0 l0_1 a1 a2).bind fun t110 => (some t110)) else (some false))) else (some false))) else (some false))
/-! ### spec_l12Sized: function 47 -/
def spec_l12Sized.f (a0 : Int) (a1 : Int) : Option (Bool):=if a0 ≥ 1 then (if a0 ≤ 16 then (if a1 ≥ a0 then (if a0 = 0 then (none) else (if (Int.tmod a1 a0) = 0 then (some (decide ((wrap64 (Int.tdiv a1 a0)) ≤ 16))) else (some false))) else (some false)) else (some false)) else (some false)

/-! ### spec_GoodCells: function 28 -/
def spec_GoodCells.l0 : Nat → List Int → Int → Int → Option (Bool)
  | 0,_,_,_ => none
  | k + 1,x13,x14,x15 => if x15 < x14 then (if 0 ≤ x15 then (if x15 < (x13.length : Int) then (if (rd x13 x15) < 0 then (some false) else (if (rd x13 x15) > 2 then (some false) else (spec_GoodCells.l0 k x13 x14 (wrap64 (x15 + 1))))) else (none)) else (none)) else (some true)
def spec_GoodCells.f (k : Nat) (a0_0 : Int) (l0_1 : List Int) : Option (Bool):=(spec_l12Sized.f a0_0 (l0_1.length : Int)).bind fun t112 => (if t112 = true then (spec_GoodCells.l0 k l0_1 (l0_1.length : Int) 0) else (some false))
/-! ### spec_l12Free: function 43 -/
def spec_l12Free.f (a0_0 : Int) (l0_1 : List Int) (a1 : Int) : Option (Bool):=if a1 ≥ 0 then (if a1 < (l0_1.length : Int) then (if 0 ≤ a1 then (some ((rd l0_1 a1) == 0)) else (none)) else (some false)) else (some false)

/-! ### spec_l18Meets: function 55 -/
mutual
def spec_l18Meets.j0 : Nat → Int → Int → Int → Int → Int → Int → Int → Int → Bool → Option (Bool)
  | 0,_,_,_,_,_,_,_,_,_ => none
  | k + 1,x0,x1,x2,x3,x13,x14,x15,x16,x75 => if x75 = true then (some false) else ((some (([x13,x14] : List Int) : List Int)).bind fun y116 => (spec_l18Meets.l0 k x0 x1 x15 x16 (wrap64 (x2 - x0)) (wrap64 (x3 - x1)) 0 0 y116 (y116.length : Int) 0))
def spec_l18Meets.l0 : Nat → Int → Int → Int → Int → Int → Int → Int → Int → List Int → Int → Int → Option (Bool)
  | 0,_,_,_,_,_,_,_,_,_,_,_ => none
  | k + 1,x0,x1,x15,x16,x17,x18,x19,x20,x84,x85,x86 => if x86 < x85 then (if 0 ≤ x86 then (if x86 < (x84.length : Int) then ((some (([x15,x16] : List Int) : List Int)).bind fun y120 => (spec_l18Meets.l1 k x0 x1 x15 x16 x17 x18 x19 x20 (rd x84 x86) x84 x85 x86 y120 (y120.length : Int) 0)) else (none)) else (none)) else (if x19 < 4 then (some (decide (x20 < 4))) else (some false))
def spec_l18Meets.l1 : Nat → Int → Int → Int → Int → Int → Int → Int → Int → Int → List Int → Int → Int → List Int → Int → Int → Option (Bool)
  | 0,_,_,_,_,_,_,_,_,_,_,_,_,_,_,_ => none
  | k + 1,x0,x1,x15,x16,x17,x18,x19,x20,x22,x84,x85,x86,x92,x93,x94 => if x94 < x93 then (if 0 ≤ x94 then (if x94 < (x92.length : Int) then (if (wrap64 ((wrap64 (x17 * (wrap64 ((rd x92 x94) - x1)))) - (wrap64 (x18 * (wrap64 (x22 - x0)))))) > 0 then (if (wrap64 ((wrap64 (x17 * (wrap64 ((rd x92 x94) - x1)))) - (wrap64 (x18 * (wrap64 (x22 - x0)))))) < 0 then (spec_l18Meets.l1 k x0 x1 x15 x16 x17 x18 (wrap64 (x19 + 1)) (wrap64 (x20 + 1)) x22 x84 x85 x86 x92 x93 (wrap64 (x94 + 1))) else (spec_l18Meets.l1 k x0 x1 x15 x16 x17 x18 (wrap64 (x19 + 1)) x20 x22 x84 x85 x86 x92 x93 (wrap64 (x94 + 1)))) else (if (wrap64 ((wrap64 (x17 * (wrap64 ((rd x92 x94) - x1)))) - (wrap64 (x18 * (wrap64 (x22 - x0)))))) < 0 then (spec_l18Meets.l1 k x0 x1 x15 x16 x17 x18 x19 (wrap64 (x20 + 1)) x22 x84 x85 x86 x92 x93 (wrap64 (x94 + 1))) else (spec_l18Meets.l1 k x0 x1 x15 x16 x17 x18 x19 x20 x22 x84 x85 x86 x92 x93 (wrap64 (x94 + 1))))) else (none)) else (none)) else (spec_l18Meets.l0 k x0 x1 x15 x16 x17 x18 x19 x20 x84 x85 (wrap64 (x86 + 1)))
end
def spec_l18Meets.f (k : Nat) (a0 : Int) (a1 : Int) (a2 : Int) (a3 : Int) (a4 : Int) (a5 : Int) : Option (Bool):=if a0 < (wrap64 ((wrap64 (2 * a4)) - 1)) then (if a2 < (wrap64 ((wrap64 (2 * a4)) - 1)) then (spec_l18Meets.j0 k a0 a1 a2 a3 (wrap64 ((wrap64 (2 * a4)) - 1)) (wrap64 ((wrap64 (2 * a4)) + 1)) (wrap64 ((wrap64 (2 * a5)) - 1)) (wrap64 ((wrap64 (2 * a5)) + 1)) true) else (if a0 > (wrap64 ((wrap64 (2 * a4)) + 1)) then (if a2 > (wrap64 ((wrap64 (2 * a4)) + 1)) then (spec_l18Meets.j0 k a0 a1 a2 a3 (wrap64 ((wrap64 (2 * a4)) - 1)) (wrap64 ((wrap64 (2 * a4)) + 1)) (wrap64 ((wrap64 (2 * a5)) - 1)) (wrap64 ((wrap64 (2 * a5)) + 1)) true) else (if a1 < (wrap64 ((wrap64 (2 * a5)) - 1)) then (if a3 < (wrap64 ((wrap64 (2 * a5)) - 1)) then (spec_l18Meets.j0 k a0 a1 a2 a3 (wrap64 ((wrap64 (2 * a4)) - 1)) (wrap64 ((wrap64 (2 * a4)) + 1)) (wrap64 ((wrap64 (2 * a5)) - 1)) (wrap64 ((wrap64 (2 * a5)) + 1)) true) else (if a1 > (wrap64 ((wrap64 (2 * a5)) + 1)) then (spec_l18Meets.j0 k a0 a1 a2 a3 (wrap64 ((wrap64 (2 * a4)) - 1)) (wrap64 ((wrap64 (2 * a4)) + 1)) (wrap64 ((wrap64 (2 * a5)) - 1)) (wrap64 ((wrap64 (2 * a5)) + 1)) (decide (a3 > (wrap64 ((wrap64 (2 * a5)) + 1))))) else (spec_l18Meets.j0 k a0 a1 a2 a3 (wrap64 ((wrap64 (2 * a4)) - 1)) (wrap64 ((wrap64 (2 * a4)) + 1)) (wrap64 ((wrap64 (2 * a5)) - 1)) (wrap64 ((wrap64 (2 * a5)) + 1)) false))) else (if a1 > (wrap64 ((wrap64 (2 * a5)) + 1)) then (spec_l18Meets.j0 k a0 a1 a2 a3 (wrap64 ((wrap64 (2 * a4)) - 1)) (wrap64 ((wrap64 (2 * a4)) + 1)) (wrap64 ((wrap64 (2 * a5)) - 1)) (wrap64 ((wrap64 (2 * a5)) + 1)) (decide (a3 > (wrap64 ((wrap64 (2 * a5)) + 1))))) else (spec_l18Meets.j0 k a0 a1 a2 a3 (wrap64 ((wrap64 (2 * a4)) - 1)) (wrap64 ((wrap64 (2 * a4)) + 1)) (wrap64 ((wrap64 (2 * a5)) - 1)) (wrap64 ((wrap64 (2 * a5)) + 1)) false)))) else (if a1 < (wrap64 ((wrap64 (2 * a5)) - 1)) then (if a3 < (wrap64 ((wrap64 (2 * a5)) - 1)) then (spec_l18Meets.j0 k a0 a1 a2 a3 (wrap64 ((wrap64 (2 * a4)) - 1)) (wrap64 ((wrap64 (2 * a4)) + 1)) (wrap64 ((wrap64 (2 * a5)) - 1)) (wrap64 ((wrap64 (2 * a5)) + 1)) true) else (if a1 > (wrap64 ((wrap64 (2 * a5)) + 1)) then (spec_l18Meets.j0 k a0 a1 a2 a3 (wrap64 ((wrap64 (2 * a4)) - 1)) (wrap64 ((wrap64 (2 * a4)) + 1)) (wrap64 ((wrap64 (2 * a5)) - 1)) (wrap64 ((wrap64 (2 * a5)) + 1)) (decide (a3 > (wrap64 ((wrap64 (2 * a5)) + 1))))) else (spec_l18Meets.j0 k a0 a1 a2 a3 (wrap64 ((wrap64 (2 * a4)) - 1)) (wrap64 ((wrap64 (2 * a4)) + 1)) (wrap64 ((wrap64 (2 * a5)) - 1)) (wrap64 ((wrap64 (2 * a5)) + 1)) false))) else (if a1 > (wrap64 ((wrap64 (2 * a5)) + 1)) then (spec_l18Meets.j0 k a0 a1 a2 a3 (wrap64 ((wrap64 (2 * a4)) - 1)) (wrap64 ((wrap64 (2 * a4)) + 1)) (wrap64 ((wrap64 (2 * a5)) - 1)) (wrap64 ((wrap64 (2 * a5)) + 1)) (decide (a3 > (wrap64 ((wrap64 (2 * a5)) + 1))))) else (spec_l18Meets.j0 k a0 a1 a2 a3 (wrap64 ((wrap64 (2 * a4)) - 1)) (wrap64 ((wrap64 (2 * a4)) + 1)) (wrap64 ((wrap64 (2 * a5)) - 1)) (wrap64 ((wrap64 (2 * a5)) + 1)) false))))) else (if a0 > (wrap64 ((wrap64 (2 * a4)) + 1)) then (if a2 > (wrap64 ((wrap64 (2 * a4)) + 1)) then (spec_l18Meets.j0 k a0 a1 a2 a3 (wrap64 ((wrap64 (2 * a4)) - 1)) (wrap64 ((wrap64 (2 * a4)) + 1)) (wrap64 ((wrap64 (2 * a5)) - 1)) (wrap64 ((wrap64 (2 * a5)) + 1)) true) else (if a1 < (wrap64 ((wrap64 (2 * a5)) - 1)) then (if a3 < (wrap64 ((wrap64 (2 * a5)) - 1)) then (spec_l18Meets.j0 k a0 a1 a2 a3 (wrap64 ((wrap64 (2 * a4)) - 1)) (wrap64 ((wrap64 (2 * a4)) + 1)) (wrap64 ((wrap64 (2 * a5)) - 1)) (wrap64 ((wrap64 (2 * a5)) + 1)) true) else (if a1 > (wrap64 ((wrap64 (2 * a5)) + 1)) then (spec_l18Meets.j0 k a0 a1 a2 a3 (wrap64 ((wrap64 (2 * a4)) - 1)) (wrap64 ((wrap64 (2 * a4)) + 1)) (wrap64 ((wrap64 (2 * a5)) - 1)) (wrap64 ((wrap64 (2 * a5)) + 1)) (decide (a3 > (wrap64 ((wrap64 (2 * a5)) + 1))))) else (spec_l18Meets.j0 k a0 a1 a2 a3 (wrap64 ((wrap64 (2 * a4)) - 1)) (wrap64 ((wrap64 (2 * a4)) + 1)) (wrap64 ((wrap64 (2 * a5)) - 1)) (wrap64 ((wrap64 (2 * a5)) + 1)) false))) else (if a1 > (wrap64 ((wrap64 (2 * a5)) + 1)) then (spec_l18Meets.j0 k a0 a1 a2 a3 (wrap64 ((wrap64 (2 * a4)) - 1)) (wrap64 ((wrap64 (2 * a4)) + 1)) (wrap64 ((wrap64 (2 * a5)) - 1)) (wrap64 ((wrap64 (2 * a5)) + 1)) (decide (a3 > (wrap64 ((wrap64 (2 * a5)) + 1))))) else (spec_l18Meets.j0 k a0 a1 a2 a3 (wrap64 ((wrap64 (2 * a4)) - 1)) (wrap64 ((wrap64 (2 * a4)) + 1)) (wrap64 ((wrap64 (2 * a5)) - 1)) (wrap64 ((wrap64 (2 * a5)) + 1)) false)))) else (if a1 < (wrap64 ((wrap64 (2 * a5)) - 1)) then (if a3 < (wrap64 ((wrap64 (2 * a5)) - 1)) then (spec_l18Meets.j0 k a0 a1 a2 a3 (wrap64 ((wrap64 (2 * a4)) - 1)) (wrap64 ((wrap64 (2 * a4)) + 1)) (wrap64 ((wrap64 (2 * a5)) - 1)) (wrap64 ((wrap64 (2 * a5)) + 1)) true) else (if a1 > (wrap64 ((wrap64 (2 * a5)) + 1)) then (spec_l18Meets.j0 k a0 a1 a2 a3 (wrap64 ((wrap64 (2 * a4)) - 1)) (wrap64 ((wrap64 (2 * a4)) + 1)) (wrap64 ((wrap64 (2 * a5)) - 1)) (wrap64 ((wrap64 (2 * a5)) + 1)) (decide (a3 > (wrap64 ((wrap64 (2 * a5)) + 1))))) else (spec_l18Meets.j0 k a0 a1 a2 a3 (wrap64 ((wrap64 (2 * a4)) - 1)) (wrap64 ((wrap64 (2 * a4)) + 1)) (wrap64 ((wrap64 (2 * a5)) - 1)) (wrap64 ((wrap64 (2 * a5)) + 1)) false))) else (if a1 > (wrap64 ((wrap64 (2 * a5)) + 1)) then (spec_l18Meets.j0 k a0 a1 a2 a3 (wrap64 ((wrap64 (2 * a4)) - 1)) (wrap64 ((wrap64 (2 * a4)) + 1)) (wrap64 ((wrap64 (2 * a5)) - 1)) (wrap64 ((wrap64 (2 * a5)) + 1)) (decide (a3 > (wrap64 ((wrap64 (2 * a5)) + 1))))) else (spec_l18Meets.j0 k a0 a1 a2 a3 (wrap64 ((wrap64 (2 * a4)) - 1)) (wrap64 ((wrap64 (2 * a4)) + 1)) (wrap64 ((wrap64 (2 * a5)) - 1)) (wrap64 ((wrap64 (2 * a5)) + 1)) false))))
/-! ### spec_l18Clear: function 39 -/
mutual
def spec_l18Clear.j0 : Nat → Int → Int → Bool → Int → List Int → Option (Bool)
  | 0,_,_,_,_,_ => none
  | k + 1,x1,x2,x21,x125000,x125001 => if x21 = true then (some false) else (if x125000 = 0 then (none) else (spec_l18Clear.l0 k (Int.tmod x1 x125000) (wrap64 (Int.tdiv x1 x125000)) (Int.tmod x2 x125000) (wrap64 (Int.tdiv x2 x125000)) (x125001.length : Int) 0 x125000 x125001))
def spec_l18Clear.l0 : Nat → Int → Int → Int → Int → Int → Int → Int → List Int → Option (Bool)
  | 0,_,_,_,_,_,_,_,_ => none
  | k + 1,x7,x8,x9,x10,x40,x41,x125000,x125001 => if x41 < x40 then (if 0 ≤ x41 then (if x41 < (x125001.length : Int) then (if (rd x125001 x41) = 0 then (spec_l18Clear.l0 k x7 x8 x9 x10 x40 (wrap64 (x41 + 1)) x125000 x125001) else (if x125000 = 0 then (none) else ((spec_l18Meets.f k (wrap64 (2 * x7)) (wrap64 (2 * x8)) (wrap64 (2 * x9)) (wrap64 (2 * x10)) (Int.tmod x41 x125000) (wrap64 (Int.tdiv x41 x125000))).bind fun t128 => (if t128 = true then (some false) else (spec_l18Clear.l0 k x7 x8 x9 x10 x40 (wrap64 (x41 + 1)) x125000 x125001))))) else (none)) else (none)) else (some true)
end
def spec_l18Clear.f (k : Nat) (a0_0 : Int) (l0_1 : List Int) (a1 : Int) (a2 : Int) : Option (Bool):=(spec_l12Free.f a0_0 l0_1 a1).bind fun t125 => (if t125 = true then ((spec_l12Free.f a0_0 l0_1 a2).bind fun t126 => (spec_l18Clear.j0 k a1 a2 (!t126) a0_0 l0_1)) else (spec_l18Clear.j0 k a1 a2 true a0_0 l0_1))
/-! ### spec_MostClear: function 19 -/
mutual
def spec_MostClear.j0 : Nat → Int → Bool → Int → List Int → Option (List Int)
  | 0,_,_,_,_ => none
  | k + 1,x1,x15,x130000,x130001 => if x15 = true then (some ([] : List Int)) else (spec_MostClear.l0 k x1 ([] : List Int) (x130001.length : Int) 0 x130000 x130001)
def spec_MostClear.l0 : Nat → Int → List Int → Int → Int → Int → List Int → Option (List Int)
  | 0,_,_,_,_,_,_ => none
  | k + 1,x1,x5,x18,x19,x130000,x130001 => if x19 < x18 then ((spec_l18Clear.f k x130000 x130001 x1 x19).bind fun t132 => (if t132 = true then (if x5.length < 17592186044416 then (spec_MostClear.l0 k x1 (x5 ++ [x19]) x18 (wrap64 (x19 + 1)) x130000 x130001) else (none)) else (spec_MostClear.l0 k x1 x5 x18 (wrap64 (x19 + 1)) x130000 x130001))) else (some x5)
end
def spec_MostClear.f (k : Nat) (a0_0 : Int) (l0_1 : List Int) (a1 : Int) : Option (List Int):=(spec_GoodCells.f k a0_0 l0_1).bind fun t130 => (if t130 = true then ((spec_l12Free.f a0_0 l0_1 a1).bind fun t131 => (spec_MostClear.j0 k a1 (!t131) a0_0 l0_1)) else (spec_MostClear.j0 k a1 true a0_0 l0_1))
/-! ### impl_MostClear: function 20 -/
mutual
def impl_MostClear.j0 : Nat → Int → Bool → Int → List Int → Option (List Int)
  | 0,_,_,_,_ => none
  | k + 1,x1,x15,x137000,x137001 => if x15 = true then (some ([] : List Int)) else (impl_MostClear.l0 k x1 ([] : List Int) (x137001.length : Int) 0 x137000 x137001)
def impl_MostClear.l0 : Nat → Int → List Int → Int → Int → Int → List Int → Option (List Int)
  | 0,_,_,_,_,_,_ => none
  | k + 1,x1,x5,x18,x19,x137000,x137001 => if x19 < x18 then ((impl_Cells_free.f x137000 x137001 x19).bind fun t139 => (if t139 = true then ((impl_Cells_clear.f x137000 x137001 x1 x19).bind fun t140 => (if t140 = true then (if x5.length < 17592186044416 then (impl_MostClear.l0 k x1 (x5 ++ [x19]) x18 (wrap64 (x19 + 1)) x137000 x137001) else (none)) else (impl_MostClear.l0 k x1 x5 x18 (wrap64 (x19 + 1)) x137000 x137001))) else (impl_MostClear.l0 k x1 x5 x18 (wrap64 (x19 + 1)) x137000 x137001))) else (some x5)
end
def impl_MostClear.f (k : Nat) (a0_0 : Int) (l0_1 : List Int) (a1 : Int) : Option (List Int):=(impl_GoodCells.f k a0_0 l0_1).bind fun t137 => (if t137 = true then ((impl_Cells_free.f a0_0 l0_1 a1).bind fun t138 => (impl_MostClear.j0 k a1 (!t138) a0_0 l0_1)) else (impl_MostClear.j0 k a1 true a0_0 l0_1))
/-- A state of type 72 at block g of W; what its slices lead to came in by w0. -/
def IsS72 (w0 W : World) (g : Nat) (f0 : List Int) (f1 : Int) (f2 : Int) : Prop:=∃ A0 c0,W.heap[g]? = some (.cells #[.slice A0 f0.length c0,.int .i64 f1,.int .u64 f2] 72 (0,0)) ∧ w0.heap.size ≤ g ∧ Kd.C (Kd.int .u8) w0 A0 f0.length f0
theorem IsS72.grown {w0 W : World} {g : Nat} {f0 : List Int} {f1 : Int} {f2 : Int} {W1 : World} {row : Option Nat} (h : IsS72 w0 W g f0 f1 f2) (hw : W.grownBy W1 row) (hne : some g ≠ row) : IsS72 w0 W1 g f0 f1 f2:=by
  obtain ⟨A0,c0,hb,hg,hr0⟩:=h;exact ⟨A0,c0,blk_grown hb hw hne,hg,hr0⟩
theorem IsS72.kept {w0 W : World} {g : Nat} {f0 : List Int} {f1 : Int} {f2 : Int} {W1 : World} {S : Nat → Prop} (h : IsS72 w0 W g f0 f1 f2) (hk : Kept W W1 S) (hne : ¬ S g) : IsS72 w0 W1 g f0 f1 f2:=by
  obtain ⟨A0,c0,hb,hg,hr0⟩:=h;exact ⟨A0,c0,blk_kept hb hk hne,hg,hr0⟩
theorem IsS72.below {w0 W : World} {g : Nat} {f0 : List Int} {f1 : Int} {f2 : Int} {W1 : World} (h : IsS72 w0 W g f0 f1 f2) (hw : Below W.heap.size W W1) : IsS72 w0 W1 g f0 f1 f2:=h.grown (grown_of_below hw none) (by simp)
theorem IsS72.alloc {w0 W : World} {g : Nat} {f0 : List Int} {f1 : Int} {f2 : Int} (h : IsS72 w0 W g f0 f1 f2) (o : Obj) : IsS72 w0 (W.alloc o) g f0 f1 f2:=h.below (below_alloc (Below.refl _ _) o)
theorem IsS72.drewN {w0 W : World} {g : Nat} {f0 : List Int} {f1 : Int} {f2 : Int} (h : IsS72 w0 W g f0 f1 f2) (m : Nat) : IsS72 w0 (W.drewN m) g f0 f1 f2:=h
theorem IsS72.drew {w0 W : World} {g : Nat} {f0 : List Int} {f1 : Int} {f2 : Int} (h : IsS72 w0 W g f0 f1 f2) : IsS72 w0 W.drew g f0 f1 f2:=h
theorem IsS72.at_ {w0 W : World} {g : Nat} {f0 : List Int} {f1 : Int} {f2 : Int} {w' : World} {m : Nat} (hq : W.drewN m = w') (h : IsS72 w0 W g f0 f1 f2) : IsS72 w0 w' g f0 f1 f2:=by subst hq;exact IsS72.drewN h m
theorem IsS72.apart {w0 W : World} {g : Nat} {f0 : List Int} {f1 : Int} {f2 : Int} {α : Type} {d : Kd α} {e : Nat} {base : Nat} {ok : Nat → Prop} {v : Value} {xs : List α} (h : IsS72 w0 W g f0 f1 f2) (ho : d.R e W base ok v xs) (ht : ∀ q,q ∈ e :: d.E → q ≠ 72) : d.R e W base (fun k => ok k ∧ k ≠ g) v xs:=by
  obtain ⟨A0,c0,hb,hg,hr0⟩:=h;exact Kd.R_types ho hb ht
theorem IsS72.own_ne {w0 W : World} {g : Nat} {f0 : List Int} {f1 : Int} {f2 : Int} {α : Type} {d : Kd α} {e : Nat} {base : Nat} {ok : Nat → Prop} {v : Value} {xs : List α} (h : IsS72 w0 W g f0 f1 f2) (ho : d.R e W base ok v xs) (ht : e ≠ 72) : some g ≠ v.ownBlock:=by
  obtain ⟨A0,c0,hb,hg,hr0⟩:=h;exact Kd.R_ne ho hb ht
theorem IsS72.lt {w0 W : World} {g : Nat} {f0 : List Int} {f1 : Int} {f2 : Int} (h : IsS72 w0 W g f0 f1 f2) : g < W.heap.size:=by
  obtain ⟨A0,c0,hb,hg,hr0⟩:=h;exact blk_lt hb
theorem IsS72.ge {w0 W : World} {g : Nat} {f0 : List Int} {f1 : Int} {f2 : Int} (h : IsS72 w0 W g f0 f1 f2) : w0.heap.size ≤ g:=by
  obtain ⟨A0,c0,hb,hg,hr0⟩:=h;exact hg
theorem IsS72.far {w0 W : World} {g : Nat} {f0 : List Int} {f1 : Int} {f2 : Int} {p : Addr} (h : IsS72 w0 W g f0 f1 f2) (hne : g ≠ p.block) (u : Value) : IsS72 w0 (W.setCell p u) g f0 f1 f2:=by
  obtain ⟨A0,c0,hb,hg,hr0⟩:=h;exact ⟨A0,c0,blk_far hb hne u,hg,hr0⟩
theorem cellS72_0 {W : World} {g : Nat} {A0 : Option Addr} {c0 : Nat} {f0 : List Int} {f1 : Int} {f2 : Int} (h : W.heap[g]? = some (.cells #[.slice A0 f0.length c0,.int .i64 f1,.int .u64 f2] 72 (0,0))) : W.cell? ⟨g,0,none⟩ = some (.slice A0 f0.length c0):=(blk_cell h 0).trans rfl
theorem cellS72_1 {W : World} {g : Nat} {A0 : Option Addr} {c0 : Nat} {f0 : List Int} {f1 : Int} {f2 : Int} (h : W.heap[g]? = some (.cells #[.slice A0 f0.length c0,.int .i64 f1,.int .u64 f2] 72 (0,0))) : W.cell? ⟨g,1,none⟩ = some (.int .i64 f1):=(blk_cell h 1).trans rfl
theorem IsS72.set_1 {w0 W : World} {g : Nat} {f0 : List Int} {f1 : Int} {f2 : Int} (h : IsS72 w0 W g f0 f1 f2) (x : Int) : IsS72 w0 (W.setCell ⟨g,1,none⟩ (.int .i64 x)) g f0 x f2:=by
  obtain ⟨A0,c0,hb,hg,hr0⟩:=h;exact ⟨A0,c0,by simpa using blk_set hb 1 (.int .i64 x),hg,hr0⟩
theorem cellS72_2 {W : World} {g : Nat} {A0 : Option Addr} {c0 : Nat} {f0 : List Int} {f1 : Int} {f2 : Int} (h : W.heap[g]? = some (.cells #[.slice A0 f0.length c0,.int .i64 f1,.int .u64 f2] 72 (0,0))) : W.cell? ⟨g,2,none⟩ = some (.int .u64 f2):=(blk_cell h 2).trans rfl
theorem IsS72.set_2 {w0 W : World} {g : Nat} {f0 : List Int} {f1 : Int} {f2 : Int} (h : IsS72 w0 W g f0 f1 f2) (x : Int) : IsS72 w0 (W.setCell ⟨g,2,none⟩ (.int .u64 x)) g f0 f1 x:=by
  obtain ⟨A0,c0,hb,hg,hr0⟩:=h;exact ⟨A0,c0,by simpa using blk_set hb 2 (.int .u64 x),hg,hr0⟩
theorem is_ {w0 W : World} {g : Nat} {f0 : List Int} {f1 : Int} {f2 : Int} (h : IsS72 w0 W g f0 f1 f2 := by repeat (first | (with_reducible first | exact HI0.out | apply IsS72.alloc | apply IsS72.drewN | apply IsS72.drew | apply IsS72.set_1 | apply IsS72.set_2 | refine IsS72.far ?_ (Aside0.out (by assumption)) _) | exact HI0.out)) : IsS72 w0 W g f0 f1 f2 := h
theorem be_ {w W : World} {n : Nat} (h : Below n w W := by repeat (first | (with_reducible first | exact HB.out | apply below_alloc | apply pw_below_drewN | apply below_drew1 | refine below_set ?_ (IsS72.ge HI0.out) | refine below_set ?_ (Aside0.out (by assumption)) | refine below_set ?_ (Nat.le_trans HL.out (Aside0.out (by assumption))) | refine below_set ?_ (IsS72.ge (Aside0.out (by assumption)))) | exact HB.out)) : Below n w W := h
theorem ke_ {w W : World} {g : Nat} {r : Option Nat} (h : KeepBut w W g r := by repeat (first | (with_reducible first | exact HK.out | apply KeepBut.set_ | apply keep_drewN | apply keep_drew | apply keep_alloc | refine keep_far ?_ (Aside0.out (by assumption)) _) | exact HK.out)) : KeepBut w W g r := h
theorem IsS72.new (w0 W : World) (A0 : Option Addr) (c0 : Nat) (f0 : List Int) (f1 : Int) (f2 : Int) (hB : Below w0.heap.size w0 W) (hr0 : Kd.C (Kd.int .u8) w0 A0 f0.length f0) : IsS72 w0 (W.alloc (.cells #[.slice A0 f0.length c0,.int .i64 f1,.int .u64 f2] 72)) W.heap.size f0 f1 f2:=⟨A0,c0,by simpa using heap_alloc_new W _,hB.size,hr0⟩

/-! ### spec_l1Cur_next: function 68 -/
def spec_l1Cur_next.f (s0_0 : List Int) (s0_1 : Int) (s0_2 : Int) : Option (Int × Int × Int):=if s0_1 < (s0_0.length : Int) then (if 0 ≤ s0_1 then (if (wrap64 (s0_1 + 1)) ≤ (s0_0.length : Int) then (some (wrap64 (rd s0_0 s0_1),wrap64 (s0_1 + 1),IntKind.u64.wrap ((IntKind.u64.wrap ((IntKind.u64.wrap (s0_2 * 6364136223846793005)) + (IntKind.u64.wrap (wrap64 (rd s0_0 s0_1))))) + 1442695040888963407))) else (some (wrap64 (Go.bits .and .u64 ((IntKind.u64.wrap ((IntKind.u64.wrap ((IntKind.u64.wrap (s0_2 * 6364136223846793005)) + (IntKind.u64.wrap (wrap64 (rd s0_0 s0_1))))) + 1442695040888963407)) / 1099511627776) 255),wrap64 (s0_1 + 1),IntKind.u64.wrap ((IntKind.u64.wrap ((IntKind.u64.wrap (s0_2 * 6364136223846793005)) + (IntKind.u64.wrap (wrap64 (rd s0_0 s0_1))))) + 1442695040888963407)))) else (none)) else (if (wrap64 (s0_1 + 1)) ≤ (s0_0.length : Int) then (some (0,wrap64 (s0_1 + 1),IntKind.u64.wrap ((IntKind.u64.wrap ((IntKind.u64.wrap (s0_2 * 6364136223846793005)) + 0)) + 1442695040888963407))) else (some (wrap64 (Go.bits .and .u64 ((IntKind.u64.wrap ((IntKind.u64.wrap ((IntKind.u64.wrap (s0_2 * 6364136223846793005)) + 0)) + 1442695040888963407)) / 1099511627776) 255),wrap64 (s0_1 + 1),IntKind.u64.wrap ((IntKind.u64.wrap ((IntKind.u64.wrap (s0_2 * 6364136223846793005)) + 0)) + 1442695040888963407))))

/-! ### spec_l1Cur_pick: function 62 -/
def spec_l1Cur_pick.f (s0_0 : List Int) (s0_1 : Int) (s0_2 : Int) (a1 : Int) : Option (Int × Int × Int):=if a1 ≤ 1 then (some (0,s0_1,s0_2)) else ((spec_l1Cur_next.f s0_0 s0_1 s0_2).bind fun bt145 => (if a1 > 200 then ((spec_l1Cur_next.f s0_0 bt145.2.1 bt145.2.2).bind fun bt148 => (if a1 = 0 then (none) else (some (Int.tmod (wrap64 ((wrap64 (bt145.1 * 256)) + bt148.1)) a1,bt148.2.1,bt148.2.2)))) else (if a1 = 0 then (none) else (some (Int.tmod bt145.1 a1,bt145.2.1,bt145.2.2)))))

/-! ### spec_l1Cur_one: function 61 -/
def spec_l1Cur_one.f (s0_0 : List Int) (s0_1 : Int) (s0_2 : Int) (a1 : Int) : Option (Bool × Int × Int):=(spec_l1Cur_pick.f s0_0 s0_1 s0_2 a1).bind fun bt151 => (some ((bt151.1 == 0),bt151.2.1,bt151.2.2))

/-! ### spec_l1Cur_among: function 67 -/
def spec_l1Cur_among.f (s0_0 : List Int) (s0_1 : Int) (s0_2 : Int) (l1 : List Int) : Option (Int × Int × Int):=(spec_l1Cur_pick.f s0_0 s0_1 s0_2 (l1.length : Int)).bind fun bt154 => (if 0 ≤ bt154.1 then (if bt154.1 < (l1.length : Int) then (some (rd l1 bt154.1,bt154.2.1,bt154.2.2)) else (none)) else (none))

/-! ### spec_l1Cur_extent: function 66 -/
def spec_l1Cur_extent.f (s0_0 : List Int) (s0_1 : Int) (s0_2 : Int) : Option (Int × Int × Int × Int):=(spec_l1Cur_one.f s0_0 s0_1 s0_2 12).bind fun bt158 => (if bt158.1 = true then ((spec_l1Cur_among.f s0_0 bt158.2.1 bt158.2.2 (([16,1,17,0] : List Int))).bind fun bt164 => ((spec_l1Cur_among.f s0_0 bt164.2.1 bt164.2.2 (([16,1,0,17] : List Int))).bind fun bt170 => (some (bt164.1,bt170.1,bt170.2.1,bt170.2.2)))) else ((spec_l1Cur_pick.f s0_0 bt158.2.1 bt158.2.2 6).bind fun bt173 => ((spec_l1Cur_pick.f s0_0 bt173.2.1 bt173.2.2 6).bind fun bt176 => (some (wrap64 (1 + bt173.1),wrap64 (1 + bt176.1),bt176.2.1,bt176.2.2)))))

/-! ### spec_l1Cur_cells: function 59 -/
mutual
def spec_l1Cur_cells.l0 : Nat → Int → Int → Int → Int → List Int → Int → Int → Int → List Int → Option (Int × List Int × Int × Int)
  | 0,_,_,_,_,_,_,_,_,_ => none
  | k + 1,x3,x4,x6,x7,x1000,x1001,x1002,x185000,x185001 => if x7 < (wrap64 (x3 * x4)) then ((spec_l1Cur_pick.f x1000 x1001 x1002 10).bind fun bt188 => (if bt188.1 < x6 then ((spec_l1Cur_one.f x1000 bt188.2.1 bt188.2.2 20).bind fun bt191 => (if bt191.1 = true then (if x185001.length < 17592186044416 then (spec_l1Cur_cells.l0 k x3 x4 x6 (wrap64 (x7 + 1)) x1000 bt191.2.1 bt191.2.2 x185000 (x185001 ++ [2])) else (none)) else (if x185001.length < 17592186044416 then (spec_l1Cur_cells.l0 k x3 x4 x6 (wrap64 (x7 + 1)) x1000 bt191.2.1 bt191.2.2 x185000 (x185001 ++ [1])) else (none)))) else ((spec_l1Cur_one.f x1000 bt188.2.1 bt188.2.2 20).bind fun bt200 => (if bt200.1 = true then (if x185001.length < 17592186044416 then (spec_l1Cur_cells.l0 k x3 x4 x6 (wrap64 (x7 + 1)) x1000 bt200.2.1 bt200.2.2 x185000 (x185001 ++ [2])) else (none)) else (if x185001.length < 17592186044416 then (spec_l1Cur_cells.l0 k x3 x4 x6 (wrap64 (x7 + 1)) x1000 bt200.2.1 bt200.2.2 x185000 (x185001 ++ [0])) else (none)))))) else ((spec_l1Cur_one.f x1000 x1001 x1002 24).bind fun bt209 => (if bt209.1 = true then (spec_l1Cur_cells.j1 k (decide ((x185001.length : Int) > 0)) x1000 bt209.2.1 bt209.2.2 x185000 x185001) else (spec_l1Cur_cells.j1 k false x1000 bt209.2.1 bt209.2.2 x185000 x185001)))
def spec_l1Cur_cells.j1 : Nat → Bool → List Int → Int → Int → Int → List Int → Option (Int × List Int × Int × Int)
  | 0,_,_,_,_,_,_ => none
  | k + 1,x44,x1000,x1001,x1002,x185000,x185001 => if x44 = true then ((spec_l1Cur_among.f x1000 x1001 x1002 (([(-1),3] : List Int))).bind fun bt215 => (if 0 < (x185001.length : Int) then ((some (x185001.set (0 : Int).toNat bt215.1 : List Int)).bind fun y218 => ((spec_l1Cur_one.f x1000 bt215.2.1 bt215.2.2 30).bind fun bt219 => (if bt219.1 = true then (if y218.length < 17592186044416 then (some (x185000,(y218 ++ [0]),bt219.2.1,bt219.2.2)) else (none)) else (some (x185000,y218,bt219.2.1,bt219.2.2))))) else (none))) else ((spec_l1Cur_one.f x1000 x1001 x1002 30).bind fun bt225 => (if bt225.1 = true then (if x185001.length < 17592186044416 then (some (x185000,(x185001 ++ [0]),bt225.2.1,bt225.2.2)) else (none)) else (some (x185000,x185001,bt225.2.1,bt225.2.2))))
end
def spec_l1Cur_cells.f (k : Nat) (s0_0 : List Int) (s0_1 : Int) (s0_2 : Int) : Option (Int × List Int × Int × Int):=(spec_l1Cur_extent.f s0_0 s0_1 s0_2).bind fun bt180 => ((spec_l1Cur_pick.f s0_0 bt180.2.2.1 bt180.2.2.2 5).bind fun bt185 => (spec_l1Cur_cells.l0 k bt180.1 bt180.2.1 bt185.1 0 s0_0 bt185.2.1 bt185.2.2 bt180.1 ([] : List Int)))
/-! ### spec_AllPlaces: function 60 -/
def spec_AllPlaces.l0 : Nat → List Int → Int → Int → Int → List Int → Option (List Int)
  | 0,_,_,_,_,_ => none
  | k + 1,x3,x10,x11,x232000,x232001 => if x11 < x10 then (if 0 ≤ x11 then (if x11 < (x232001.length : Int) then (if (rd x232001 x11) = 0 then (if x3.length < 17592186044416 then (spec_AllPlaces.l0 k (x3 ++ [x11]) x10 (wrap64 (x11 + 1)) x232000 x232001) else (none)) else (spec_AllPlaces.l0 k x3 x10 (wrap64 (x11 + 1)) x232000 x232001)) else (none)) else (none)) else (some x3)
def spec_AllPlaces.f (k : Nat) (a0_0 : Int) (l0_1 : List Int) : Option (List Int):=(spec_GoodCells.f k a0_0 l0_1).bind fun t232 => (if t232 = true then (spec_AllPlaces.l0 k ([] : List Int) (l0_1.length : Int) 0 a0_0 l0_1) else (some ([] : List Int)))
/-! ### spec_l1Cur_ends: function 46 -/
def spec_l1Cur_ends.j0 : Nat → List Int → Bool → List Int → Int → Int → Int → List Int → Option (Int × List Int × Int × Int × Int × Int)
  | 0,_,_,_,_,_,_,_ => none
  | k + 1,x6,x17,x1000,x1001,x1002,x245000,x245001 => if x17 = true then ((spec_l1Cur_pick.f x1000 x1001 x1002 (wrap64 ((x245001.length : Int) + 1))).bind fun bt251 => ((spec_l1Cur_pick.f x1000 bt251.2.1 bt251.2.2 (wrap64 ((x245001.length : Int) + 1))).bind fun bt254 => (some (x245000,x245001,bt251.1,wrap64 (bt254.1 - 1),bt254.2.1,bt254.2.2)))) else ((spec_l1Cur_pick.f x1000 x1001 x1002 (x6.length : Int)).bind fun bt257 => (if 0 ≤ bt257.1 then (if bt257.1 < (x6.length : Int) then ((spec_l1Cur_pick.f x1000 bt257.2.1 bt257.2.2 (x6.length : Int)).bind fun bt261 => (if 0 ≤ bt261.1 then (if bt261.1 < (x6.length : Int) then (some (x245000,x245001,rd x6 bt257.1,rd x6 bt261.1,bt261.2.1,bt261.2.2)) else (none)) else (none))) else (none)) else (none)))
def spec_l1Cur_ends.f (k : Nat) (s0_0 : List Int) (s0_1 : Int) (s0_2 : Int) : Option (Int × List Int × Int × Int × Int × Int):=(spec_l1Cur_cells.f k s0_0 s0_1 s0_2).bind fun bt238 => ((spec_AllPlaces.f k bt238.1 bt238.2.1).bind fun t245 => (if (t245.length : Int) = 0 then (spec_l1Cur_ends.j0 k t245 true s0_0 bt238.2.2.1 bt238.2.2.2 bt238.1 bt238.2.1) else ((spec_l1Cur_one.f s0_0 bt238.2.2.1 bt238.2.2.2 16).bind fun bt248 => (spec_l1Cur_ends.j0 k t245 bt248.1 s0_0 bt248.2.1 bt248.2.2 bt238.1 bt238.2.1))))
/-! ### spec_DrawMostClear: function 26 -/
def spec_DrawMostClear.f (k : Nat) (l0 : List Int) : Option (Int × List Int × Int):=(spec_l1Cur_ends.f k l0 0 0).bind fun bt267 => (some (bt267.1,bt267.2.1,bt267.2.2.1))
/-! ### laws_zRising: function 27 -/
def laws_zRising.l0 : Nat → List Int → Int → Option (Bool)
  | 0,_,_ => none
  | k + 1,x0,x3 => if x3 < (x0.length : Int) then (if 0 ≤ x3 then (if 0 ≤ (wrap64 (x3 - 1)) then (if (wrap64 (x3 - 1)) < (x0.length : Int) then (if (rd x0 x3) ≤ (rd x0 (wrap64 (x3 - 1))) then (some false) else (laws_zRising.l0 k x0 (wrap64 (x3 + 1)))) else (none)) else (none)) else (none)) else (some true)
def laws_zRising.f (k : Nat) (l0 : List Int) : Option (Bool):=laws_zRising.l0 k l0 1
/-! ### laws_zIn: function 29 -/
def laws_zIn.l0 : Nat → Int → List Int → Int → Int → Option (Bool)
  | 0,_,_,_,_ => none
  | k + 1,x1,x7,x8,x9 => if x9 < x8 then (if 0 ≤ x9 then (if x9 < (x7.length : Int) then (if (rd x7 x9) = x1 then (some true) else (laws_zIn.l0 k x1 x7 x8 (wrap64 (x9 + 1)))) else (none)) else (none)) else (some false)
def laws_zIn.f (k : Nat) (l0 : List Int) (a1 : Int) : Option (Bool):=laws_zIn.l0 k a1 l0 (l0.length : Int) 0
/-! ### laws_FnClears: function 7 -/
mutual
def laws_FnClears.j0 : Nat → Int → List Int → Bool → Int → List Int → Option (Bool)
  | 0,_,_,_,_,_ => none
  | k + 1,x4,x5,x29,x285000,x285001 => if x29 = true then (some false) else ((spec_GoodCells.f k x285000 x285001).bind fun t292 => (if t292 = true then (laws_FnClears.l0 k x4 x5 (x285001.length : Int) 0 x285000 x285001) else (some ((x5.length : Int) == 0))))
def laws_FnClears.l0 : Nat → Int → List Int → Int → Int → Int → List Int → Option (Bool)
  | 0,_,_,_,_,_,_ => none
  | k + 1,x4,x5,x38,x39,x285000,x285001 => if x39 < x38 then ((impl_Clear.f k x285000 x285001 x4 x39).bind fun t293 => ((laws_zIn.f k x5 x39).bind fun t294 => (if (t293 != t294) = true then (some false) else ((impl_Clear.f k x285000 x285001 x39 x4).bind fun t295 => ((laws_zIn.f k x5 x39).bind fun t296 => (if (t295 != t296) = true then (some false) else (laws_FnClears.l0 k x4 x5 x38 (wrap64 (x39 + 1)) x285000 x285001))))))) else (some true)
end
def laws_FnClears.f (k : Nat) (l0 : List Int) : Option (Bool):=if (l0.length : Int) > 1048576 then (some true) else ((spec_DrawMostClear.f k l0).bind fun bt279 => ((impl_MostClear.f k bt279.1 bt279.2.1 bt279.2.2).bind fun t285 => ((spec_MostClear.f k bt279.1 bt279.2.1 bt279.2.2).bind fun t288 => (if (t285.length : Int) = (t288.length : Int) then ((laws_zRising.f k t285).bind fun t291 => (laws_FnClears.j0 k bt279.2.2 t285 (!t291) bt279.1 bt279.2.1)) else (laws_FnClears.j0 k bt279.2.2 t285 true bt279.1 bt279.2.1)))))
/-! ### laws_szIntS: function 38 -/
/-! ### laws_szCells: function 10 -/
/-! ### laws_toIntS: function 16 -/
/-! ### laws_toCells: function 12 -/
/-! ### laws_eqIntS: function 18 -/
/-! ### laws_eqCells: function 14 -/
/-! ### laws_markIntS: function 22 -/
/-! ### laws_markCells: function 21 -/
/-! ### spec_l4Abs: function 57 -/
def spec_l4Abs.f (a0 : Int) : Option (Int):=if a0 < 0 then (some (wrap64 (-a0))) else (some a0)

/-! ### spec_l18Step: function 44 -/
def spec_l18Step.j0 : Nat → Int → Int → Bool → Int → List Int → Option (Int)
  | 0,_,_,_,_,_ => none
  | k + 1,x1,x2,x18,x320000,x320001 => if x18 = true then (some 0) else (if x320000 = 0 then (none) else ((spec_l4Abs.f (wrap64 ((Int.tmod x2 x320000) - (Int.tmod x1 x320000)))).bind fun t322 => ((spec_l4Abs.f (wrap64 ((wrap64 (Int.tdiv x2 x320000)) - (wrap64 (Int.tdiv x1 x320000))))).bind fun t323 => (if (wrap64 (t322 + t323)) = 1 then (some 1) else (if t322 = 1 then (if t323 = 1 then ((spec_l12Free.f x320000 x320001 (wrap64 (x1 + (wrap64 ((Int.tmod x2 x320000) - (Int.tmod x1 x320000)))))).bind fun t324 => (if t324 = true then ((spec_l12Free.f x320000 x320001 (wrap64 (x1 + (wrap64 ((wrap64 ((wrap64 (Int.tdiv x2 x320000)) - (wrap64 (Int.tdiv x1 x320000)))) * x320000))))).bind fun t325 => (if t325 = true then (some 2) else (some 0))) else (some 0))) else (some 0)) else (some 0))))))
def spec_l18Step.f (k : Nat) (a0_0 : Int) (l0_1 : List Int) (a1 : Int) (a2 : Int) : Option (Int):=(spec_l12Free.f a0_0 l0_1 a1).bind fun t320 => (if t320 = true then ((spec_l12Free.f a0_0 l0_1 a2).bind fun t321 => (spec_l18Step.j0 k a1 a2 (!t321) a0_0 l0_1)) else (spec_l18Step.j0 k a1 a2 true a0_0 l0_1))
/-! ### spec_l12Has: function 63 -/
def spec_l12Has.f (a0 : Int) (a1 : Int) (a2 : Int) (a3 : Int) : Option (Bool):=if a2 ≥ 0 then (if a2 < a0 then (if a3 ≥ 0 then (if a0 = 0 then (none) else (some (decide (a3 < (wrap64 (Int.tdiv a1 a0)))))) else (some false)) else (some false)) else (some false)

/-! ### spec_l18Around: function 49 -/
mutual
def spec_l18Around.l0 : Nat → Int → List Int → Int → Int → List Int → Option (List Int)
  | 0,_,_,_,_,_ => none
  | k + 1,x1,x5,x6,x327000,x327001 => if x6 ≤ 1 then (spec_l18Around.l1 k x1 x5 x6 (-1) x327000 x327001) else (some x5)
def spec_l18Around.l1 : Nat → Int → List Int → Int → Int → Int → List Int → Option (List Int)
  | 0,_,_,_,_,_,_ => none
  | k + 1,x1,x5,x6,x7,x327000,x327001 => if x7 ≤ 1 then (if x327000 = 0 then (none) else ((spec_l12Has.f x327000 (x327001.length : Int) (wrap64 ((Int.tmod x1 x327000) + x7)) (wrap64 ((wrap64 (Int.tdiv x1 x327000)) + x6))).bind fun t327 => (if t327 = true then (if x7 = 0 then (if x6 = 0 then (spec_l18Around.l1 k x1 x5 x6 (wrap64 (x7 + 1)) x327000 x327001) else (if x5.length < 17592186044416 then (spec_l18Around.l1 k x1 (x5 ++ [wrap64 ((wrap64 ((wrap64 ((wrap64 (Int.tdiv x1 x327000)) + x6)) * x327000)) + (wrap64 ((Int.tmod x1 x327000) + x7)))]) x6 (wrap64 (x7 + 1)) x327000 x327001) else (none))) else (if x5.length < 17592186044416 then (spec_l18Around.l1 k x1 (x5 ++ [wrap64 ((wrap64 ((wrap64 ((wrap64 (Int.tdiv x1 x327000)) + x6)) * x327000)) + (wrap64 ((Int.tmod x1 x327000) + x7)))]) x6 (wrap64 (x7 + 1)) x327000 x327001) else (none))) else (spec_l18Around.l1 k x1 x5 x6 (wrap64 (x7 + 1)) x327000 x327001)))) else (spec_l18Around.l0 k x1 x5 (wrap64 (x6 + 1)) x327000 x327001)
end
def spec_l18Around.f (k : Nat) (a0_0 : Int) (l0_1 : List Int) (a1 : Int) : Option (List Int):=spec_l18Around.l0 k a1 ([] : List Int) (-1) a0_0 l0_1
/-! ### spec_l18Sign: function 64 -/
def spec_l18Sign.f (a0 : Int) : Option (Int):=if a0 < 0 then (some (-1)) else (if a0 > 0 then (some 1) else (some 0))

/-! ### spec_l18Cmp: function 50 -/
def spec_l18Cmp.j0 : Nat → Int → Int → Bool → Option (Int)
  | 0,_,_,_ => none
  | k + 1,x0,x1,x13 => if x13 = true then ((spec_l18Sign.f x0).bind fun t336 => (some t336)) else (if x0 = 0 then ((spec_l18Sign.f x1).bind fun t337 => (some t337)) else (if (wrap64 (x0 * x0)) > (wrap64 ((wrap64 (2 * x1)) * x1)) then ((spec_l18Sign.f x0).bind fun t338 => (some t338)) else ((spec_l18Sign.f x1).bind fun t339 => (some t339))))
def spec_l18Cmp.f (k : Nat) (a0 : Int) (a1 : Int) : Option (Int):=(spec_l18Sign.f a0).bind fun t334 => ((spec_l18Sign.f a1).bind fun t335 => (if t334 = t335 then (spec_l18Cmp.j0 k a0 a1 true) else (spec_l18Cmp.j0 k a0 a1 (a1 == 0))))
/-! ### spec_l18From: function 48 -/
mutual
def spec_l18From.l0 : Nat → Int → List Int → List Int → List Bool → Int → Int → Int → List Int → Option (List Int × List Int)
  | 0,_,_,_,_,_,_,_,_ => none
  | k + 1,x1,x7,x8,x9,x28,x29,x341000,x341001 => if x29 < x28 then (if 0 ≤ x29 then (if x29 < (x7.length : Int) then (if x29 < (x8.length : Int) then (spec_l18From.l0 k x1 (x7.set (x29 : Int).toNat (-1)) (x8.set (x29 : Int).toNat (-1)) x9 x28 (wrap64 (x29 + 1)) x341000 x341001) else (none)) else (none)) else (none)) else (if 0 ≤ x1 then (if x1 < (x7.length : Int) then (if x1 < (x8.length : Int) then (spec_l18From.l1 k (x7.set (x1 : Int).toNat 0) (x8.set (x1 : Int).toNat 0) x9 x341000 x341001) else (none)) else (none)) else (none))
def spec_l18From.l1 : Nat → List Int → List Int → List Bool → Int → List Int → Option (List Int × List Int)
  | 0,_,_,_,_,_ => none
  | k + 1,x7,x8,x9,x341000,x341001 => spec_l18From.l2 k x7 x8 x9 (-1) (x7.length : Int) 0 x341000 x341001
def spec_l18From.l2 : Nat → List Int → List Int → List Bool → Int → Int → Int → Int → List Int → Option (List Int × List Int)
  | 0,_,_,_,_,_,_,_,_ => none
  | k + 1,x7,x8,x9,x11,x46,x47,x341000,x341001 => if x47 < x46 then (if 0 ≤ x47 then (if x47 < (x7.length : Int) then (if (rd x7 x47) ≥ 0 then (if x47 < (x9.length : Int) then (if rdOf false x9 x47 = true then (spec_l18From.l2 k x7 x8 x9 x11 x46 (wrap64 (x47 + 1)) x341000 x341001) else (if x11 < 0 then (spec_l18From.l2 k x7 x8 x9 x47 x46 (wrap64 (x47 + 1)) x341000 x341001) else (if 0 ≤ x11 then (if x11 < (x7.length : Int) then (if x47 < (x8.length : Int) then (if x11 < (x8.length : Int) then ((spec_l18Cmp.f k (wrap64 ((rd x7 x47) - (rd x7 x11))) (wrap64 ((rd x8 x47) - (rd x8 x11)))).bind fun t360 => (if t360 < 0 then (spec_l18From.l2 k x7 x8 x9 x47 x46 (wrap64 (x47 + 1)) x341000 x341001) else (spec_l18From.l2 k x7 x8 x9 x11 x46 (wrap64 (x47 + 1)) x341000 x341001))) else (none)) else (none)) else (none)) else (none)))) else (none)) else (spec_l18From.l2 k x7 x8 x9 x11 x46 (wrap64 (x47 + 1)) x341000 x341001)) else (none)) else (none)) else (if x11 < 0 then (some (x7,x8)) else (if 0 ≤ x11 then (if x11 < (x9.length : Int) then ((spec_l18Around.f k x341000 x341001 x11).bind fun t362 => (spec_l18From.l3 k x7 x8 (x9.set (x11 : Int).toNat true) x11 t362 (t362.length : Int) 0 x341000 x341001)) else (none)) else (none)))
def spec_l18From.l3 : Nat → List Int → List Int → List Bool → Int → List Int → Int → Int → Int → List Int → Option (List Int × List Int)
  | 0,_,_,_,_,_,_,_,_,_ => none
  | k + 1,x7,x8,x9,x11,x99,x100,x101,x341000,x341001 => if x101 < x100 then (if 0 ≤ x101 then (if x101 < (x99.length : Int) then ((spec_l18Step.f k x341000 x341001 x11 (rd x99 x101)).bind fun t366 => (if t366 = 0 then (spec_l18From.j4 k x7 x8 x9 x11 (rd x99 x101) t366 x99 x100 x101 true x341000 x341001) else (if 0 ≤ (rd x99 x101) then (if (rd x99 x101) < (x9.length : Int) then (spec_l18From.j4 k x7 x8 x9 x11 (rd x99 x101) t366 x99 x100 x101 (rdOf false x9 (rd x99 x101)) x341000 x341001) else (none)) else (none)))) else (none)) else (none)) else (spec_l18From.l1 k x7 x8 x9 x341000 x341001)
def spec_l18From.j4 : Nat → List Int → List Int → List Bool → Int → Int → Int → List Int → Int → Int → Bool → Int → List Int → Option (List Int × List Int)
  | 0,_,_,_,_,_,_,_,_,_,_,_,_ => none
  | k + 1,x7,x8,x9,x11,x14,x15,x99,x100,x101,x116,x341000,x341001 => if x116 = true then (spec_l18From.l3 k x7 x8 x9 x11 x99 x100 (wrap64 (x101 + 1)) x341000 x341001) else (if 0 ≤ x11 then (if x11 < (x7.length : Int) then (if x11 < (x8.length : Int) then (if x15 = 1 then (if 0 ≤ x14 then (if x14 < (x7.length : Int) then (if (rd x7 x14) < 0 then (if x14 < (x8.length : Int) then (spec_l18From.l3 k (x7.set (x14 : Int).toNat (wrap64 ((rd x7 x11) + 1))) (x8.set (x14 : Int).toNat (rd x8 x11)) x9 x11 x99 x100 (wrap64 (x101 + 1)) x341000 x341001) else (none)) else (if x14 < (x8.length : Int) then ((spec_l18Cmp.f k (wrap64 ((wrap64 ((rd x7 x11) + 1)) - (rd x7 x14))) (wrap64 ((rd x8 x11) - (rd x8 x14)))).bind fun t375 => (if t375 < 0 then (spec_l18From.l3 k (x7.set (x14 : Int).toNat (wrap64 ((rd x7 x11) + 1))) (x8.set (x14 : Int).toNat (rd x8 x11)) x9 x11 x99 x100 (wrap64 (x101 + 1)) x341000 x341001) else (spec_l18From.l3 k x7 x8 x9 x11 x99 x100 (wrap64 (x101 + 1)) x341000 x341001))) else (none))) else (none)) else (none)) else (if 0 ≤ x14 then (if x14 < (x7.length : Int) then (if (rd x7 x14) < 0 then (if x14 < (x8.length : Int) then (spec_l18From.l3 k (x7.set (x14 : Int).toNat (rd x7 x11)) (x8.set (x14 : Int).toNat (wrap64 ((rd x8 x11) + 1))) x9 x11 x99 x100 (wrap64 (x101 + 1)) x341000 x341001) else (none)) else (if x14 < (x8.length : Int) then ((spec_l18Cmp.f k (wrap64 ((rd x7 x11) - (rd x7 x14))) (wrap64 ((wrap64 ((rd x8 x11) + 1)) - (rd x8 x14)))).bind fun t383 => (if t383 < 0 then (spec_l18From.l3 k (x7.set (x14 : Int).toNat (rd x7 x11)) (x8.set (x14 : Int).toNat (wrap64 ((rd x8 x11) + 1))) x9 x11 x99 x100 (wrap64 (x101 + 1)) x341000 x341001) else (spec_l18From.l3 k x7 x8 x9 x11 x99 x100 (wrap64 (x101 + 1)) x341000 x341001))) else (none))) else (none)) else (none))) else (none)) else (none)) else (none))
end
def spec_l18From.f (k : Nat) (a0_0 : Int) (l0_1 : List Int) (a1 : Int) : Option (List Int × List Int):=if 0 ≤ (l0_1.length : Int) then (if ((l0_1.length : Int) : Int).toNat ≤ 35184372088832 then ((some (List.replicate ((l0_1.length : Int) : Int).toNat 0 : List Int)).bind fun y341 => (if ((l0_1.length : Int) : Int).toNat ≤ 281474976710656 then (spec_l18From.l0 k a1 y341 (List.replicate ((l0_1.length : Int) : Int).toNat 0) (List.replicate ((l0_1.length : Int) : Int).toNat false) (y341.length : Int) 0 a0_0 l0_1) else (none))) else (none)) else (none)
/-! ### spec_ShortestWay: function 30 -/
mutual
def spec_ShortestWay.j0 : Nat → Int → Int → Bool → Int → List Int → Option (List Int × Int × Int × Bool)
  | 0,_,_,_,_,_ => none
  | k + 1,x1,x2,x29,x387000,x387001 => if x29 = true then (some (([] : List Int),0,0,false)) else ((spec_l18From.f k x387000 x387001 x2).bind fun bt391 => (if 0 ≤ x1 then (if x1 < (bt391.1.length : Int) then (if (rd bt391.1 x1) < 0 then (some (([] : List Int),0,0,false)) else (if x1 < (bt391.2.length : Int) then (spec_ShortestWay.l0 k x2 bt391.1 bt391.2 x1 x387000 x387001 (([x1] : List Int)) (rd bt391.1 x1) (rd bt391.2 x1)) else (none))) else (none)) else (none)))
def spec_ShortestWay.l0 : Nat → Int → List Int → List Int → Int → Int → List Int → List Int → Int → Int → Option (List Int × Int × Int × Bool)
  | 0,_,_,_,_,_,_,_,_,_ => none
  | k + 1,x2,x8,x9,x11,x387000,x387001,x404000,x404001,x404002 => if x11 = x2 then (some (x404000,x404001,x404002,true)) else ((spec_l18Around.f k x387000 x387001 x11).bind fun t404 => (spec_ShortestWay.l1 k x2 x8 x9 x11 t404 (t404.length : Int) 0 x387000 x387001 x404000 x404001 x404002))
def spec_ShortestWay.l1 : Nat → Int → List Int → List Int → Int → List Int → Int → Int → Int → List Int → List Int → Int → Int → Option (List Int × Int × Int × Bool)
  | 0,_,_,_,_,_,_,_,_,_,_,_,_ => none
  | k + 1,x2,x8,x9,x11,x60,x61,x62,x387000,x387001,x404000,x404001,x404002 => if x62 < x61 then (if 0 ≤ x62 then (if x62 < (x60.length : Int) then ((spec_l18Step.f k x387000 x387001 x11 (rd x60 x62)).bind fun t411 => (if t411 = 1 then (if 0 ≤ (rd x60 x62) then (if (rd x60 x62) < (x8.length : Int) then (if 0 ≤ x11 then (if x11 < (x8.length : Int) then (if (rd x60 x62) < (x9.length : Int) then (if x11 < (x9.length : Int) then ((spec_l18Cmp.f k (wrap64 ((wrap64 ((rd x8 (rd x60 x62)) + 1)) - (rd x8 x11))) (wrap64 ((rd x9 (rd x60 x62)) - (rd x9 x11)))).bind fun t416 => (if t416 = 0 then (if x404000.length < 17592186044416 then (spec_ShortestWay.l0 k x2 x8 x9 (rd x60 x62) x387000 x387001 (x404000 ++ [rd x60 x62]) x404001 x404002) else (none)) else (if t411 = 2 then ((spec_l18Cmp.f k (wrap64 ((rd x8 (rd x60 x62)) - (rd x8 x11))) (wrap64 ((wrap64 ((rd x9 (rd x60 x62)) + 1)) - (rd x9 x11)))).bind fun t424 => (if t424 = 0 then (if x404000.length < 17592186044416 then (spec_ShortestWay.l0 k x2 x8 x9 (rd x60 x62) x387000 x387001 (x404000 ++ [rd x60 x62]) x404001 x404002) else (none)) else (spec_ShortestWay.l1 k x2 x8 x9 x11 x60 x61 (wrap64 (x62 + 1)) x387000 x387001 x404000 x404001 x404002))) else (spec_ShortestWay.l1 k x2 x8 x9 x11 x60 x61 (wrap64 (x62 + 1)) x387000 x387001 x404000 x404001 x404002)))) else (none)) else (none)) else (none)) else (none)) else (none)) else (none)) else (if t411 = 2 then (if 0 ≤ (rd x60 x62) then (if (rd x60 x62) < (x8.length : Int) then (if 0 ≤ x11 then (if x11 < (x8.length : Int) then (if (rd x60 x62) < (x9.length : Int) then (if x11 < (x9.length : Int) then ((spec_l18Cmp.f k (wrap64 ((rd x8 (rd x60 x62)) - (rd x8 x11))) (wrap64 ((wrap64 ((rd x9 (rd x60 x62)) + 1)) - (rd x9 x11)))).bind fun t432 => (if t432 = 0 then (if x404000.length < 17592186044416 then (spec_ShortestWay.l0 k x2 x8 x9 (rd x60 x62) x387000 x387001 (x404000 ++ [rd x60 x62]) x404001 x404002) else (none)) else (spec_ShortestWay.l1 k x2 x8 x9 x11 x60 x61 (wrap64 (x62 + 1)) x387000 x387001 x404000 x404001 x404002))) else (none)) else (none)) else (none)) else (none)) else (none)) else (none)) else (spec_ShortestWay.l1 k x2 x8 x9 x11 x60 x61 (wrap64 (x62 + 1)) x387000 x387001 x404000 x404001 x404002)))) else (none)) else (none)) else (if x404000.length < 17592186044416 then (spec_ShortestWay.l0 k x2 x8 x9 x11 x387000 x387001 (x404000 ++ [x11]) x404001 x404002) else (none))
end
def spec_ShortestWay.f (k : Nat) (a0_0 : Int) (l0_1 : List Int) (a1 : Int) (a2 : Int) : Option (List Int × Int × Int × Bool):=(spec_GoodCells.f k a0_0 l0_1).bind fun t388 => (if t388 = true then ((spec_l12Free.f a0_0 l0_1 a1).bind fun t389 => (if t389 = true then ((spec_l12Free.f a0_0 l0_1 a2).bind fun t390 => (spec_ShortestWay.j0 k a1 a2 (!t390) a0_0 l0_1)) else (spec_ShortestWay.j0 k a1 a2 true a0_0 l0_1))) else (spec_ShortestWay.j0 k a1 a2 true a0_0 l0_1))
/-! ### impl_sign: function 65 -/
def impl_sign.f (a0 : Int) : Option (Int):=if a0 < 0 then (some (-1)) else (if a0 > 0 then (some 1) else (some 0))

/-! ### impl_cmpCost: function 51 -/
def impl_cmpCost.f (a0 : Int) (a1 : Int) : Option (Int):=(impl_sign.f a0).bind fun t436 => ((impl_sign.f a1).bind fun t437 => (if (wrap64 (t436 * t437)) ≥ 0 then ((impl_sign.f (wrap64 (a0 + a1))).bind fun t438 => (some t438)) else ((impl_sign.f a0).bind fun t439 => ((impl_sign.f (wrap64 ((wrap64 (a0 * a0)) - (wrap64 ((wrap64 (2 * a1)) * a1))))).bind fun t440 => (some (wrap64 (t439 * t440)))))))

/-! ### impl_Cells_next: function 58 -/
def impl_Cells_next.f (a0_0 : Int) (l0_1 : List Int) (a1 : Int) (a2 : Int) (a3 : Int) : Option (Int):=if a0_0 = 0 then (none) else (if (wrap64 ((Int.tmod a1 a0_0) + a2)) < 0 then (some (-1)) else (if (wrap64 ((Int.tmod a1 a0_0) + a2)) ≥ a0_0 then (some (-1)) else (if (wrap64 ((wrap64 (Int.tdiv a1 a0_0)) + a3)) < 0 then (some (-1)) else (if (wrap64 ((wrap64 (Int.tdiv a1 a0_0)) + a3)) ≥ (wrap64 ((l0_1.length : Int) / a0_0)) then (some (-1)) else (some (wrap64 ((wrap64 ((wrap64 ((wrap64 (Int.tdiv a1 a0_0)) + a3)) * a0_0)) + (wrap64 ((Int.tmod a1 a0_0) + a2)))))))))

/-! ### impl_Cells_step: function 45 -/
def impl_Cells_step.j0 : Nat → Int → Int → Bool → Int → List Int → Option (Int × Int × Bool)
  | 0,_,_,_,_,_ => none
  | k + 1,x1,x2,x19,x443000,x443001 => if x19 = true then (some (0,0,false)) else (if x443000 = 0 then (none) else (if (wrap64 ((wrap64 ((wrap64 ((Int.tmod x2 x443000) - (Int.tmod x1 x443000))) * (wrap64 ((Int.tmod x2 x443000) - (Int.tmod x1 x443000))))) + (wrap64 ((wrap64 ((wrap64 (Int.tdiv x2 x443000)) - (wrap64 (Int.tdiv x1 x443000)))) * (wrap64 ((wrap64 (Int.tdiv x2 x443000)) - (wrap64 (Int.tdiv x1 x443000)))))))) = 1 then (some (1,0,true)) else (if (wrap64 ((wrap64 ((wrap64 ((Int.tmod x2 x443000) - (Int.tmod x1 x443000))) * (wrap64 ((Int.tmod x2 x443000) - (Int.tmod x1 x443000))))) + (wrap64 ((wrap64 ((wrap64 (Int.tdiv x2 x443000)) - (wrap64 (Int.tdiv x1 x443000)))) * (wrap64 ((wrap64 (Int.tdiv x2 x443000)) - (wrap64 (Int.tdiv x1 x443000)))))))) = 2 then ((impl_Cells_next.f x443000 x443001 x1 (wrap64 ((Int.tmod x2 x443000) - (Int.tmod x1 x443000))) 0).bind fun t446 => ((impl_Cells_free.f x443000 x443001 t446).bind fun t447 => (if t447 = true then ((impl_Cells_next.f x443000 x443001 x1 0 (wrap64 ((wrap64 (Int.tdiv x2 x443000)) - (wrap64 (Int.tdiv x1 x443000))))).bind fun t448 => ((impl_Cells_free.f x443000 x443001 t448).bind fun t449 => (some (0,1,t449)))) else (some (0,1,false))))) else (some (0,0,false)))))
def impl_Cells_step.f (k : Nat) (a0_0 : Int) (l0_1 : List Int) (a1 : Int) (a2 : Int) : Option (Int × Int × Bool):=(impl_Cells_free.f a0_0 l0_1 a1).bind fun t444 => (if t444 = true then ((impl_Cells_free.f a0_0 l0_1 a2).bind fun t445 => (impl_Cells_step.j0 k a1 a2 (!t445) a0_0 l0_1)) else (impl_Cells_step.j0 k a1 a2 true a0_0 l0_1))
/-! ### impl_Cells_around: function 52 -/
mutual
def impl_Cells_around.l0 : Nat → Int → List Int → List (S66) → Int → Int → List Int → Option (List Int × (List (S66)))
  | 0,_,_,_,_,_,_ => none
  | k + 1,x1,x6,x7,x8,x451000,x451001 => if x8 ≤ 1 then (impl_Cells_around.l1 k x1 x6 x7 x8 (-1) x451000 x451001) else (some (x6,x7))
def impl_Cells_around.l1 : Nat → Int → List Int → List (S66) → Int → Int → Int → List Int → Option (List Int × (List (S66)))
  | 0,_,_,_,_,_,_,_ => none
  | k + 1,x1,x6,x7,x8,x9,x451000,x451001 => if x9 ≤ 1 then ((impl_Cells_next.f x451000 x451001 x1 x9 x8).bind fun t451 => (if t451 < 0 then (impl_Cells_around.j2 k x1 x6 x7 x8 x9 t451 true x451000 x451001) else (impl_Cells_around.j2 k x1 x6 x7 x8 x9 t451 (t451 == x1) x451000 x451001))) else (impl_Cells_around.l0 k x1 x6 x7 (wrap64 (x8 + 1)) x451000 x451001)
def impl_Cells_around.j2 : Nat → Int → List Int → List (S66) → Int → Int → Int → Bool → Int → List Int → Option (List Int × (List (S66)))
  | 0,_,_,_,_,_,_,_,_,_ => none
  | k + 1,x1,x6,x7,x8,x9,x10,x32,x451000,x451001 => if x32 = true then (impl_Cells_around.l1 k x1 x6 x7 x8 (wrap64 (x9 + 1)) x451000 x451001) else ((impl_Cells_step.f k x451000 x451001 x1 x10).bind fun bt452 => (if bt452.2.2 = true then ((some (([x10] : List Int) : List Int)).bind fun y456 => (if x6.length + y456.length < 17592186044416 then ((some (([(⟨bt452.1,bt452.2.1⟩ : S66)] : List (S66)) : List (S66))).bind fun y462 => (if x7.length + y462.length < 8796093022208 then (impl_Cells_around.l1 k x1 (x6 ++ y456) (x7 ++ y462) x8 (wrap64 (x9 + 1)) x451000 x451001) else (none))) else (none))) else (impl_Cells_around.l1 k x1 x6 x7 x8 (wrap64 (x9 + 1)) x451000 x451001)))
end
def impl_Cells_around.f (k : Nat) (a0_0 : Int) (l0_1 : List Int) (a1 : Int) : Option (List Int × (List (S66))):=impl_Cells_around.l0 k a1 ([] : List Int) ([] : List (S66)) (-1) a0_0 l0_1
end Go.Proofs.Ytjcmlggdaajicaa.Pr
/-
Own text,by hand: the contract of (Cells).clear.
-/
namespace Go.Proofs.Ytjcmlggdaajicaa.Pr
open Go.RowKit Go.Proofs.YtjcmlggdaajicaaW.PrintWords Go.Proofs.YtjcmlggdaajicaaW.PrintLast Go.Proofs.YtjcmlggdaajicaaW.PrintMore
attribute [local go_sem] max2_int min2_int max_two min_two

set_option maxHeartbeats 2000000 in
set_option maxRecDepth 100000 in
theorem clear_walk (W : Int) (A : Option Addr) (c : Nat) (l : List Int) (a b : Int) (w : World) (hr : Kd.C (Kd.int .i64) w A l.length l) (hc : l.length ≤ c) (h1 : 1 ≤ W) (h2 : W ≤ 16) (hn : l.length ≤ 256) (ha0 : 0 ≤ a) (ha : a < l.length) (hb0 : 0 ≤ b) (hb : b < l.length) :
    Calls Try.prog 42 #[.agg #[.int .i64 W,.slice A l.length c],.int .i64 a,.int .i64 b] w fun e w' => e = .returned (.bool ((List.range l.length).all fun c => !blocks W l a b c)) ∧ Below w.heap.size w w':=by
  have HR:=ak hr;clear hr;have HC:=ak hc;clear hc;have hW : (W == 0) = false:=beq_eq_false_iff_ne.2 (by omega);have hu:=Try.underlying27;(have mod1 : ∀ z : Int,0 ≤ z % W ∧ z % W ≤ 15:=fun z => ⟨Int.emod_nonneg _ (by omega),by have:=Int.emod_lt_of_pos z (show 0 < W by omega);omega⟩);(have div1 : ∀ z : Int,0 ≤ z → z < 256 → 0 ≤ z / W ∧ z / W ≤ 255:=fun z h0 h1 => ⟨Int.ediv_nonneg h0 (by omega),by have:=Int.ediv_le_self W h0;omega⟩);obtain ⟨x1,hx1⟩ : ∃ x,wrap64 (2 * (a % W)) = x:=⟨_,rfl⟩;obtain ⟨y1,hy1⟩ : ∃ x,wrap64 (2 * (a / W)) = x:=⟨_,rfl⟩;obtain ⟨x2,hx2⟩ : ∃ x,wrap64 (2 * (b % W)) = x:=⟨_,rfl⟩;obtain ⟨y2,hy2⟩ : ∃ x,wrap64 (2 * (b / W)) = x:=⟨_,rfl⟩;(have ex1 : 2 * (a % W) = x1:=by rw [← hx1];unfold wrap64;have:=mod1 a;omega);(have ey1 : 2 * (a / W) = y1:=by rw [← hy1];unfold wrap64;have:=div1 a ha0 (by omega);omega);(have ex2 : 2 * (b % W) = x2:=by rw [← hx2];unfold wrap64;have:=mod1 b;omega);(have ey2 : 2 * (b / W) = y2:=by rw [← hy2];unfold wrap64;have:=div1 b hb0 (by omega);omega);(have bx1 : 0 ≤ x1 ∧ x1 ≤ 30:=by have:=mod1 a;omega);(have by1 : 0 ≤ y1 ∧ y1 ≤ 510:=by have:=div1 a ha0 (by omega);omega);(have bx2 : 0 ≤ x2 ∧ x2 ≤ 30:=by have:=mod1 b;omega);(have by2 : 0 ≤ y2 ∧ y2 ≤ 510:=by have:=div1 b hb0 (by omega);omega);have E1:=ak ex1;have E2:=ak ey1;have E3:=ak ex2;have E4:=ak ey2;have M1:=ak mod1;have D1:=ak div1;clear ex1 ey1 ex2 ey2 mod1 div1;obtain ⟨bx1a,bx1b⟩:=bx1;obtain ⟨by1a,by1b⟩:=by1;obtain ⟨bx2a,bx2b⟩:=bx2;obtain ⟨by2a,by2b⟩:=by2;obtain ⟨mx,hmx⟩ : ∃ x,(if x1 < x2 then x2 else x1) = x:=⟨_,rfl⟩;obtain ⟨nx,hnx⟩ : ∃ x,(if x2 < x1 then x2 else x1) = x:=⟨_,rfl⟩;obtain ⟨my,hmy⟩ : ∃ x,(if y1 < y2 then y2 else y1) = x:=⟨_,rfl⟩;obtain ⟨ny,hny⟩ : ∃ x,(if y2 < y1 then y2 else y1) = x:=⟨_,rfl⟩;go_enter Try.func42,Try.ntmps42;go_wp2_with fail
  go_quiet (fail)
  rw [hx1,hy1,hx2,hy2];clear hx1 hy1 hx2 hy2;go_wp2_with fail
  go_loopg [42] l.length (fun g i wr => ∃ k : Nat,Aside0 (k + g = l.length) ∧ i = .int .i64 k ∧ Aside0 (∀ j,j < k → blocks W l a b j = false) ∧ Aside0 (Below w.heap.size w wr) ∧ Aside0 (wr.heap[w.heap.size]? = some (.cells #[.int .i64 W,.slice A l.length c] 27 (0,0))))
  case atStart => exact ⟨0,⟨Nat.zero_add _⟩,rfl,⟨fun j hj => absurd hj (Nat.not_lt_zero j)⟩,⟨pw_below_drewN (below_alloc (Below.refl _ _) _) _⟩,⟨blk_drewN (blk_new _ _) _⟩⟩
  case round =>
    obtain ⟨k,HK,rfl,HN,HB,BK⟩:=hrel;have hcz0 : wr.cell? ⟨w.heap.size,0,none⟩ = some (.int .i64 W):=(blk_cell BK.out 0).trans rfl;have hcz1 : wr.cell? ⟨w.heap.size,1,none⟩ = some (.slice A l.length c):=(blk_cell BK.out 1).trans rfl;by_cases hlt : k < l.length
    · have HLT:=ak hlt
      have hf:=ak (show impl_Cells_free.f W l (k : Int) = some (rd l (k : Int) == 0) by unfold impl_Cells_free.f;rw [if_pos (by omega),if_pos (by omega),if_pos (by omega)]);obtain ⟨fr,hfr⟩ : ∃ q,q = (rd l (k : Int) == 0):=⟨_,rfl⟩;rw [← hfr] at hf;have HF:=ak hfr;clear hfr
      cases fr with
      | true =>
        (have nb : blocks W l a b k = false:=by unfold blocks;rw [show (l.getD k 0 == 0) = true from HF.out.symm];rfl);have NB:=ak nb;clear nb;go_wp2_with (go_at_call 41;(with_reducible refine (impl_Cells_free.calls _ _ _ _ _ _ _ ?s1 HC.out hf.out).mono ?_);(case s1 => exact Kd.C_below HR.out HB.out);rintro e w1 ⟨rfl,hb⟩);go_roundg (l.length - (k + 1))
        case measure => have:=HK.out;omega
        case rel => exact ⟨k + 1,⟨by omega⟩,by go_num,⟨fun j hj => by
          by_cases e : j = k
          · exact e ▸ NB.out
          · exact HN.out j (by omega)⟩,⟨below_step HB.out hb⟩,⟨blk_below BK.out hb⟩⟩
      | false =>
        obtain ⟨x,hx⟩ : ∃ q,wrap64 (2 * ((k : Int) % W)) = q:=⟨_,rfl⟩;obtain ⟨y,hy⟩ : ∃ q,wrap64 (2 * wrap64 ((k : Int) / W)) = q:=⟨_,rfl⟩;(have ex : 2 * ((k : Int) % W) = x:=by rw [← hx];unfold wrap64;have:=M1.out k;omega);(have ey : 2 * ((k : Int) / W) = y:=by rw [← hy];have:=D1.out k (by omega) (by omega);unfold wrap64;omega);(have hx0 : 0 ≤ x:=by have:=M1.out k;omega);(have hx9 : x ≤ 30:=by have:=M1.out k;omega);(have hy0 : 0 ≤ y:=by have:=D1.out k (by omega) (by omega);omega);(have hy9 : y ≤ 510:=by have:=D1.out k (by omega) (by omega);omega);have EX:=ak ex;have EY:=ak ey;clear ex ey;go_wp2_with (go_at_call 41;(with_reducible refine (impl_Cells_free.calls _ _ _ _ _ _ _ ?s1 HC.out hf.out).mono ?_);(case s1 => exact Kd.C_below HR.out HB.out);rintro e w1 ⟨rfl,hb⟩;have B1:=ak (below_step HB.out hb);have K1:=ak (blk_below BK.out hb);have hcy0 : w1.cell? ⟨w.heap.size,0,none⟩ = some (.int .i64 W):=(blk_cell K1.out 0).trans rfl;clear hcz0 hcz1)
        go_quiet (fail)
        rw [hx,hy];clear hx hy
        have EB : Aside0 (blocks W l a b k = (!(decide (mx < x - 1) || decide (nx > x + 1) || decide (my < y - 1) || decide (ny > y + 1)) && (lessTo x1 y1 x2 y2 x y 4 && moreTo x1 y1 x2 y2 x y 4))):=⟨by
          unfold blocks farOf maxI minI;rw [E1.out,E2.out,E3.out,E4.out,EX.out,EY.out,hmx,hnx,hmy,hny,show (l.getD k 0 == 0) = false from HF.out.symm]
          rfl⟩
        have rel (w2 : World) (hb2 : Below w1.heap.size w1 w2) (nb : blocks W l a b k = false) : ∃ k' : Nat,Aside0 (k' + (l.length - (k + 1)) = l.length) ∧ Value.int .i64 ((k : Int) + 1) = .int .i64 k' ∧ Aside0 (∀ j,j < k' → blocks W l a b j = false) ∧ Aside0 (Below w.heap.size w w2) ∧ Aside0 (w2.heap[w.heap.size]? = some (.cells #[.int .i64 W,.slice A l.length c] 27 (0,0))):=⟨k + 1,⟨by have:=HLT.out;omega⟩,by go_num,⟨fun j hj => by
          by_cases e : j = k
          · exact e ▸ nb
          · exact HN.out j (by omega)⟩,⟨below_step B1.out hb2⟩,⟨blk_below K1.out hb2⟩⟩
        have REL:=ak rel;clear rel;by_cases t1 : mx < x - 1
        · go_wp2_with fail
          go_roundg (l.length - (k + 1))
          case measure => have:=HK.out;omega
          case rel => exact REL.out _ (pw_below_drewN (Below.refl _ _) _) (by rw [EB.out];simp [t1])
        by_cases t2 : nx > x + 1
        · go_wp2_with fail
          go_roundg (l.length - (k + 1))
          case measure => have:=HK.out;omega
          case rel => exact REL.out _ (pw_below_drewN (Below.refl _ _) _) (by rw [EB.out];simp [t2])
        by_cases t3 : my < y - 1
        · go_wp2_with fail
          go_roundg (l.length - (k + 1))
          case measure => have:=HK.out;omega
          case rel => exact REL.out _ (pw_below_drewN (Below.refl _ _) _) (by rw [EB.out];simp [t3])
        by_cases t4 : ny > y + 1
        · go_wp2_with fail
          go_roundg (l.length - (k + 1))
          case measure => have:=HK.out;omega
          case rel => exact REL.out _ (pw_below_drewN (Below.refl _ _) _) (by rw [EB.out];simp [t4])
        (have eb : blocks W l a b k = (lessTo x1 y1 x2 y2 x y 4 && moreTo x1 y1 x2 y2 x y 4):=by rw [EB.out];simp [t1,t2,t3,t4]);have EB2:=ak eb;clear eb;go_wp2_with fail
        go_loopg [14,15,93] 4 (fun g v14 v15 v93 w2 => ∃ (q : Nat) (bl bm : Bool),Aside0 (q + g = 4) ∧ v93 = .int .i64 q ∧ v14 = .bool bl ∧ v15 = .bool bm ∧ Aside0 (bl = lessTo x1 y1 x2 y2 x y q) ∧ Aside0 (bm = moreTo x1 y1 x2 y2 x y q) ∧ Aside0 (Below w1.heap.size w1 w2))
        case atStart => exact ⟨0,false,false,⟨rfl⟩,rfl,rfl,rfl,⟨rfl⟩,⟨rfl⟩,⟨pw_below_drewN (Below.refl _ _) _⟩⟩
        case round =>
          obtain ⟨q,bl,bm,HQ,rfl,rfl,rfl,HBL,HBM,HB2⟩:=hrel;by_cases hq : q < 4
          · obtain ⟨dx,dy,ed,hdx0,hdx1,hdy0,hdy1,hix⟩ : ∃ dx dy : Int,(dx = cornX q ∧ dy = cornY q) ∧ -1 ≤ dx ∧ dx ≤ 1 ∧ -1 ≤ dy ∧ dy ≤ 1 ∧ ∀ w,(Instr.index 86 (.agg #[.int .i64 (-1),.int .i64 (-1),.int .i64 (-1),.int .i64 1,.int .i64 1,.int .i64 (-1),.int .i64 1,.int .i64 1]) (.int .i64 q)).run Try.prog w = .ok (.agg #[.int .i64 dx,.int .i64 dy]) w:=by
              (have hq4 : q = 0 ∨ q = 1 ∨ q = 2 ∨ q = 3:=by omega)
              rcases hq4 with rfl | rfl | rfl | rfl
              · exact ⟨-1,-1,⟨rfl,rfl⟩,by decide,by decide,by decide,by decide,fun _ => by kernel_rfl⟩
              · exact ⟨-1,1,⟨rfl,rfl⟩,by decide,by decide,by decide,by decide,fun _ => by kernel_rfl⟩
              · exact ⟨1,-1,⟨rfl,rfl⟩,by decide,by decide,by decide,by decide,fun _ => by kernel_rfl⟩
              · exact ⟨1,1,⟨rfl,rfl⟩,by decide,by decide,by decide,by decide,fun _ => by kernel_rfl⟩
            have ED:=ak ed;clear ed
            go_upto_region 13 with fail
            have es:=side_eq (x1:=x1) (y1:=y1) (x2:=x2) (y2:=y2) (x:=x) (y:=y) (dx:=dx) (dy:=dy) ⟨bx1a,bx1b⟩ ⟨by1a,by1b⟩ ⟨bx2a,bx2b⟩ ⟨by2a,by2b⟩ ⟨hx0,hx9⟩ ⟨hy0,hy9⟩ ⟨hdx0,hdx1⟩ ⟨hdy0,hdy1⟩;generalize wrap64 (wrap64 ((x2 - x1) * (y + dy - y1)) - wrap64 ((y2 - y1) * (x + dx - x1))) = s at es ⊢;(have eS : s = sideOf x1 y1 x2 y2 x y q:=by unfold sideOf;rw [es,ED.out.1,ED.out.2]);have HL : Aside0 (lessTo x1 y1 x2 y2 x y (q + 1) = (bl || decide (s ≤ 0))):=⟨by rw [eS,HBL.out];rfl⟩;have HM : Aside0 (moreTo x1 y1 x2 y2 x y (q + 1) = (bm || decide (s ≥ 0))):=⟨by rw [eS,HBM.out];rfl⟩;clear es eS HBL HBM;have hd (w3 : World) (hb3 : Below wr.heap.size wr w3) : Below w1.heap.size w1 w3:=below_step HB2.out hb3
            cases bl <;> cases bm <;> by_cases s1 : s ≤ 0 <;> by_cases s2 : s ≥ 0 <;> (
              go_wp2_with fail;go_roundg (4 - (q + 1))
              case measure => have:=HQ.out;omega
              case rel => exact ⟨q + 1,_,_,⟨by omega⟩,by go_num,rfl,rfl,⟨by rw [HL.out];simp [s1]⟩,⟨by rw [HM.out];simp [s2]⟩,⟨hd _ (below_alloc (Below.refl _ _) _)⟩⟩)
          · have eq4 : q = 4:=by have:=HQ.out;omega
            subst eq4;(have hfin : blocks W l a b k = (bl && bm):=by rw [EB2.out,HBL.out,HBM.out]);have HFIN:=ak hfin;clear hfin;have hkl:=HLT.out
            cases bl <;> cases bm
            · go_wp2_with fail
              go_roundg (l.length - (k + 1))
              case measure => have:=HK.out;omega
              case rel => exact REL.out _ HB2.out (by rw [HFIN.out];rfl)
            · go_wp2_with fail
              go_roundg (l.length - (k + 1))
              case measure => have:=HK.out;omega
              case rel => exact REL.out _ HB2.out (by rw [HFIN.out];rfl)
            · go_wp2_with fail
              go_roundg (l.length - (k + 1))
              case measure => have:=HK.out;omega
              case rel => exact REL.out _ HB2.out (by rw [HFIN.out];rfl)
            · go_wp2_with fail
              go_ret;refine ⟨?_,below_step B1.out HB2.out⟩
              have : ((List.range l.length).all fun c => !blocks W l a b c) = false:=by
                rw [List.all_eq_false];exact ⟨k,List.mem_range.2 hkl,by rw [HFIN.out];simp⟩
              rw [this]
              rfl
    · have hkl:=HK.out
      go_wp2_with fail;go_ret;refine ⟨?_,HB.out⟩
      have : ((List.range l.length).all fun c => !blocks W l a b c) = true:=by
        rw [List.all_eq_true];intro j hj;have:=List.mem_range.1 hj;rw [HN.out j (by omega)]
        rfl
      rw [this]
      rfl

theorem impl_Cells_clear.calls (a0_0 : Int) (z1 : Option Addr) (c0_1 : Nat) (z0 : List Int) (a1 a2 : Int) (r : Bool) (w : World) (hr0_1 : Kd.C (Kd.int .i64) w z1 z0.length z0) (hc0_1 : z0.length ≤ c0_1) (h : impl_Cells_clear.f a0_0 z0 a1 a2 = some r) :
    Calls Try.prog 42 #[.agg #[.int .i64 a0_0,.slice z1 z0.length c0_1],.int .i64 a1,.int .i64 a2] w fun e w' => e = .returned (.bool r) ∧ Below w.heap.size w w':=by
  unfold impl_Cells_clear.f at h;by_cases hb : 1 ≤ a0_0 ∧ a0_0 ≤ 16 ∧ z0.length ≤ 256 ∧ 0 ≤ a1 ∧ a1 < z0.length ∧ 0 ≤ a2 ∧ a2 < z0.length
  · rw [if_pos hb] at h
    obtain ⟨b1,b2,b3,b4,b5,b6,b7⟩:=hb
    cases h
    exact clear_walk a0_0 z1 c0_1 z0 a1 a2 w hr0_1 hc0_1 b1 b2 b3 b4 b5 b6 b7
  · rw [if_neg hb] at h
    cases h
end Go.Proofs.Ytjcmlggdaajicaa.Pr
namespace Go.Proofs.Ytjcmlggdaajicaa.Pr
open Go.RowKit Go.Proofs.YtjcmlggdaajicaaW.PrintWords Go.Proofs.YtjcmlggdaajicaaW.PrintLast Go.Proofs.YtjcmlggdaajicaaW.PrintMore
attribute [local go_sem] max2_int min2_int max_two min_two max_three min_three max_four min_four
set_option linter.unusedVariables false
set_option linter.unusedSimpArgs false

set_option maxHeartbeats 8000000 in
set_option maxRecDepth 100000 in
theorem impl_Clear.calls (k : Nat) (a0_0 : Int) (z5 : Option Addr) (c0_1 : Nat) (z1 : List Int) (a1 : Int) (a2 : Int) (r : Bool) (w : World) (hr0_1 : Kd.C (Kd.int .i64) w z5 z1.length z1) (hc0_1 : z1.length ≤ c0_1) (h : impl_Clear.f k a0_0 z1 a1 a2 = some r) :
   Calls Try.prog 13 #[.agg #[.int .i64 a0_0,.slice z5 z1.length c0_1],.int .i64 a1,.int .i64 a2] w fun e w' => e = .returned (.bool r) ∧ Below w.heap.size w w':=by
  have zb5:=Try.underlying27;have z6:=ak hr0_1;have z7:=ak hc0_1;clear hr0_1 hc0_1;have HB:=ak (Below.refl w.heap.size w);have H : ((impl_GoodCells.f k a0_0 z1).bind fun j1 => (if j1 = true then ((impl_Cells_free.f a0_0 z1 a1).bind fun j0 => (if j0 = true then ((impl_Cells_free.f a0_0 z1 a2).bind fun z9 => (if z9 = true then ((impl_Cells_clear.f a0_0 z1 a1 a2).bind fun z8 => (some z8)) else (some false))) else (some false))) else (some false))) = some r:=h;clear h;replace H:=Option.bind_eq_some_iff.mp H;obtain ⟨j1,A40,H⟩:=H;replace H : (if j1 = true then ((impl_Cells_free.f a0_0 z1 a1).bind fun j0 => (if j0 = true then ((impl_Cells_free.f a0_0 z1 a2).bind fun z9 => (if z9 = true then ((impl_Cells_clear.f a0_0 z1 a1 a2).bind fun z8 => (some z8)) else (some false))) else (some false))) else (some false)) = some r:=H;have A4:=ak A40;clear A40;by_cases c5 : j1 = true
  ·subst c5
   rw [if_pos rfl] at H;replace H:=Option.bind_eq_some_iff.mp H;obtain ⟨j0,A60,H⟩:=H;replace H : (if j0 = true then ((impl_Cells_free.f a0_0 z1 a2).bind fun z9 => (if z9 = true then ((impl_Cells_clear.f a0_0 z1 a1 a2).bind fun z8 => (some z8)) else (some false))) else (some false)) = some r:=H;have A6:=ak A60;clear A60;by_cases c7 : j0 = true
   ·subst c7
    rw [if_pos rfl] at H;replace H:=Option.bind_eq_some_iff.mp H;obtain ⟨z9,A80,H⟩:=H;replace H : (if z9 = true then ((impl_Cells_clear.f a0_0 z1 a1 a2).bind fun z8 => (some z8)) else (some false)) = some r:=H;have A8:=ak A80;clear A80;by_cases c9 : z9 = true
    ·subst c9
     rw [if_pos rfl] at H;replace H:=Option.bind_eq_some_iff.mp H;obtain ⟨z8,j4,H⟩:=H;replace H : (some z8) = some r:=H;have A10:=ak j4;clear j4
     obtain rfl:=Option.some.inj H
     go_enter Try.func13,Try.ntmps13;go_wp2_with (first | ((with_reducible refine gate_dst (N:=3) rfl ?_);refine box_event ?hg (N:=3) ?hd (cs:=#[.int .i64 a0_0,.slice z5 z1.length c0_1]) (t:=27) ?hr ?_;(case hd => rfl);(case hg => rfl);(case hr => first | (go_simp;done) | (go_simp;rfl));intro z2 hg w11 hbox hb;have z0:=ak (hbox);have j2 : Aside0 (w.heap.size ≤ z2):=gz_;have j3 : Aside0 (w.heap.size ≤ z2):=gz_;replace HB:=bq_ hb;clear hb hbox hg;have j5:=b20 z0;have j6:=b21 z0;have j7:=bf_ z0 0;have j8:=bf_ z0 1) | ((with_reducible refine gate_callee (f:=40) rfl ?_);refine goesL_ (some 8) rfl rfl Try.func40 (by kernel_rfl) rfl #[.agg #[.int .i64 a0_0,.slice z5 z1.length c0_1]] rfl ls_ ?_;(with_reducible refine (impl_GoodCells.calls k a0_0 _ _ z1 true _ ?z3 ?z4 A4.out).mono ?_);(case z3 => exact cb_ z6.out);(case z4 => exact z7.out);rintro e w13 ⟨rfl,hb⟩;refine ⟨_,rfl,?_⟩;replace z0:=bb_ z0 hb;replace HB:=bq_ hb;(try clear hb);(try clear hb2);(try clear hk);(try clear hi);have j9:=b20 z0;have r0:=b21 z0;have r1:=bf_ z0 0;have r2:=bf_ z0 1) | (go_at_call 41;(with_reducible refine (impl_Cells_free.calls a0_0 _ _ z1 a1 true _ ?z3 ?z4 A6.out).mono ?_);(case z3 => exact cb_ z6.out);(case z4 => exact z7.out);rintro e w15 ⟨rfl,hb⟩;replace z0:=bb_ z0 hb;replace HB:=bq_ hb;(try clear hb);(try clear hb2);(try clear hk);(try clear hi);have r3:=b20 z0;have r4:=b21 z0;have r5:=bf_ z0 0;have r6:=bf_ z0 1) | (go_at_call 41;(with_reducible refine (impl_Cells_free.calls a0_0 _ _ z1 a2 true _ ?z3 ?z4 A8.out).mono ?_);(case z3 => exact cb_ z6.out);(case z4 => exact z7.out);rintro e w17 ⟨rfl,hb⟩;replace z0:=bb_ z0 hb;replace HB:=bq_ hb;(try clear hb);(try clear hb2);(try clear hk);(try clear hi);have r7:=b20 z0;have r8:=b21 z0;have r9:=bf_ z0 0;have m0:=bf_ z0 1) | (go_at_call 42;(with_reducible refine (impl_Cells_clear.calls a0_0 _ _ z1 a1 a2 z8 _ ?z3 ?z4 A10.out).mono ?_);(case z3 => exact cb_ z6.out);(case z4 => exact z7.out);rintro e w19 ⟨rfl,hb⟩;replace z0:=bb_ z0 hb;replace HB:=bq_ hb;(try clear hb);(try clear hb2);(try clear hk);(try clear hi)));go_ret;exact ⟨er_,hb_⟩
    ·replace c9:=Bool.eq_false_iff.mpr c9
     subst c9;rw [if_neg (show ¬ (false = true) by decide)] at H
     obtain rfl:=Option.some.inj H
     go_enter Try.func13,Try.ntmps13;go_wp2_with (first | ((with_reducible refine gate_dst (N:=3) rfl ?_);refine box_event ?hg (N:=3) ?hd (cs:=#[.int .i64 a0_0,.slice z5 z1.length c0_1]) (t:=27) ?hr ?_;(case hd => rfl);(case hg => rfl);(case hr => first | (go_simp;done) | (go_simp;rfl));intro z2 hg w20 hbox hb;have z0:=ak (hbox);have j2 : Aside0 (w.heap.size ≤ z2):=gz_;have j3 : Aside0 (w.heap.size ≤ z2):=gz_;replace HB:=bq_ hb;clear hb hbox hg;have m1:=b20 z0;have m2:=b21 z0;have m3:=bf_ z0 0;have m4:=bf_ z0 1) | ((with_reducible refine gate_callee (f:=40) rfl ?_);refine goesL_ (some 8) rfl rfl Try.func40 (by kernel_rfl) rfl #[.agg #[.int .i64 a0_0,.slice z5 z1.length c0_1]] rfl ls_ ?_;(with_reducible refine (impl_GoodCells.calls k a0_0 _ _ z1 true _ ?z3 ?z4 A4.out).mono ?_);(case z3 => exact cb_ z6.out);(case z4 => exact z7.out);rintro e w22 ⟨rfl,hb⟩;refine ⟨_,rfl,?_⟩;replace z0:=bb_ z0 hb;replace HB:=bq_ hb;(try clear hb);(try clear hb2);(try clear hk);(try clear hi);have m5:=b20 z0;have m6:=b21 z0;have m7:=bf_ z0 0;have m8:=bf_ z0 1) | (go_at_call 41;(with_reducible refine (impl_Cells_free.calls a0_0 _ _ z1 a1 true _ ?z3 ?z4 A6.out).mono ?_);(case z3 => exact cb_ z6.out);(case z4 => exact z7.out);rintro e w24 ⟨rfl,hb⟩;replace z0:=bb_ z0 hb;replace HB:=bq_ hb;(try clear hb);(try clear hb2);(try clear hk);(try clear hi);have m9:=b20 z0;have za0:=b21 z0;have za1:=bf_ z0 0;have za2:=bf_ z0 1) | (go_at_call 41;(with_reducible refine (impl_Cells_free.calls a0_0 _ _ z1 a2 false _ ?z3 ?z4 A8.out).mono ?_);(case z3 => exact cb_ z6.out);(case z4 => exact z7.out);rintro e w26 ⟨rfl,hb⟩;replace z0:=bb_ z0 hb;replace HB:=bq_ hb;(try clear hb);(try clear hb2);(try clear hk);(try clear hi)));go_ret;exact ⟨er_,hb_⟩
   ·replace c7:=Bool.eq_false_iff.mpr c7
    subst c7;rw [if_neg (show ¬ (false = true) by decide)] at H
    obtain rfl:=Option.some.inj H
    go_enter Try.func13,Try.ntmps13;go_wp2_with (first | ((with_reducible refine gate_dst (N:=3) rfl ?_);refine box_event ?hg (N:=3) ?hd (cs:=#[.int .i64 a0_0,.slice z5 z1.length c0_1]) (t:=27) ?hr ?_;(case hd => rfl);(case hg => rfl);(case hr => first | (go_simp;done) | (go_simp;rfl));intro z2 hg w27 hbox hb;have z0:=ak (hbox);have j2 : Aside0 (w.heap.size ≤ z2):=gz_;have j3 : Aside0 (w.heap.size ≤ z2):=gz_;replace HB:=bq_ hb;clear hb hbox hg;have za3:=b20 z0;have za4:=b21 z0;have za5:=bf_ z0 0;have za6:=bf_ z0 1) | ((with_reducible refine gate_callee (f:=40) rfl ?_);refine goesL_ (some 8) rfl rfl Try.func40 (by kernel_rfl) rfl #[.agg #[.int .i64 a0_0,.slice z5 z1.length c0_1]] rfl ls_ ?_;(with_reducible refine (impl_GoodCells.calls k a0_0 _ _ z1 true _ ?z3 ?z4 A4.out).mono ?_);(case z3 => exact cb_ z6.out);(case z4 => exact z7.out);rintro e w29 ⟨rfl,hb⟩;refine ⟨_,rfl,?_⟩;replace z0:=bb_ z0 hb;replace HB:=bq_ hb;(try clear hb);(try clear hb2);(try clear hk);(try clear hi);have za7:=b20 z0;have za8:=b21 z0;have za9:=bf_ z0 0;have zb0:=bf_ z0 1) | (go_at_call 41;(with_reducible refine (impl_Cells_free.calls a0_0 _ _ z1 a1 false _ ?z3 ?z4 A6.out).mono ?_);(case z3 => exact cb_ z6.out);(case z4 => exact z7.out);rintro e w31 ⟨rfl,hb⟩;replace z0:=bb_ z0 hb;replace HB:=bq_ hb;(try clear hb);(try clear hb2);(try clear hk);(try clear hi)));go_ret;exact ⟨er_,hb_⟩
  ·replace c5:=Bool.eq_false_iff.mpr c5
   subst c5;rw [if_neg (show ¬ (false = true) by decide)] at H
   obtain rfl:=Option.some.inj H
   go_enter Try.func13,Try.ntmps13;go_wp2_with (first | ((with_reducible refine gate_dst (N:=3) rfl ?_);refine box_event ?hg (N:=3) ?hd (cs:=#[.int .i64 a0_0,.slice z5 z1.length c0_1]) (t:=27) ?hr ?_;(case hd => rfl);(case hg => rfl);(case hr => first | (go_simp;done) | (go_simp;rfl));intro z2 hg w32 hbox hb;have z0:=ak (hbox);have j2 : Aside0 (w.heap.size ≤ z2):=gz_;have j3 : Aside0 (w.heap.size ≤ z2):=gz_;replace HB:=bq_ hb;clear hb hbox hg;have zb1:=b20 z0;have zb2:=b21 z0;have zb3:=bf_ z0 0;have zb4:=bf_ z0 1) | ((with_reducible refine gate_callee (f:=40) rfl ?_);refine goesL_ (some 8) rfl rfl Try.func40 (by kernel_rfl) rfl #[.agg #[.int .i64 a0_0,.slice z5 z1.length c0_1]] rfl ls_ ?_;(with_reducible refine (impl_GoodCells.calls k a0_0 _ _ z1 false _ ?z3 ?z4 A4.out).mono ?_);(case z3 => exact cb_ z6.out);(case z4 => exact z7.out);rintro e w34 ⟨rfl,hb⟩;refine ⟨_,rfl,?_⟩;replace z0:=bb_ z0 hb;replace HB:=bq_ hb;(try clear hb);(try clear hb2);(try clear hk);(try clear hi)));go_ret;exact ⟨er_,hb_⟩

set_option maxHeartbeats 8000000 in
set_option maxRecDepth 100000 in
theorem spec_l12Sized.calls (a0 : Int) (a1 : Int) (r : Bool) (w : World) (h : spec_l12Sized.f a0 a1 = some r) :
   Calls Try.prog 47 #[.int .i64 a0,.int .i64 a1] w fun e w' => e = .returned (.bool r) ∧ Drawn0 w w':=by
  have H : (if a0 ≥ 1 then (if a0 ≤ 16 then (if a1 ≥ a0 then (if a0 = 0 then (none) else (if (Int.tmod a1 a0) = 0 then (some (decide ((wrap64 (Int.tdiv a1 a0)) ≤ 16))) else (some false))) else (some false)) else (some false)) else (some false)) = some r:=h;clear h;by_cases c3 : a0 ≥ 1
  ·rw [if_pos c3] at H
   have z0 : decide (1 ≤ a0) = true:=dt_ c3;clear c3;by_cases c4 : a0 ≤ 16
   ·rw [if_pos c4] at H
    have z1 : decide (a0 ≤ 16) = true:=dt_ c4;clear c4;by_cases c5 : a1 ≥ a0
    ·rw [if_pos c5] at H
     have z2 : decide (a0 ≤ a1) = true:=dt_ c5;clear c5;by_cases c6 : a0 = 0
     ·rw [if_pos c6] at H
      exact absurd H (by simp)
     ·rw [if_neg c6] at H
      have z5 : (a0 == 0) = false:=beq_eq_false_iff_ne.mpr c6;have z6 : (a0 != 0) = true:=bne_iff_ne.mpr c6;by_cases c7 : (Int.tmod a1 a0) = 0
      ·rw [if_pos c7] at H
       have z3 : ((Int.tmod a1 a0) == 0) = true:=beq_iff_eq.mpr c7;have z4 : ((Int.tmod a1 a0) != 0) = false:=bne_eq_false_iff_eq.mpr c7;clear c7
       obtain rfl:=Option.some.inj H
       go_enter Try.func47,Try.ntmps47;go_wp2;go_ret;exact ⟨es_,by repeat (first | exact Drawn0.refl _ | apply Drawn0.step)⟩
      ·rw [if_neg c7] at H
       have z3 : ((Int.tmod a1 a0) == 0) = false:=beq_eq_false_iff_ne.mpr c7;have z4 : ((Int.tmod a1 a0) != 0) = true:=bne_iff_ne.mpr c7
       obtain rfl:=Option.some.inj H
       go_enter Try.func47,Try.ntmps47;go_wp2;go_ret;exact ⟨es_,by repeat (first | exact Drawn0.refl _ | apply Drawn0.step)⟩
    ·rw [if_neg c5] at H
     have z2 : decide (a0 ≤ a1) = false:=df_ c5;clear c5
     obtain rfl:=Option.some.inj H
     go_enter Try.func47,Try.ntmps47;go_wp2;go_ret;exact ⟨es_,by repeat (first | exact Drawn0.refl _ | apply Drawn0.step)⟩
   ·rw [if_neg c4] at H
    have z1 : decide (a0 ≤ 16) = false:=df_ c4;clear c4
    obtain rfl:=Option.some.inj H
    go_enter Try.func47,Try.ntmps47;go_wp2;go_ret;exact ⟨es_,by repeat (first | exact Drawn0.refl _ | apply Drawn0.step)⟩
  ·rw [if_neg c3] at H
   have z0 : decide (1 ≤ a0) = false:=df_ c3;clear c3
   obtain rfl:=Option.some.inj H
   go_enter Try.func47,Try.ntmps47;go_wp2;go_ret;exact ⟨es_,by repeat (first | exact Drawn0.refl _ | apply Drawn0.step)⟩

set_option maxHeartbeats 8000000 in
set_option maxRecDepth 100000 in
theorem spec_GoodCells.calls (k : Nat) (a0_0 : Int) (z7 : Option Addr) (c0_1 : Nat) (z0 : List Int) (r : Bool) (w : World) (hr0_1 : Kd.C (Kd.int .i64) w z7 z0.length z0) (hc0_1 : z0.length ≤ c0_1) (h : spec_GoodCells.f k a0_0 z0 = some r) :
   Calls Try.prog 28 #[.agg #[.int .i64 a0_0,.slice z7 z0.length c0_1]] w fun e w' => e = .returned (.bool r) ∧ Below w.heap.size w w':=by
  have r5:=Try.underlying27;have z8:=ak hr0_1;have r4:=ak hc0_1;clear hr0_1 hc0_1;have HB:=ak (Below.refl w.heap.size w);have H : ((spec_l12Sized.f a0_0 (z0.length : Int)).bind fun z9 => (if z9 = true then (spec_GoodCells.l0 k z0 (z0.length : Int) 0) else (some false))) = some r:=h;clear h;replace H:=Option.bind_eq_some_iff.mp H;obtain ⟨z9,A20,H⟩:=H;replace H : (if z9 = true then (spec_GoodCells.l0 k z0 (z0.length : Int) 0) else (some false)) = some r:=H;have A2:=ak A20;clear A20;by_cases c3 : z9 = true
  ·subst c3
   rw [if_pos rfl] at H;have H':=ak H;clear H;go_enter Try.func28,Try.ntmps28;go_wp2_with (first | ((with_reducible refine gate_dst (N:=1) rfl ?_);refine box_event ?hg (N:=1) ?hd (cs:=#[.int .i64 a0_0,.slice z7 z0.length c0_1]) (t:=27) ?hr ?_;(case hd => rfl);(case hg => rfl);(case hr => first | (go_simp;done) | (go_simp;rfl));intro z4 hg w4 hbox hb;have z2:=ak (hbox);have j1 : Aside0 (w.heap.size ≤ z4):=gz_;have j2 : Aside0 (w.heap.size ≤ z4):=gz_;replace HB:=bq_ hb;clear hb hbox hg;have r0:=b20 z2;have r1:=b21 z2;have r2:=bf_ z2 0;have r3:=bf_ z2 1) | ((with_reducible refine gate_callee (f:=47) rfl ?_);refine goesL_ (some 10) rfl rfl Try.func47 (by kernel_rfl) rfl #[.int .i64 a0_0,.int .i64 (z0.length : Int)] rfl ls_ ?_;(with_reducible refine (spec_l12Sized.calls a0_0 (z0.length : Int) true _ A2.out).mono ?_);rintro e w' ⟨rfl,⟨nd,rfl⟩⟩;refine ⟨_,rfl,?_⟩))
   go_loopg [15] k (fun kq v15 w' => ∃ (z1 : Int),v15 = .int .i64 z1 ∧ Aside0 (spec_GoodCells.l0 kq z0 (z0.length : Int) z1 = some r) ∧ Aside0 (kq ≤ k) ∧ Aside0 (w'.heap[z4]? = some (.cells #[.int .i64 a0_0,(.slice z7 z0.length c0_1)] 27 (0,0))) ∧ Aside0 (Below w.heap.size w w'))
   case atStart => exact ⟨(0),es_,H',⟨Nat.le_refl _⟩,⟨bk_ z2.out⟩,⟨hb_⟩⟩
   case round =>
    clear H';obtain ⟨z1,rfl,HA,HK1,z2,HB⟩:=hrel
    cases gk with
    | zero => exact absurd HA.out (by simp [spec_GoodCells.l0])
    | succ k1 =>
     have H:=HA.out;clear HA;simp only [spec_GoodCells.l0] at H;by_cases c6 : z1 < (z0.length : Int)
     ·rw [if_pos c6] at H
      have j4 : decide (z1 < (z0.length : Int)) = true:=dt_ c6;clear c6;by_cases c7 : 0 ≤ z1
      ·rw [if_pos c7] at H
       have r6 : decide (0 ≤ z1) = true:=dt_ c7;clear c7;by_cases c8 : z1 < (z0.length : Int)
       ·rw [if_pos c8] at H
        have r7 : decide (z1 < (z0.length : Int)) = true:=dt_ c8;clear c8;by_cases c9 : (rd z0 z1) < 0
        ·rw [if_pos c9] at H
         have j5 : decide ((rd z0 z1) < 0) = true:=dt_ c9;clear c9
         obtain rfl:=Option.some.inj H
         have z5 : 0 ≤ (z1 : Int):=od_;have z6 : z1 < (z0.length : Int):=od_;obtain ⟨j0,e113,z3⟩:=Kd.at_int z8.out z1 z5 z6;cases e113;replace z3:=hc_ HB z3;replace z5:=eq_true z5;replace z6:=eq_true z6;go_wp2;go_ret;exact ⟨er_,hb_⟩
        ·rw [if_neg c9] at H
         have j5 : decide ((rd z0 z1) < 0) = false:=df_ c9;clear c9;by_cases c10 : (rd z0 z1) > 2
         ·rw [if_pos c10] at H
          have j3 : decide (2 < (rd z0 z1)) = true:=dt_ c10;clear c10
          obtain rfl:=Option.some.inj H
          have z5 : 0 ≤ (z1 : Int):=od_;have z6 : z1 < (z0.length : Int):=od_;obtain ⟨j0,e113,z3⟩:=Kd.at_int z8.out z1 z5 z6;cases e113;replace z3:=hc_ HB z3;replace z5:=eq_true z5;replace z6:=eq_true z6;go_wp2;go_ret;exact ⟨er_,hb_⟩
         ·rw [if_neg c10] at H
          have j3 : decide (2 < (rd z0 z1)) = false:=df_ c10;clear c10;have H':=ak H;clear H;have z5 : 0 ≤ (z1 : Int):=od_;have z6 : z1 < (z0.length : Int):=od_;obtain ⟨j0,e113,z3⟩:=Kd.at_int z8.out z1 z5 z6;cases e113;replace z3:=hc_ HB z3;replace z5:=eq_true z5;replace z6:=eq_true z6;go_wp2;go_roundg k1
          case measure => have:=HK1.out;omega
          case rel => exact ⟨(wrap64 (z1 + 1)),es_,H',⟨by have:=HK1.out;omega⟩,⟨bk_ z2.out⟩,⟨hb_⟩⟩
       ·rw [if_neg c8] at H
        exact absurd H (by simp)
      ·rw [if_neg c7] at H
       exact absurd H (by simp)
     ·rw [if_neg c6] at H
      have j4 : decide (z1 < (z0.length : Int)) = false:=df_ c6;clear c6
      obtain rfl:=Option.some.inj H
      go_wp2;go_ret;exact ⟨er_,hb_⟩
  ·replace c3:=Bool.eq_false_iff.mpr c3
   subst c3;rw [if_neg (show ¬ (false = true) by decide)] at H
   obtain rfl:=Option.some.inj H
   go_enter Try.func28,Try.ntmps28;go_wp2_with (first | ((with_reducible refine gate_dst (N:=1) rfl ?_);refine box_event ?hg (N:=1) ?hd (cs:=#[.int .i64 a0_0,.slice z7 z0.length c0_1]) (t:=27) ?hr ?_;(case hd => rfl);(case hg => rfl);(case hr => first | (go_simp;done) | (go_simp;rfl));intro z4 hg w11 hbox hb;have z2:=ak (hbox);have j1 : Aside0 (w.heap.size ≤ z4):=gz_;have j2 : Aside0 (w.heap.size ≤ z4):=gz_;replace HB:=bq_ hb;clear hb hbox hg;have j6:=b20 z2;have j7:=b21 z2;have j8:=bf_ z2 0;have j9:=bf_ z2 1) | ((with_reducible refine gate_callee (f:=47) rfl ?_);refine goesL_ (some 10) rfl rfl Try.func47 (by kernel_rfl) rfl #[.int .i64 a0_0,.int .i64 (z0.length : Int)] rfl ls_ ?_;(with_reducible refine (spec_l12Sized.calls a0_0 (z0.length : Int) false _ A2.out).mono ?_);rintro e w' ⟨rfl,⟨nd,rfl⟩⟩;refine ⟨_,rfl,?_⟩));go_ret;exact ⟨er_,hb_⟩

set_option maxHeartbeats 8000000 in
set_option maxRecDepth 100000 in
theorem spec_l12Free.calls (a0_0 : Int) (z3 : Option Addr) (c0_1 : Nat) (z0 : List Int) (a1 : Int) (r : Bool) (w : World) (hr0_1 : Kd.C (Kd.int .i64) w z3 z0.length z0) (hc0_1 : z0.length ≤ c0_1) (h : spec_l12Free.f a0_0 z0 a1 = some r) :
   Calls Try.prog 43 #[.agg #[.int .i64 a0_0,.slice z3 z0.length c0_1],.int .i64 a1] w fun e w' => e = .returned (.bool r) ∧ Below w.heap.size w w':=by
  have r2:=Try.underlying27;have z9:=ak hr0_1;have r0:=ak hc0_1;clear hr0_1 hc0_1;have HB:=ak (Below.refl w.heap.size w);have H : (if a1 ≥ 0 then (if a1 < (z0.length : Int) then (if 0 ≤ a1 then (some ((rd z0 a1) == 0)) else (none)) else (some false)) else (some false)) = some r:=h;clear h;by_cases c3 : a1 ≥ 0
  ·rw [if_pos c3] at H
   have j0 : decide (0 ≤ a1) = true:=dt_ c3;clear c3;by_cases c4 : a1 < (z0.length : Int)
   ·rw [if_pos c4] at H
    have j1 : decide (a1 < (z0.length : Int)) = true:=dt_ c4;clear c4;by_cases c5 : 0 ≤ a1
    ·rw [if_pos c5] at H
     have r3 : decide (0 ≤ a1) = true:=dt_ c5;clear c5
     obtain rfl:=Option.some.inj H
     go_enter Try.func43,Try.ntmps43;go_wp2_with (first | ((with_reducible refine gate_dst (N:=2) rfl ?_);(try (refine gate_guard (by rfl) ?_;dsimp only));refine box_event ?hg (N:=2) ?hd (cs:=#[.int .i64 a0_0,.slice z3 z0.length c0_1]) (t:=27) ?hr ?_;(case hd => rfl);(case hg => rfl);(case hr => first | (go_simp;done) | (go_simp;rfl));intro z1 hg w6 hbox hb;have z2:=ak (hbox);have z7 : Aside0 (w.heap.size ≤ z1):=gz_;have z8 : Aside0 (w.heap.size ≤ z1):=gz_;replace HB:=bq_ hb;clear hb hbox hg;have j2:=b20 z2;have j3:=b21 z2;have j4:=bf_ z2 0;have j5:=bf_ z2 1;have z5 : 0 ≤ (a1 : Int):=od_;have z6 : a1 < (z0.length : Int):=od_;obtain ⟨r1,e115,z4⟩:=Kd.at_int z9.out a1 z5 z6;cases e115;replace z4:=hc_ HB z4;replace z5:=eq_true z5;replace z6:=eq_true z6));go_ret;exact ⟨er_,hb_⟩
    ·rw [if_neg c5] at H
     exact absurd H (by simp)
   ·rw [if_neg c4] at H
    have j1 : decide (a1 < (z0.length : Int)) = false:=df_ c4;clear c4
    obtain rfl:=Option.some.inj H
    go_enter Try.func43,Try.ntmps43;go_wp2_with (first | ((with_reducible refine gate_dst (N:=2) rfl ?_);(try (refine gate_guard (by rfl) ?_;dsimp only));refine box_event ?hg (N:=2) ?hd (cs:=#[.int .i64 a0_0,.slice z3 z0.length c0_1]) (t:=27) ?hr ?_;(case hd => rfl);(case hg => rfl);(case hr => first | (go_simp;done) | (go_simp;rfl));intro z1 hg w8 hbox hb;have z2:=ak (hbox);have z7 : Aside0 (w.heap.size ≤ z1):=gz_;have z8 : Aside0 (w.heap.size ≤ z1):=gz_;replace HB:=bq_ hb;clear hb hbox hg;have j6:=b20 z2;have j7:=b21 z2;have j8:=bf_ z2 0;have j9:=bf_ z2 1));go_ret;exact ⟨er_,hb_⟩
  ·rw [if_neg c3] at H
   have j0 : decide (0 ≤ a1) = false:=df_ c3;clear c3
   obtain rfl:=Option.some.inj H
   go_enter Try.func43,Try.ntmps43;go_wp2_with (first | ((with_reducible refine gate_dst (N:=2) rfl ?_);(try (refine gate_guard (by rfl) ?_;dsimp only));refine box_event ?hg (N:=2) ?hd (cs:=#[.int .i64 a0_0,.slice z3 z0.length c0_1]) (t:=27) ?hr ?_;(case hd => rfl);(case hg => rfl);(case hr => first | (go_simp;done) | (go_simp;rfl));intro z1 hg w10 hbox hb;have z2:=ak (hbox);have z7 : Aside0 (w.heap.size ≤ z1):=gz_;have z8 : Aside0 (w.heap.size ≤ z1):=gz_;replace HB:=bq_ hb;clear hb hbox hg));go_ret;exact ⟨er_,hb_⟩

end Go.Proofs.Ytjcmlggdaajicaa.Pr
