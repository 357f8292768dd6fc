-- Joined and pruned by wip/tools/prune.py out of this session's own texts (Pr0, Prd1, Pr5, Pr6, Pr7, Pr8)
import Derived.Test.YtcldlljnaijmhaaZfc3
import Derived.Test.YtcldlljnaijmhaaProg
import Derived.Below
import Derived.Deep.Draws
import Derived.Deep.AppendLies
import Derived.Maps.AppendAt
import Derived.OwnWalk
import Derived.Laws.BytesArg
import Derived.Laws.MakeOwn
import Derived.Laws.OwnMore
import Derived.Deep.OwnRows
import Derived.Tactics
import Derived.Lib.ConvBytes
import Derived.Laws.Slices
import Derived.WalkKit
import Derived.KernelRfl
import Derived.RowKit3
import Derived.Deep.LoopGhost
import Derived.Deep.QuietTactic
import Derived.BigQuiet
import Derived.WideLaws
import Derived.Deep.DeepCutAuto
import Derived.Deep.CutBlock
import Derived.Deep.RegionHeld3
import Derived.Laws.Rows
import Derived.Lib.AppendStr
import Derived.ArgAppend
import Derived.Laws.IdiomCopy
import Derived.OrdersHeld
import Derived.Laws.BitsLemmas
import Derived.RowKit
namespace Go.Proofs.Ytcldlljnaijmhaa.Pr
open Go.RowKit Go.Proofs.YtcldlljnaijmhaaW.PrintWords Go.Proofs.YtcldlljnaijmhaaW.PrintLast Go.Proofs.YtcldlljnaijmhaaW.PrintMore
attribute [local go_sem] max2_int min2_int max_two min_two max_three min_three max_four min_four
set_option linter.unusedVariables false
set_option linter.unusedSimpArgs false



def errW : Option Int → Value
  | none => .nilIface
  | some c => .iface 0 (.int .i64 c)
theorem errW_none : errW none = .nilIface:=rfl
theorem errW_some (c : Int) : errW (some c) = .iface 0 (.int .i64 c):=rfl

theorem info3 : (Try.prog.info? 3).map (fun i => (i.zero,i.size,i.bytes)) = some (some (.int .i64 0),1,8):=by kernel_rfl
theorem info4 : (Try.prog.info? 4).map (fun i => (i.zero,i.size,i.bytes)) = some (some (.bool false),1,1):=by kernel_rfl
theorem info22 : (Try.prog.info? 22).map (fun i => (i.zero,i.size,i.bytes)) = some (some (.slice none 0 0),1,24):=by kernel_rfl
theorem info49 : (Try.prog.info? 49).map (fun i => (i.zero,i.size,i.bytes)) = some (some (.agg #[(.int .i64 0),(.int .i64 0)]),2,16):=by kernel_rfl
theorem info98 : (Try.prog.info? 98).map (fun i => (i.zero,i.size,i.bytes)) = some (some (.slice none 0 0),1,24):=by kernel_rfl
-- the values' own types
def rd_L1 (xs : List (List Int)) (i : Int) : (List Int):=xs.getD i.toNat ([] : List Int)
theorem at_L1 {w : World} {A : Option Addr} {n : Nat} {xs : List (List Int)} (h : Kd.C (Kd.slice 3 (Kd.int .i64)) w A n xs) (i : Int) (h0 : 0 ≤ i) (h1 : i < n) : ∃ ad A0 c0,A = some ad ∧ w.cell? (ad.add i.toNat) = some (.slice A0 (rd_L1 xs i).length c0) ∧ (rd_L1 xs i).length ≤ c0 ∧ (Kd.int .i64).C w A0 (rd_L1 xs i).length (rd_L1 xs i):=by
  obtain ⟨ad,c,e,_,hK,hc0⟩:=Kd.C_get h ([] : List Int) i h0 h1;have hc : ∀ j u,c[j]? = some u → w.cell? (ad.add (i.toNat * 1 + j)) = some u:=hc0;obtain ⟨A0,c0,rfl,l0,g0⟩:=hK;exact ⟨ad,A0,c0,e,by have hq:=hc 0 _ rfl;rwa [Nat.mul_one,Nat.add_zero] at hq,l0,g0⟩

/-! #### struct type 47 -/
/-! #### struct type 49 -/
structure S49 where
  f0 : Int
  f1 : Int
def z49 : S49:=⟨(0 : Int),(0 : Int)⟩
def k49 : Kd S49:=Kd.iso (Kd.pair (Kd.int .i64) (Kd.int .i64)) (fun x : S49 => (x.f0,x.f1))
theorem k49_open {w : World} {x : S49} {cs : List Value} (h : k49.K w x cs) : cs = [.int .i64 x.f0,.int .i64 x.f1]:=by
  obtain ⟨_,_,rfl,rfl,rfl⟩:=h;exact rfl
theorem k49_mkM (w : World) (base : Nat) (ok : Nat → Prop) (x : S49)  : k49.M w base ok x [.int .i64 x.f0,.int .i64 x.f1]:=⟨[.int .i64 x.f0],[.int .i64 x.f1],rfl,rfl,rfl⟩
def rd_T49 (xs : List S49) (i : Int) : S49:=xs.getD i.toNat z49
theorem at_T49 {w : World} {A : Option Addr} {n : Nat} {xs : List S49} (h : Kd.C k49 w A n xs) (i : Int) (h0 : 0 ≤ i) (h1 : i < n) : ∃ ad ,A = some ad ∧ w.cell? (ad.add (i.toNat * 2)) = some (.int .i64 (rd_T49 xs i).f0) ∧ w.cell? ⟨(ad.add (i.toNat * 2)).block,(ad.add (i.toNat * 2)).off + 1,none⟩ = some (.int .i64 (rd_T49 xs i).f1):=by
  obtain ⟨ad,c,e,_,hK,hc0⟩:=Kd.C_get h z49 i h0 h1;have hc : ∀ j u,c[j]? = some u → w.cell? (ad.add (i.toNat * 2 + j)) = some u:=hc0
  obtain rfl:=k49_open hK
  exact ⟨ad,e,hc 0 _ rfl,by rw [← add_field _ _ 1 (by omega)];exact hc 1 _ rfl⟩

def rd_L5 (xs : List (List Bool)) (i : Int) : (List Bool):=xs.getD i.toNat ([] : List Bool)
theorem at_L5 {w : World} {A : Option Addr} {n : Nat} {xs : List (List Bool)} (h : Kd.C (Kd.slice 4 Kd.bool) w A n xs) (i : Int) (h0 : 0 ≤ i) (h1 : i < n) : ∃ ad A0 c0,A = some ad ∧ w.cell? (ad.add i.toNat) = some (.slice A0 (rd_L5 xs i).length c0) ∧ (rd_L5 xs i).length ≤ c0 ∧ Kd.bool.C w A0 (rd_L5 xs i).length (rd_L5 xs i):=by
  obtain ⟨ad,c,e,_,hK,hc0⟩:=Kd.C_get h ([] : List Bool) i h0 h1;have hc : ∀ j u,c[j]? = some u → w.cell? (ad.add (i.toNat * 1 + j)) = some u:=hc0;obtain ⟨A0,c0,rfl,l0,g0⟩:=hK;exact ⟨ad,A0,c0,e,by have hq:=hc 0 _ rfl;rwa [Nat.mul_one,Nat.add_zero] at hq,l0,g0⟩

end Go.Proofs.Ytcldlljnaijmhaa.Pr
namespace Go.Proofs.Ytcldlljnaijmhaa.Pr
open Go.RowKit Go.Proofs.YtcldlljnaijmhaaW.PrintWords Go.Proofs.YtcldlljnaijmhaaW.PrintLast Go.Proofs.YtcldlljnaijmhaaW.PrintMore
attribute [local go_sem] max2_int min2_int max_two min_two max_three min_three max_four min_four
set_option linter.unusedVariables false
set_option linter.unusedSimpArgs false

/-! ### laws_szIntS: function 50 -/
/-! ### laws_szIntSS: function 18 -/
/-! ### laws_toIntS: function 13 -/
/-! ### laws_toIntSS: function 20 -/
/-! ### laws_eqIntS: function 15 -/
/-! ### laws_eqIntSS: function 22 -/
/-! ### laws_szCells: function 23 -/
/-! ### laws_szTripS: function 24 -/
/-! ### laws_toCells: function 26 -/
/-! ### laws_toTrip: function 32 -/
/-! ### laws_toTripS: function 27 -/
/-! ### laws_eqCells: function 29 -/
/-! ### laws_eqTrip: function 56 -/
/-! ### laws_eqTripS: function 30 -/
/-! ### spec_l20Hits: function 51 -/
def spec_l20Hits.f (l0 : List Int) (a1 : Int) (a2 : Int) (a3 : Int) : Option (Bool):=if 0 ≤ a1 then (if a1 < (l0.length : Int) then (if (rd l0 a1) = a3 then (some true) else (if a1 > 0 then (if 0 ≤ (wrap64 (a1 - 1)) then (if (wrap64 (a1 - 1)) < (l0.length : Int) then (if (rd l0 (wrap64 (a1 - 1))) = a3 then (some ((rd l0 a1) == a2)) else (some false)) else (none)) else (none)) else (some false))) else (none)) else (none)

/-! ### spec_FirstMeet: function 19 -/
mutual
def spec_FirstMeet.l0 : Nat → List (List Int) → List (List Int) → Int → Int → Option (Int)
  | 0,_,_,_,_ => none
  | k + 1,x0,x13,x14,x15 => if x15 < x14 then (if 0 ≤ x15 then (if x15 < (x13.length : Int) then (if 0 < (x0.length : Int) then (if ((rd_L1 x13 x15).length : Int) = ((rd_L1 x0 0).length : Int) then (spec_FirstMeet.l0 k x0 x13 x14 (wrap64 (x15 + 1))) else (some (-1))) else (none)) else (none)) else (none)) else (if (x0.length : Int) = 0 then (some (-1)) else (if 0 < (x0.length : Int) then (spec_FirstMeet.l1 k x0 ((rd_L1 x0 0).length : Int) 0) else (none)))
def spec_FirstMeet.l1 : Nat → List (List Int) → Int → Int → Option (Int)
  | 0,_,_,_ => none
  | k + 1,x0,x33,x34 => if x34 < x33 then (spec_FirstMeet.l2 k x0 x34 x33 x34 x0 (x0.length : Int) 0) else (some (-1))
def spec_FirstMeet.l2 : Nat → List (List Int) → Int → Int → Int → List (List Int) → Int → Int → Option (Int)
  | 0,_,_,_,_,_,_,_ => none
  | k + 1,x0,x5,x33,x34,x37,x38,x39 => if x39 < x38 then (if 0 ≤ x39 then (if x39 < (x37.length : Int) then (spec_FirstMeet.l3 k x0 x5 x39 (rd_L1 x37 x39) 0 x33 x34 x37 x38 x39) else (none)) else (none)) else (spec_FirstMeet.l1 k x0 x33 (wrap64 (x34 + 1)))
def spec_FirstMeet.l3 : Nat → List (List Int) → Int → Int → List Int → Int → Int → Int → List (List Int) → Int → Int → Option (Int)
  | 0,_,_,_,_,_,_,_,_,_,_ => none
  | k + 1,x0,x5,x6,x7,x8,x33,x34,x37,x38,x39 => if x8 < x6 then (if 0 ≤ x5 then (if x5 < (x7.length : Int) then (if x5 > 0 then (if 0 ≤ (wrap64 (x5 - 1)) then (if (wrap64 (x5 - 1)) < (x7.length : Int) then (if 0 ≤ x8 then (if x8 < (x0.length : Int) then ((spec_l20Hits.f (rd_L1 x0 x8) x5 (rd x7 (wrap64 (x5 - 1))) (rd x7 x5)).bind fun t158 => (if t158 = true then (some x5) else (spec_FirstMeet.l3 k x0 x5 x6 x7 (wrap64 (x8 + 1)) x33 x34 x37 x38 x39))) else (none)) else (none)) else (none)) else (none)) else (if 0 ≤ x8 then (if x8 < (x0.length : Int) then ((spec_l20Hits.f (rd_L1 x0 x8) x5 (rd x7 x5) (rd x7 x5)).bind fun t161 => (if t161 = true then (some x5) else (spec_FirstMeet.l3 k x0 x5 x6 x7 (wrap64 (x8 + 1)) x33 x34 x37 x38 x39))) else (none)) else (none))) else (none)) else (none)) else (spec_FirstMeet.l2 k x0 x5 x33 x34 x37 x38 (wrap64 (x39 + 1)))
end
def spec_FirstMeet.f (k : Nat) (l0 : List (List Int)) : Option (Int):=if (l0.length : Int) > 5 then (some (-1)) else (spec_FirstMeet.l0 k l0 l0 (l0.length : Int) 0)
/-! ### spec_l12Sized: function 67 -/
def spec_l12Sized.f (a0 : Int) (a1 : Int) : Option (Bool):=if a0 ≥ 1 then (if a0 ≤ 16 then (if a1 ≥ a0 then (if a0 = 0 then (none) else (if (Int.tmod a1 a0) = 0 then (some (decide ((wrap64 (Int.tdiv a1 a0)) ≤ 16))) else (some false))) else (some false)) else (some false)) else (some false)

/-! ### spec_GoodCells: function 52 -/
def spec_GoodCells.l0 : Nat → List Int → Int → Int → Option (Bool)
  | 0,_,_,_ => none
  | k + 1,x13,x14,x15 => if x15 < x14 then (if 0 ≤ x15 then (if x15 < (x13.length : Int) then (if (rd x13 x15) < 0 then (some false) else (if (rd x13 x15) > 2 then (some false) else (spec_GoodCells.l0 k x13 x14 (wrap64 (x15 + 1))))) else (none)) else (none)) else (some true)
def spec_GoodCells.f (k : Nat) (a0_0 : Int) (l0_1 : List Int) : Option (Bool):=(spec_l12Sized.f a0_0 (l0_1.length : Int)).bind fun t163 => (if t163 = true then (spec_GoodCells.l0 k l0_1 (l0_1.length : Int) 0) else (some false))
/-! ### spec_l12Free: function 53 -/
def spec_l12Free.f (a0_0 : Int) (l0_1 : List Int) (a1 : Int) : Option (Bool):=if a1 ≥ 0 then (if a1 < (l0_1.length : Int) then (if 0 ≤ a1 then (some ((rd l0_1 a1) == 0)) else (none)) else (some false)) else (some false)

/-! ### spec_GoodTrips: function 25 -/
mutual
def spec_GoodTrips.j0 : Nat → List (S49) → Bool → Int → List Int → Option (Bool)
  | 0,_,_,_,_ => none
  | k + 1,x1,x15,x168000,x168001 => if x15 = true then (some false) else (spec_GoodTrips.l0 k x1 x1 (x1.length : Int) 0 x168000 x168001)
def spec_GoodTrips.l0 : Nat → List (S49) → List (S49) → Int → Int → Int → List Int → Option (Bool)
  | 0,_,_,_,_,_,_ => none
  | k + 1,x1,x16,x17,x18,x168000,x168001 => if x18 < x17 then (if 0 ≤ x18 then (if x18 < (x16.length : Int) then ((spec_l12Free.f x168000 x168001 ((rd_T49 x16 x18).f0)).bind fun t171 => (if t171 = true then ((spec_l12Free.f x168000 x168001 ((rd_T49 x16 x18).f1)).bind fun t172 => (spec_GoodTrips.j2 k x1 x18 x16 x17 x18 (!t172) x168000 x168001 ((rd_T49 x16 x18).f0) ((rd_T49 x16 x18).f1))) else (spec_GoodTrips.j2 k x1 x18 x16 x17 x18 true x168000 x168001 ((rd_T49 x16 x18).f0) ((rd_T49 x16 x18).f1)))) else (none)) else (none)) else (some true)
def spec_GoodTrips.j2 : Nat → List (S49) → Int → List (S49) → Int → Int → Bool → Int → List Int → Int → Int → Option (Bool)
  | 0,_,_,_,_,_,_,_,_,_,_ => none
  | k + 1,x1,x5,x16,x17,x18,x34,x168000,x168001,x171000,x171001 => if x34 = true then (some false) else (spec_GoodTrips.l1 k x1 x5 0 x16 x17 x18 x168000 x168001 x171000 x171001)
def spec_GoodTrips.l1 : Nat → List (S49) → Int → Int → List (S49) → Int → Int → Int → List Int → Int → Int → Option (Bool)
  | 0,_,_,_,_,_,_,_,_,_,_ => none
  | k + 1,x1,x5,x7,x16,x17,x18,x168000,x168001,x171000,x171001 => if x7 < x5 then (if 0 ≤ x7 then (if x7 < (x1.length : Int) then (if ((rd_T49 x1 x7).f0) = x171000 then (some false) else (if ((rd_T49 x1 x7).f1) = x171001 then (some false) else (spec_GoodTrips.l1 k x1 x5 (wrap64 (x7 + 1)) x16 x17 x18 x168000 x168001 x171000 x171001))) else (none)) else (none)) else (spec_GoodTrips.l0 k x1 x16 x17 (wrap64 (x18 + 1)) x168000 x168001)
end
def spec_GoodTrips.f (k : Nat) (a0_0 : Int) (l0_1 : List Int) (l1 : List (S49)) : Option (Bool):=(spec_GoodCells.f k a0_0 l0_1).bind fun t168 => (if t168 = true then (spec_GoodTrips.j0 k l1 (decide ((l1.length : Int) > 5)) a0_0 l0_1) else (spec_GoodTrips.j0 k l1 true a0_0 l0_1))
/-! ### spec_l12Has: function 76 -/
def spec_l12Has.f (a0 : Int) (a1 : Int) (a2 : Int) (a3 : Int) : Option (Bool):=if a2 ≥ 0 then (if a2 < a0 then (if a3 ≥ 0 then (if a0 = 0 then (none) else (some (decide (a3 < (wrap64 (Int.tdiv a1 a0)))))) else (some false)) else (some false)) else (some false)

/-! ### spec_l12Next: function 69 -/
def spec_l12Next.f (a0_0 : Int) (l0_1 : List Int) (a1 : Int) (a2 : Int) : Option (Int):=if a0_0 = 0 then (none) else (if a2 = 0 then ((spec_l12Has.f a0_0 (l0_1.length : Int) (wrap64 ((Int.tmod a1 a0_0) + 1)) (wrap64 (Int.tdiv a1 a0_0))).bind fun t176 => (if t176 = true then (if 0 ≤ (wrap64 ((wrap64 ((wrap64 (Int.tdiv a1 a0_0)) * a0_0)) + (wrap64 ((Int.tmod a1 a0_0) + 1)))) then (if (wrap64 ((wrap64 ((wrap64 (Int.tdiv a1 a0_0)) * a0_0)) + (wrap64 ((Int.tmod a1 a0_0) + 1)))) < (l0_1.length : Int) then (if (rd l0_1 (wrap64 ((wrap64 ((wrap64 (Int.tdiv a1 a0_0)) * a0_0)) + (wrap64 ((Int.tmod a1 a0_0) + 1))))) = 0 then (some (wrap64 ((wrap64 ((wrap64 (Int.tdiv a1 a0_0)) * a0_0)) + (wrap64 ((Int.tmod a1 a0_0) + 1))))) else (some (-1))) else (none)) else (none)) else (some (-1)))) else (if a2 = 1 then ((spec_l12Has.f a0_0 (l0_1.length : Int) (Int.tmod a1 a0_0) (wrap64 ((wrap64 (Int.tdiv a1 a0_0)) + 1))).bind fun t178 => (if t178 = true then (if 0 ≤ (wrap64 ((wrap64 ((wrap64 ((wrap64 (Int.tdiv a1 a0_0)) + 1)) * a0_0)) + (Int.tmod a1 a0_0))) then (if (wrap64 ((wrap64 ((wrap64 ((wrap64 (Int.tdiv a1 a0_0)) + 1)) * a0_0)) + (Int.tmod a1 a0_0))) < (l0_1.length : Int) then (if (rd l0_1 (wrap64 ((wrap64 ((wrap64 ((wrap64 (Int.tdiv a1 a0_0)) + 1)) * a0_0)) + (Int.tmod a1 a0_0)))) = 0 then (some (wrap64 ((wrap64 ((wrap64 ((wrap64 (Int.tdiv a1 a0_0)) + 1)) * a0_0)) + (Int.tmod a1 a0_0)))) else (some (-1))) else (none)) else (none)) else (some (-1)))) else (if a2 = 2 then ((spec_l12Has.f a0_0 (l0_1.length : Int) (wrap64 ((Int.tmod a1 a0_0) - 1)) (wrap64 (Int.tdiv a1 a0_0))).bind fun t180 => (if t180 = true then (if 0 ≤ (wrap64 ((wrap64 ((wrap64 (Int.tdiv a1 a0_0)) * a0_0)) + (wrap64 ((Int.tmod a1 a0_0) - 1)))) then (if (wrap64 ((wrap64 ((wrap64 (Int.tdiv a1 a0_0)) * a0_0)) + (wrap64 ((Int.tmod a1 a0_0) - 1)))) < (l0_1.length : Int) then (if (rd l0_1 (wrap64 ((wrap64 ((wrap64 (Int.tdiv a1 a0_0)) * a0_0)) + (wrap64 ((Int.tmod a1 a0_0) - 1))))) = 0 then (some (wrap64 ((wrap64 ((wrap64 (Int.tdiv a1 a0_0)) * a0_0)) + (wrap64 ((Int.tmod a1 a0_0) - 1))))) else (some (-1))) else (none)) else (none)) else (some (-1)))) else ((spec_l12Has.f a0_0 (l0_1.length : Int) (Int.tmod a1 a0_0) (wrap64 ((wrap64 (Int.tdiv a1 a0_0)) - 1))).bind fun t182 => (if t182 = true then (if 0 ≤ (wrap64 ((wrap64 ((wrap64 ((wrap64 (Int.tdiv a1 a0_0)) - 1)) * a0_0)) + (Int.tmod a1 a0_0))) then (if (wrap64 ((wrap64 ((wrap64 ((wrap64 (Int.tdiv a1 a0_0)) - 1)) * a0_0)) + (Int.tmod a1 a0_0))) < (l0_1.length : Int) then (if (rd l0_1 (wrap64 ((wrap64 ((wrap64 ((wrap64 (Int.tdiv a1 a0_0)) - 1)) * a0_0)) + (Int.tmod a1 a0_0)))) = 0 then (some (wrap64 ((wrap64 ((wrap64 ((wrap64 (Int.tdiv a1 a0_0)) - 1)) * a0_0)) + (Int.tmod a1 a0_0)))) else (some (-1))) else (none)) else (none)) else (some (-1)))))))

/-! ### spec_l20Next: function 57 -/
def spec_l20Next.l0 : Nat → List Int → List Int → Int → Int → Option (List Int)
  | 0,_,_,_,_ => none
  | k + 1,x5,x21,x22,x23 => if x23 < x22 then (if 0 ≤ x23 then (if x23 < (x21.length : Int) then (if (rd x21 x23) ≥ 0 then (if x5.length < 17592186044416 then (spec_l20Next.l0 k (x5 ++ [rd x21 x23]) x21 x22 (wrap64 (x23 + 1))) else (none)) else (spec_l20Next.l0 k x5 x21 x22 (wrap64 (x23 + 1)))) else (none)) else (none)) else (some x5)
def spec_l20Next.f (k : Nat) (a0_0 : Int) (l0_1 : List Int) (a1 : Int) : Option (List Int):=(spec_l12Next.f a0_0 l0_1 a1 3).bind fun t185 => ((spec_l12Next.f a0_0 l0_1 a1 2).bind fun t186 => ((spec_l12Next.f a0_0 l0_1 a1 0).bind fun t187 => ((spec_l12Next.f a0_0 l0_1 a1 1).bind fun t188 => ((some (([t185,t186,a1,t187,t188] : List Int) : List Int)).bind fun y189 => (spec_l20Next.l0 k ([] : List Int) y189 (y189.length : Int) 0)))))
/-! ### spec_GoodPaths: function 36 -/
mutual
def spec_GoodPaths.j0 : Nat → List (S49) → List (List Int) → Bool → Int → List Int → Option (Bool)
  | 0,_,_,_,_,_ => none
  | k + 1,x1,x2,x23,x197000,x197001 => if x23 = true then (some false) else (spec_GoodPaths.l0 k x1 x2 x2 (x2.length : Int) 0 x197000 x197001)
def spec_GoodPaths.l0 : Nat → List (S49) → List (List Int) → List (List Int) → Int → Int → Int → List Int → Option (Bool)
  | 0,_,_,_,_,_,_,_ => none
  | k + 1,x1,x2,x24,x25,x26,x197000,x197001 => if x26 < x25 then (if 0 ≤ x26 then (if x26 < (x24.length : Int) then (if ((rd_L1 x24 x26).length : Int) < 1 then (spec_GoodPaths.j2 k x1 x2 (rd_L1 x24 x26) x24 x25 x26 true x197000 x197001) else (if 0 < (x2.length : Int) then (if ((rd_L1 x24 x26).length : Int) = ((rd_L1 x2 0).length : Int) then (if 0 < ((rd_L1 x24 x26).length : Int) then (if x26 < (x1.length : Int) then (if (rd (rd_L1 x24 x26) 0) = ((rd_T49 x1 x26).f0) then (if 0 ≤ (wrap64 (((rd_L1 x24 x26).length : Int) - 1)) then (if (wrap64 (((rd_L1 x24 x26).length : Int) - 1)) < ((rd_L1 x24 x26).length : Int) then (spec_GoodPaths.j2 k x1 x2 (rd_L1 x24 x26) x24 x25 x26 ((rd (rd_L1 x24 x26) (wrap64 (((rd_L1 x24 x26).length : Int) - 1))) != ((rd_T49 x1 x26).f1)) x197000 x197001) else (none)) else (none)) else (spec_GoodPaths.j2 k x1 x2 (rd_L1 x24 x26) x24 x25 x26 true x197000 x197001)) else (none)) else (none)) else (spec_GoodPaths.j2 k x1 x2 (rd_L1 x24 x26) x24 x25 x26 true x197000 x197001)) else (none))) else (none)) else (none)) else ((spec_FirstMeet.f k x2).bind fun t198 => (some (decide (t198 < 0))))
def spec_GoodPaths.j2 : Nat → List (S49) → List (List Int) → List Int → List (List Int) → Int → Int → Bool → Int → List Int → Option (Bool)
  | 0,_,_,_,_,_,_,_,_,_ => none
  | k + 1,x1,x2,x8,x24,x25,x26,x67,x197000,x197001 => if x67 = true then (some false) else (spec_GoodPaths.l1 k x1 x2 x8 1 x24 x25 x26 x197000 x197001)
def spec_GoodPaths.l1 : Nat → List (S49) → List (List Int) → List Int → Int → List (List Int) → Int → Int → Int → List Int → Option (Bool)
  | 0,_,_,_,_,_,_,_,_,_ => none
  | k + 1,x1,x2,x8,x9,x24,x25,x26,x197000,x197001 => if x9 < (x8.length : Int) then (if 0 ≤ (wrap64 (x9 - 1)) then (if (wrap64 (x9 - 1)) < (x8.length : Int) then ((spec_l20Next.f k x197000 x197001 (rd x8 (wrap64 (x9 - 1)))).bind fun t206 => (spec_GoodPaths.l2 k x1 x2 x8 x9 false x24 x25 x26 t206 (t206.length : Int) 0 x197000 x197001)) else (none)) else (none)) else (spec_GoodPaths.l0 k x1 x2 x24 x25 (wrap64 (x26 + 1)) x197000 x197001)
def spec_GoodPaths.l2 : Nat → List (S49) → List (List Int) → List Int → Int → Bool → List (List Int) → Int → Int → List Int → Int → Int → Int → List Int → Option (Bool)
  | 0,_,_,_,_,_,_,_,_,_,_,_,_,_ => none
  | k + 1,x1,x2,x8,x9,x10,x24,x25,x26,x80,x81,x82,x197000,x197001 => if x82 < x81 then (if 0 ≤ x82 then (if x82 < (x80.length : Int) then (if x10 = true then (spec_GoodPaths.l2 k x1 x2 x8 x9 true x24 x25 x26 x80 x81 (wrap64 (x82 + 1)) x197000 x197001) else (if 0 ≤ x9 then (if x9 < (x8.length : Int) then (spec_GoodPaths.l2 k x1 x2 x8 x9 ((rd x80 x82) == (rd x8 x9)) x24 x25 x26 x80 x81 (wrap64 (x82 + 1)) x197000 x197001) else (none)) else (none))) else (none)) else (none)) else (if x10 = true then (spec_GoodPaths.l1 k x1 x2 x8 (wrap64 (x9 + 1)) x24 x25 x26 x197000 x197001) else (some false))
end
def spec_GoodPaths.f (k : Nat) (a0_0 : Int) (l0_1 : List Int) (l1 : List (S49)) (l2 : List (List Int)) : Option (Bool):=(spec_GoodTrips.f k a0_0 l0_1 l1).bind fun t197 => (if t197 = true then (spec_GoodPaths.j0 k l1 l2 ((l2.length : Int) != (l1.length : Int)) a0_0 l0_1) else (spec_GoodPaths.j0 k l1 l2 true a0_0 l0_1))
/-! ### impl_FirstMeet: function 21 -/
mutual
def impl_FirstMeet.l0 : Nat → List (List Int) → List (List Int) → Int → Int → Option (Int)
  | 0,_,_,_,_ => none
  | k + 1,x0,x13,x14,x15 => if x15 < x14 then (if 0 ≤ x15 then (if x15 < (x13.length : Int) then (if 0 < (x0.length : Int) then (if ((rd_L1 x13 x15).length : Int) = ((rd_L1 x0 0).length : Int) then (impl_FirstMeet.l0 k x0 x13 x14 (wrap64 (x15 + 1))) else (some (-1))) else (none)) else (none)) else (none)) else (if (x0.length : Int) = 0 then (some (-1)) else (if 0 < (x0.length : Int) then (impl_FirstMeet.l1 k x0 ((rd_L1 x0 0).length : Int) 0) else (none)))
def impl_FirstMeet.l1 : Nat → List (List Int) → Int → Int → Option (Int)
  | 0,_,_,_ => none
  | k + 1,x0,x33,x34 => if x34 < x33 then (impl_FirstMeet.l2 k x0 x34 x33 x34 x0 (x0.length : Int) 0) else (some (-1))
def impl_FirstMeet.l2 : Nat → List (List Int) → Int → Int → Int → List (List Int) → Int → Int → Option (Int)
  | 0,_,_,_,_,_,_,_ => none
  | k + 1,x0,x5,x33,x34,x37,x38,x39 => if x39 < x38 then (if 0 ≤ x39 then (if x39 < (x37.length : Int) then (if x39 ≤ (x0.length : Int) then ((some (x0.take (x39 : Int).toNat : List (List Int))).bind fun y215 => (impl_FirstMeet.l3 k x0 x5 (rd_L1 x37 x39) x33 x34 x37 x38 x39 y215 (y215.length : Int) 0)) else (none)) else (none)) else (none)) else (impl_FirstMeet.l1 k x0 x33 (wrap64 (x34 + 1)))
def impl_FirstMeet.l3 : Nat → List (List Int) → Int → List Int → Int → Int → List (List Int) → Int → Int → List (List Int) → Int → Int → Option (Int)
  | 0,_,_,_,_,_,_,_,_,_,_,_ => none
  | k + 1,x0,x5,x7,x33,x34,x37,x38,x39,x46,x47,x48 => if x48 < x47 then (if 0 ≤ x48 then (if x48 < (x46.length : Int) then (if 0 ≤ x5 then (if x5 < (x7.length : Int) then (if x5 < ((rd_L1 x46 x48).length : Int) then (if (rd x7 x5) = (rd (rd_L1 x46 x48) x5) then (some x5) else (if x5 > 0 then (if 0 ≤ (wrap64 (x5 - 1)) then (if (wrap64 (x5 - 1)) < ((rd_L1 x46 x48).length : Int) then (if (rd x7 x5) = (rd (rd_L1 x46 x48) (wrap64 (x5 - 1))) then (if (wrap64 (x5 - 1)) < (x7.length : Int) then (if (rd (rd_L1 x46 x48) x5) = (rd x7 (wrap64 (x5 - 1))) then (some x5) else (impl_FirstMeet.l3 k x0 x5 x7 x33 x34 x37 x38 x39 x46 x47 (wrap64 (x48 + 1)))) else (none)) else (impl_FirstMeet.l3 k x0 x5 x7 x33 x34 x37 x38 x39 x46 x47 (wrap64 (x48 + 1)))) else (none)) else (none)) else (impl_FirstMeet.l3 k x0 x5 x7 x33 x34 x37 x38 x39 x46 x47 (wrap64 (x48 + 1))))) else (none)) else (none)) else (none)) else (none)) else (none)) else (impl_FirstMeet.l2 k x0 x5 x33 x34 x37 x38 (wrap64 (x39 + 1)))
end
def impl_FirstMeet.f (k : Nat) (l0 : List (List Int)) : Option (Int):=if (l0.length : Int) > 5 then (some (-1)) else (impl_FirstMeet.l0 k l0 l0 (l0.length : Int) 0)
/-! ### impl_squared: function 68 -/
def impl_squared.f (a0 : Int) (a1 : Int) : Option (Bool):=if a0 ≥ 1 then (if a0 ≤ 16 then (if a0 = 0 then (none) else (if (Int.tmod a1 a0) = 0 then (if (wrap64 (Int.tdiv a1 a0)) ≥ 1 then (some (decide ((wrap64 (Int.tdiv a1 a0)) ≤ 16))) else (some false)) else (some false))) else (some false)) else (some false)

/-! ### impl_GoodCells: function 54 -/
def impl_GoodCells.l0 : Nat → List Int → Int → Int → Option (Bool)
  | 0,_,_,_ => none
  | k + 1,x13,x14,x15 => if x15 < x14 then (if 0 ≤ x15 then (if x15 < (x13.length : Int) then (if (rd x13 x15) < 0 then (some false) else (if (rd x13 x15) > 2 then (some false) else (impl_GoodCells.l0 k x13 x14 (wrap64 (x15 + 1))))) else (none)) else (none)) else (some true)
def impl_GoodCells.f (k : Nat) (a0_0 : Int) (l0_1 : List Int) : Option (Bool):=(impl_squared.f a0_0 (l0_1.length : Int)).bind fun t227 => (if t227 = true then (impl_GoodCells.l0 k l0_1 (l0_1.length : Int) 0) else (some false))
/-! ### impl_Cells_free: function 55 -/
def impl_Cells_free.f (a0_0 : Int) (l0_1 : List Int) (a1 : Int) : Option (Bool):=if a1 ≥ 0 then (if a1 < (l0_1.length : Int) then (if 0 ≤ a1 then (some ((rd l0_1 a1) == 0)) else (none)) else (some false)) else (some false)

/-! ### impl_GoodTrips: function 28 -/
mutual
def impl_GoodTrips.j0 : Nat → List (S49) → Bool → Int → List Int → Option (Bool)
  | 0,_,_,_,_ => none
  | k + 1,x1,x16,x232000,x232001 => if x16 = true then (some false) else (impl_GoodTrips.l0 k x1 x1 (x1.length : Int) 0 x232000 x232001)
def impl_GoodTrips.l0 : Nat → List (S49) → List (S49) → Int → Int → Int → List Int → Option (Bool)
  | 0,_,_,_,_,_,_ => none
  | k + 1,x1,x17,x18,x19,x232000,x232001 => if x19 < x18 then (if 0 ≤ x19 then (if x19 < (x17.length : Int) then ((impl_Cells_free.f x232000 x232001 ((rd_T49 x17 x19).f0)).bind fun t235 => (if t235 = true then ((impl_Cells_free.f x232000 x232001 ((rd_T49 x17 x19).f1)).bind fun t236 => (impl_GoodTrips.j2 k x1 x19 x17 x18 x19 (!t236) x232000 x232001 ((rd_T49 x17 x19).f0) ((rd_T49 x17 x19).f1))) else (impl_GoodTrips.j2 k x1 x19 x17 x18 x19 true x232000 x232001 ((rd_T49 x17 x19).f0) ((rd_T49 x17 x19).f1)))) else (none)) else (none)) else (some true)
def impl_GoodTrips.j2 : Nat → List (S49) → Int → List (S49) → Int → Int → Bool → Int → List Int → Int → Int → Option (Bool)
  | 0,_,_,_,_,_,_,_,_,_,_ => none
  | k + 1,x1,x5,x17,x18,x19,x35,x232000,x232001,x235000,x235001 => if x35 = true then (some false) else (if 0 ≤ x5 then (if x5 ≤ (x1.length : Int) then ((some (x1.take (x5 : Int).toNat : List (S49))).bind fun y237 => (impl_GoodTrips.l1 k x1 x17 x18 x19 y237 (y237.length : Int) 0 x232000 x232001 x235000 x235001)) else (none)) else (none))
def impl_GoodTrips.l1 : Nat → List (S49) → List (S49) → Int → Int → List (S49) → Int → Int → Int → List Int → Int → Int → Option (Bool)
  | 0,_,_,_,_,_,_,_,_,_,_,_ => none
  | k + 1,x1,x17,x18,x19,x38,x39,x40,x232000,x232001,x235000,x235001 => if x40 < x39 then (if 0 ≤ x40 then (if x40 < (x38.length : Int) then (if ((rd_T49 x38 x40).f0) = x235000 then (some false) else (if ((rd_T49 x38 x40).f1) = x235001 then (some false) else (impl_GoodTrips.l1 k x1 x17 x18 x19 x38 x39 (wrap64 (x40 + 1)) x232000 x232001 x235000 x235001))) else (none)) else (none)) else (impl_GoodTrips.l0 k x1 x17 x18 (wrap64 (x19 + 1)) x232000 x232001)
end
def impl_GoodTrips.f (k : Nat) (a0_0 : Int) (l0_1 : List Int) (l1 : List (S49)) : Option (Bool):=(impl_GoodCells.f k a0_0 l0_1).bind fun t232 => (if t232 = true then (impl_GoodTrips.j0 k l1 (decide ((l1.length : Int) > 5)) a0_0 l0_1) else (impl_GoodTrips.j0 k l1 true a0_0 l0_1))
/-! ### impl_Cells_next: function 77 -/
def impl_Cells_next.f (a0_0 : Int) (l0_1 : List Int) (a1 : Int) (a2 : Int) (a3 : Int) : Option (Int):=if a0_0 = 0 then (none) else (if (wrap64 ((Int.tmod a1 a0_0) + a2)) < 0 then (some (-1)) else (if (wrap64 ((Int.tmod a1 a0_0) + a2)) ≥ a0_0 then (some (-1)) else (if (wrap64 ((wrap64 (Int.tdiv a1 a0_0)) + a3)) < 0 then (some (-1)) else (if (wrap64 ((wrap64 (Int.tdiv a1 a0_0)) + a3)) ≥ (wrap64 ((l0_1.length : Int) / a0_0)) then (some (-1)) else (some (wrap64 ((wrap64 ((wrap64 ((wrap64 (Int.tdiv a1 a0_0)) + a3)) * a0_0)) + (wrap64 ((Int.tmod a1 a0_0) + a2)))))))))

end Go.Proofs.Ytcldlljnaijmhaa.Pr
namespace Go.Proofs.Ytcldlljnaijmhaa.Pr
open Go.RowKit Go.Proofs.YtcldlljnaijmhaaW.PrintWords Go.Proofs.YtcldlljnaijmhaaW.PrintLast Go.Proofs.YtcldlljnaijmhaaW.PrintMore
attribute [local go_sem] max2_int min2_int max_two min_two max_three min_three max_four min_four
set_option linter.unusedVariables false
set_option linter.unusedSimpArgs false

set_option maxHeartbeats 8000000 in
set_option maxRecDepth 100000 in
theorem spec_l20Hits.calls (A0 : Option Addr) (c0 : Nat) (l0 : List Int) (a1 : Int) (a2 : Int) (a3 : Int) (r : Bool) (w : World) (hr0 : Kd.C (Kd.int .i64) w A0 l0.length l0) (hc0 : l0.length ≤ c0) (h : spec_l20Hits.f l0 a1 a2 a3 = some r) :
   Calls Try.prog 51 #[.slice A0 l0.length c0,.int .i64 a1,.int .i64 a2,.int .i64 a3] w fun e w' => e = .returned (.bool r) ∧ Drawn0 w w':=by
  have HR0:=Aside0.mk hr0;have HC0:=Aside0.mk hc0;clear hr0 hc0;have H : (if 0 ≤ a1 then (if a1 < (l0.length : Int) then (if (rd l0 a1) = a3 then (some true) else (if a1 > 0 then (if 0 ≤ (wrap64 (a1 - 1)) then (if (wrap64 (a1 - 1)) < (l0.length : Int) then (if (rd l0 (wrap64 (a1 - 1))) = a3 then (some ((rd l0 a1) == a2)) else (some false)) else (none)) else (none)) else (some false))) else (none)) else (none)) = some r:=h;clear h;by_cases c5 : 0 ≤ a1
  ·rw [if_pos c5] at H
   have j9 : decide (0 ≤ a1) = true:=decide_eq_true c5;clear c5;by_cases c6 : a1 < (l0.length : Int)
   ·rw [if_pos c6] at H
    have r0 : decide (a1 < (l0.length : Int)) = true:=decide_eq_true c6;clear c6;by_cases c7 : (rd l0 a1) = a3
    ·rw [if_pos c7] at H
     have j3 : ((rd l0 a1) == a3) = true:=beq_iff_eq.mpr c7;have j4 : ((rd l0 a1) != a3) = false:=bne_eq_false_iff_eq.mpr c7;clear c7
     obtain rfl:=Option.some.inj H
     have z0 : 0 ≤ (a1 : Int):=of_decide_eq_true as_;have z1 : a1 < (l0.length : Int):=of_decide_eq_true as_;obtain ⟨z2,e147,z5⟩:=Kd.at_int HR0.out a1 z0 z1;cases e147;replace z0:=eq_true z0;replace z1:=eq_true z1;go_enter Try.func51,Try.ntmps51;go_wp2;go_ret;exact ⟨es_,by repeat (first | exact Drawn0.refl _ | apply Drawn0.step)⟩
    ·rw [if_neg c7] at H
     have j3 : ((rd l0 a1) == a3) = false:=beq_eq_false_iff_ne.mpr c7;have j4 : ((rd l0 a1) != a3) = true:=bne_iff_ne.mpr c7;by_cases c8 : a1 > 0
     ·rw [if_pos c8] at H
      have j5 : decide (0 < a1) = true:=decide_eq_true c8;clear c8;obtain ⟨ji9,hji9⟩ : ∃ j_ : Int,(wrap64 (a1 - 1)) = j_:=⟨_,rfl⟩;(replace H : (if 0 ≤ (ji9) then (if (ji9) < (l0.length : Int) then (if (rd l0 (ji9)) = a3 then (some ((rd l0 a1) == a2)) else (some false)) else (none)) else (none)) = some r:=by first | (rw [hji9] at H;exact H) | (simp only [hji9] at H ⊢;exact H));have hji9w : (IntKind.i64.wrap (a1 - 1)) = ji9:=(i64_w _).trans hji9;by_cases c10 : 0 ≤ (ji9)
      ·rw [if_pos c10] at H
       have j7 : decide (0 ≤ (ji9)) = true:=decide_eq_true c10;clear c10;by_cases c11 : (ji9) < (l0.length : Int)
       ·rw [if_pos c11] at H
        have j8 : decide ((ji9) < (l0.length : Int)) = true:=decide_eq_true c11;clear c11;by_cases c12 : (rd l0 (ji9)) = a3
        ·rw [if_pos c12] at H
         have j0 : ((rd l0 (ji9)) == a3) = true:=beq_iff_eq.mpr c12;have j1 : ((rd l0 (ji9)) != a3) = false:=bne_eq_false_iff_eq.mpr c12;clear c12
         obtain rfl:=Option.some.inj H
         have z0 : 0 ≤ (a1 : Int):=of_decide_eq_true as_;have z1 : a1 < (l0.length : Int):=of_decide_eq_true as_;obtain ⟨z2,e147,z5⟩:=Kd.at_int HR0.out a1 z0 z1;cases e147;replace z0:=eq_true z0;replace z1:=eq_true z1;have z3 : 0 ≤ ((ji9) : Int):=of_decide_eq_true as_;have z4 : (ji9) < (l0.length : Int):=of_decide_eq_true as_;obtain ⟨z6,e148,z9⟩:=Kd.at_int HR0.out (ji9) z3 z4
         obtain rfl : z2 = z6:=(by injection e148)
         replace z3:=eq_true z3;replace z4:=eq_true z4;have z7 : 0 ≤ (a1 : Int):=of_decide_eq_true as_;have z8 : a1 < (l0.length : Int):=of_decide_eq_true as_;obtain ⟨j2,e149,j6⟩:=Kd.at_int HR0.out a1 z7 z8
         obtain rfl : z2 = j2:=(by injection e149)
         replace z7:=eq_true z7;replace z8:=eq_true z8;go_enter Try.func51,Try.ntmps51;go_wp2;go_ret;exact ⟨by first | rfl | (simp;done) | (simp only [← hji9] <;> (first | rfl | simp)) | (simp [*];done),by repeat (first | exact Drawn0.refl _ | apply Drawn0.step)⟩
        ·rw [if_neg c12] at H
         have j0 : ((rd l0 (ji9)) == a3) = false:=beq_eq_false_iff_ne.mpr c12;have j1 : ((rd l0 (ji9)) != a3) = true:=bne_iff_ne.mpr c12
         obtain rfl:=Option.some.inj H
         have z0 : 0 ≤ (a1 : Int):=of_decide_eq_true as_;have z1 : a1 < (l0.length : Int):=of_decide_eq_true as_;obtain ⟨z2,e147,z5⟩:=Kd.at_int HR0.out a1 z0 z1;cases e147;replace z0:=eq_true z0;replace z1:=eq_true z1;have z3 : 0 ≤ ((ji9) : Int):=of_decide_eq_true as_;have z4 : (ji9) < (l0.length : Int):=of_decide_eq_true as_;obtain ⟨z6,e148,z9⟩:=Kd.at_int HR0.out (ji9) z3 z4
         obtain rfl : z2 = z6:=(by injection e148)
         replace z3:=eq_true z3;replace z4:=eq_true z4;go_enter Try.func51,Try.ntmps51;go_wp2;go_ret;exact ⟨by first | rfl | (simp;done) | (simp only [← hji9] <;> (first | rfl | simp)) | (simp [*];done),by repeat (first | exact Drawn0.refl _ | apply Drawn0.step)⟩
       ·rw [if_neg c11] at H
        exact absurd H (by simp)
      ·rw [if_neg c10] at H
       exact absurd H (by simp)
     ·rw [if_neg c8] at H
      have j5 : decide (0 < a1) = false:=decide_eq_false c8;clear c8
      obtain rfl:=Option.some.inj H
      have z0 : 0 ≤ (a1 : Int):=of_decide_eq_true as_;have z1 : a1 < (l0.length : Int):=of_decide_eq_true as_;obtain ⟨z2,e147,z5⟩:=Kd.at_int HR0.out a1 z0 z1;cases e147;replace z0:=eq_true z0;replace z1:=eq_true z1;go_enter Try.func51,Try.ntmps51;go_wp2;go_ret;exact ⟨es_,by repeat (first | exact Drawn0.refl _ | apply Drawn0.step)⟩
   ·rw [if_neg c6] at H
    exact absurd H (by simp)
  ·rw [if_neg c5] at H
   exact absurd H (by simp)

end Go.Proofs.Ytcldlljnaijmhaa.Pr
namespace Go.Proofs.Ytcldlljnaijmhaa.Pr
open Go.RowKit Go.Proofs.YtcldlljnaijmhaaW.PrintWords Go.Proofs.YtcldlljnaijmhaaW.PrintLast Go.Proofs.YtcldlljnaijmhaaW.PrintMore
attribute [local go_sem] max2_int min2_int max_two min_two max_three min_three max_four min_four
set_option linter.unusedVariables false
set_option linter.unusedSimpArgs false

set_option maxHeartbeats 8000000 in
set_option maxRecDepth 100000 in
theorem spec_FirstMeet.calls (k : Nat) (A0 : Option Addr) (c0 : Nat) (l0 : List (List Int)) (r : Int) (w : World) (hr0 : Kd.C (Kd.slice 3 (Kd.int .i64)) w A0 l0.length l0) (hc0 : l0.length ≤ c0) (h : spec_FirstMeet.f k l0 = some r) :
   Calls Try.prog 19 #[.slice A0 l0.length c0] w fun e w' => e = .returned (.int .i64 r) ∧ Drawn0 w w':=by
  have HR0:=Aside0.mk hr0;have HC0:=Aside0.mk hc0;clear hr0 hc0;have H : (if (l0.length : Int) > 5 then (some (-1)) else (spec_FirstMeet.l0 k l0 l0 (l0.length : Int) 0)) = some r:=h;clear h;by_cases c2 : (l0.length : Int) > 5
  ·rw [if_pos c2] at H
   have zd6 : decide (5 < (l0.length : Int)) = true:=decide_eq_true c2;have zd7 : decide (5 < l0.length) = true:=decide_eq_true (by omega);clear c2
   obtain rfl:=Option.some.inj H
   go_enter Try.func19,Try.ntmps19;go_wp2;(repeat (go_quiet (fail);try go_wp2));go_ret;exact ⟨es_,by repeat (first | exact Drawn0.refl _ | apply Drawn0.step)⟩
  ·rw [if_neg c2] at H
   have zd6 : decide (5 < (l0.length : Int)) = false:=decide_eq_false c2;have zd7 : decide (5 < l0.length) = false:=decide_eq_false (by omega);clear c2;have H':=Aside0.mk H;clear H;go_enter Try.func19,Try.ntmps19;go_wp2;(repeat (go_quiet (fail);try go_wp2))
   go_loopg [15] k (fun kq v15 w' => ∃ (z3 : Int),v15 = .int .i64 z3 ∧ Aside0 (spec_FirstMeet.l0 kq l0 l0 (l0.length : Int) z3 = some r) ∧ Aside0 (kq ≤ k) ∧ Drawn0 w w')
   case atStart => exact ⟨(0),es_,H',⟨Nat.le_refl _⟩,by repeat (first | exact Drawn0.refl _ | apply Drawn0.step)⟩
   case round =>
    clear H';obtain ⟨z3,rfl,HA,HK1,⟨m1,rfl⟩⟩:=hrel
    cases gk with
    | zero => exact absurd HA.out (by simp [spec_FirstMeet.l0])
    | succ k1 =>
     have H:=HA.out;clear HA;simp only [spec_FirstMeet.l0] at H;by_cases c3 : z3 < (l0.length : Int)
     ·rw [if_pos c3] at H
      have zd8 : decide (z3 < (l0.length : Int)) = true:=decide_eq_true c3;clear c3;by_cases c4 : 0 ≤ z3
      ·rw [if_pos c4] at H
       have zg0 : decide (0 ≤ z3) = true:=decide_eq_true c4;clear c4;by_cases c5 : z3 < (l0.length : Int)
       ·rw [if_pos c5] at H
        have zg1 : decide (z3 < (l0.length : Int)) = true:=decide_eq_true c5;clear c5;by_cases c6 : 0 < (l0.length : Int)
        ·rw [if_pos c6] at H
         have zg2 : decide (0 < (l0.length : Int)) = true:=decide_eq_true c6;have zg3 : decide (0 < l0.length) = true:=decide_eq_true (by omega);clear c6;by_cases c7 : ((rd_L1 l0 z3).length : Int) = ((rd_L1 l0 0).length : Int)
         ·rw [if_pos c7] at H
          have zd9 : (((rd_L1 l0 z3).length : Int) == ((rd_L1 l0 0).length : Int)) = true:=beq_iff_eq.mpr c7;have ze0 : (((rd_L1 l0 z3).length : Int) != ((rd_L1 l0 0).length : Int)) = false:=bne_eq_false_iff_eq.mpr c7;(have ze1 : ((rd_L1 l0 z3).length == (rd_L1 l0 0).length) = true:=by first | simpa using c7 | (simp at c7 ⊢;omega));clear c7;have H':=Aside0.mk H;clear H;have j9 : 0 ≤ (z3 : Int):=of_decide_eq_true as_;have r0 : z3 < (l0.length : Int):=of_decide_eq_true as_;obtain ⟨za2,zc4,c150_0,e150,zb4,j4,hi150_0⟩:=at_L1 HR0.out z3 j9 r0;cases e150;have zb5:=Aside0.mk hi150_0;have zb6:=Aside0.mk j4;clear hi150_0 j4;replace j9:=eq_true j9;replace r0:=eq_true r0;have r1 : 0 ≤ (0 : Int):=(by omega);have r2 : 0 < (l0.length : Int):=of_decide_eq_true as_;obtain ⟨za3,zc5,c151_0,e151,j5,j6,hi151_0⟩:=at_L1 HR0.out 0 r1 r2
          obtain rfl : za2 = za3:=(by injection e151)
          have qi151 : (0 < l0.length) = True:=eq_true (by omega);(try rw [show ((0 : Int)).toNat = 0 from rfl] at j5);(try rw [Addr.add_zero'] at j5);have zb7:=Aside0.mk hi151_0;have zb8:=Aside0.mk j6;clear hi151_0 j6;replace r1:=eq_true r1;replace r2:=eq_true r2;go_wp2;(repeat (go_quiet (fail);try go_wp2));go_roundg k1
          case measure => have:=HK1.out;omega
          case rel => exact ⟨(wrap64 (z3 + 1)),es_,H',⟨by have:=HK1.out;omega⟩,by repeat (first | exact Drawn0.refl _ | apply Drawn0.step)⟩
         ·rw [if_neg c7] at H
          have zd9 : (((rd_L1 l0 z3).length : Int) == ((rd_L1 l0 0).length : Int)) = false:=beq_eq_false_iff_ne.mpr c7;have ze0 : (((rd_L1 l0 z3).length : Int) != ((rd_L1 l0 0).length : Int)) = true:=bne_iff_ne.mpr c7;(have ze1 : ((rd_L1 l0 z3).length == (rd_L1 l0 0).length) = false:=by first | simpa using c7 | (simp at c7 ⊢;omega))
          obtain rfl:=Option.some.inj H
          have j9 : 0 ≤ (z3 : Int):=of_decide_eq_true as_;have r0 : z3 < (l0.length : Int):=of_decide_eq_true as_;obtain ⟨za2,zc4,c150_0,e150,zb4,j4,hi150_0⟩:=at_L1 HR0.out z3 j9 r0;cases e150;have zb5:=Aside0.mk hi150_0;have zb6:=Aside0.mk j4;clear hi150_0 j4;replace j9:=eq_true j9;replace r0:=eq_true r0;have r1 : 0 ≤ (0 : Int):=(by omega);have r2 : 0 < (l0.length : Int):=of_decide_eq_true as_;obtain ⟨za3,zc5,c151_0,e151,j5,j6,hi151_0⟩:=at_L1 HR0.out 0 r1 r2
          obtain rfl : za2 = za3:=(by injection e151)
          have qi151 : (0 < l0.length) = True:=eq_true (by omega);(try rw [show ((0 : Int)).toNat = 0 from rfl] at j5);(try rw [Addr.add_zero'] at j5);have zb7:=Aside0.mk hi151_0;have zb8:=Aside0.mk j6;clear hi151_0 j6;replace r1:=eq_true r1;replace r2:=eq_true r2;go_wp2;(repeat (go_quiet (fail);try go_wp2));go_ret;exact ⟨es_,by repeat (first | exact Drawn0.refl _ | apply Drawn0.step)⟩
        ·rw [if_neg c6] at H
         exact absurd H (by simp)
       ·rw [if_neg c5] at H
        exact absurd H (by simp)
      ·rw [if_neg c4] at H
       exact absurd H (by simp)
     ·rw [if_neg c3] at H
      have zd8 : decide (z3 < (l0.length : Int)) = false:=decide_eq_false c3;clear c3;by_cases c8 : (l0.length : Int) = 0
      ·rw [if_pos c8] at H
       have ze2 : ((l0.length : Int) == 0) = true:=beq_iff_eq.mpr c8;have ze3 : ((l0.length : Int) != 0) = false:=bne_eq_false_iff_eq.mpr c8;clear c8
       obtain rfl:=Option.some.inj H
       go_wp2;(repeat (go_quiet (fail);try go_wp2));go_ret;exact ⟨es_,by repeat (first | exact Drawn0.refl _ | apply Drawn0.step)⟩
      ·rw [if_neg c8] at H
       have ze2 : ((l0.length : Int) == 0) = false:=beq_eq_false_iff_ne.mpr c8;have ze3 : ((l0.length : Int) != 0) = true:=bne_iff_ne.mpr c8;(have zg4 : ¬ (l0 = []):=fun h_ => c8 (by rw [h_];rfl));by_cases c9 : 0 < (l0.length : Int)
       ·rw [if_pos c9] at H
        have zg5 : decide (0 < (l0.length : Int)) = true:=decide_eq_true c9;have zg6 : decide (0 < l0.length) = true:=decide_eq_true (by omega);clear c9;have H':=Aside0.mk H;clear H;have zb0 : 0 ≤ (0 : Int):=(by omega);have zb1 : 0 < (l0.length : Int):=of_decide_eq_true as_;obtain ⟨m7,ze8,c152_0,e152,m9,za0,hi152_0⟩:=at_L1 HR0.out 0 zb0 zb1;cases e152;have qi152 : (0 < l0.length) = True:=eq_true (by omega);(try rw [show ((0 : Int)).toNat = 0 from rfl] at m9);(try rw [Addr.add_zero'] at m9);have ze4:=Aside0.mk hi152_0;have ze5:=Aside0.mk za0;clear hi152_0 za0;replace zb0:=eq_true zb0;replace zb1:=eq_true zb1;go_wp2;(repeat (go_quiet (fail);try go_wp2))
        go_loopg [34] k1 (fun kq v34 w' => ∃ (z0 : Int),v34 = .int .i64 z0 ∧ Aside0 (spec_FirstMeet.l1 kq l0 ((rd_L1 l0 0).length : Int) z0 = some r) ∧ Aside0 (kq ≤ k1) ∧ Drawn0 w w')
        case atStart => exact ⟨(0),es_,H',⟨Nat.le_refl _⟩,by repeat (first | exact Drawn0.refl _ | apply Drawn0.step)⟩
        case round =>
         clear H';obtain ⟨z0,rfl,HA,HK2,⟨m2,rfl⟩⟩:=hrel
         cases gk with
         | zero => exact absurd HA.out (by simp [spec_FirstMeet.l1])
         | succ k2 =>
          have H:=HA.out;clear HA;simp only [spec_FirstMeet.l1] at H;by_cases c10 : z0 < ((rd_L1 l0 0).length : Int)
          ·rw [if_pos c10] at H
           have zd1 : decide (z0 < ((rd_L1 l0 0).length : Int)) = true:=decide_eq_true c10;clear c10;have H':=Aside0.mk H;clear H;go_wp2;(repeat (go_quiet (fail);try go_wp2))
           go_loopg [39] k2 (fun kq v39 w' => ∃ (z1 : Int),v39 = .int .i64 z1 ∧ Aside0 (spec_FirstMeet.l2 kq l0 z0 ((rd_L1 l0 0).length : Int) z0 l0 (l0.length : Int) z1 = some r) ∧ Aside0 (kq ≤ k2) ∧ Drawn0 w w')
           case atStart => exact ⟨(0),es_,H',⟨Nat.le_refl _⟩,by repeat (first | exact Drawn0.refl _ | apply Drawn0.step)⟩
           case round =>
            clear H';obtain ⟨z1,rfl,HA,HK3,⟨m3,rfl⟩⟩:=hrel
            cases gk with
            | zero => exact absurd HA.out (by simp [spec_FirstMeet.l2])
            | succ k3 =>
             have H:=HA.out;clear HA;simp only [spec_FirstMeet.l2] at H;by_cases c11 : z1 < (l0.length : Int)
             ·rw [if_pos c11] at H
              have zd2 : decide (z1 < (l0.length : Int)) = true:=decide_eq_true c11;clear c11;by_cases c12 : 0 ≤ z1
              ·rw [if_pos c12] at H
               have zf0 : decide (0 ≤ z1) = true:=decide_eq_true c12;clear c12;by_cases c13 : z1 < (l0.length : Int)
               ·rw [if_pos c13] at H
                have zf1 : decide (z1 < (l0.length : Int)) = true:=decide_eq_true c13;clear c13;have H':=Aside0.mk H;clear H;have zb2 : 0 ≤ (z1 : Int):=of_decide_eq_true as_;have zb3 : z1 < (l0.length : Int):=of_decide_eq_true as_;obtain ⟨zd3,ze9,c153_0,e153,ze6,za1,hi153_0⟩:=at_L1 HR0.out z1 zb2 zb3
                obtain rfl : m7 = zd3:=(by injection e153)
                have z6:=Aside0.mk hi153_0;have ze7:=Aside0.mk za1;clear hi153_0 za1;replace zb2:=eq_true zb2;replace zb3:=eq_true zb3;go_wp2;(repeat (go_quiet (fail);try go_wp2))
                go_loopg [8] k3 (fun kq v8 w' => ∃ (z2 : Int),v8 = .int .i64 z2 ∧ Aside0 (spec_FirstMeet.l3 kq l0 z0 z1 (rd_L1 l0 z1) z2 ((rd_L1 l0 0).length : Int) z0 l0 (l0.length : Int) z1 = some r) ∧ Aside0 (kq ≤ k3) ∧ Drawn0 w w')
                case atStart => exact ⟨(0),es_,H',⟨Nat.le_refl _⟩,by repeat (first | exact Drawn0.refl _ | apply Drawn0.step)⟩
                case round =>
                 clear H';obtain ⟨z2,rfl,HA,HK4,⟨m4,rfl⟩⟩:=hrel
                 cases gk with
                 | zero => exact absurd HA.out (by simp [spec_FirstMeet.l3])
                 | succ k4 =>
                  have H:=HA.out;clear HA;simp only [spec_FirstMeet.l3] at H;by_cases c14 : z2 < z1
                  ·rw [if_pos c14] at H
                   have zd4 : decide (z2 < z1) = true:=decide_eq_true c14;clear c14;by_cases c15 : 0 ≤ z0
                   ·rw [if_pos c15] at H
                    have zf2 : decide (0 ≤ z0) = true:=decide_eq_true c15;clear c15;by_cases c16 : z0 < ((rd_L1 l0 z1).length : Int)
                    ·rw [if_pos c16] at H
                     have zf3 : decide (z0 < ((rd_L1 l0 z1).length : Int)) = true:=decide_eq_true c16;clear c16;by_cases c17 : z0 > 0
                     ·rw [if_pos c17] at H
                      have zd5 : decide (0 < z0) = true:=decide_eq_true c17;clear c17;obtain ⟨ji18,hji18⟩ : ∃ j_ : Int,(wrap64 (z0 - 1)) = j_:=⟨_,rfl⟩;(replace H : (if 0 ≤ (ji18) then (if (ji18) < ((rd_L1 l0 z1).length : Int) then (if 0 ≤ z2 then (if z2 < (l0.length : Int) then ((spec_l20Hits.f (rd_L1 l0 z2) z0 (rd (rd_L1 l0 z1) (ji18)) (rd (rd_L1 l0 z1) z0)).bind fun za4 => (if za4 = true then (some z0) else (spec_FirstMeet.l3 k4 l0 z0 z1 (rd_L1 l0 z1) (wrap64 (z2 + 1)) ((rd_L1 l0 0).length : Int) z0 l0 (l0.length : Int) z1))) else (none)) else (none)) else (none)) else (none)) = some r:=by first | (rw [hji18] at H;exact H) | (simp only [hji18] at H ⊢;exact H));have hji18w : (IntKind.i64.wrap (z0 - 1)) = ji18:=(i64_w _).trans hji18;by_cases c19 : 0 ≤ (ji18)
                      ·rw [if_pos c19] at H
                       have zf4 : decide (0 ≤ (ji18)) = true:=decide_eq_true c19;clear c19;by_cases c20 : (ji18) < ((rd_L1 l0 z1).length : Int)
                       ·rw [if_pos c20] at H
                        have zf5 : decide ((ji18) < ((rd_L1 l0 z1).length : Int)) = true:=decide_eq_true c20;clear c20;by_cases c21 : 0 ≤ z2
                        ·rw [if_pos c21] at H
                         have zf6 : decide (0 ≤ z2) = true:=decide_eq_true c21;clear c21;by_cases c22 : z2 < (l0.length : Int)
                         ·rw [if_pos c22] at H
                          have zf7 : decide (z2 < (l0.length : Int)) = true:=decide_eq_true c22;clear c22;replace H:=Option.bind_eq_some_iff.mp H;obtain ⟨za4,zc6,H⟩:=H;replace H : (if za4 = true then (some z0) else (spec_FirstMeet.l3 k4 l0 z0 z1 (rd_L1 l0 z1) (wrap64 (z2 + 1)) ((rd_L1 l0 0).length : Int) z0 l0 (l0.length : Int) z1)) = some r:=H;have A23:=Aside0.mk zc6;clear zc6;by_cases c24 : za4 = true
                          ·subst c24
                           rw [if_pos rfl] at H
                           obtain rfl:=Option.some.inj H
                           have z7 : 0 ≤ (z0 : Int):=of_decide_eq_true as_;have z8 : z0 < ((rd_L1 l0 z1).length : Int):=of_decide_eq_true as_;obtain ⟨j3,e154,m8⟩:=Kd.at_int z6.out z0 z7 z8;cases e154;replace z7:=eq_true z7;replace z8:=eq_true z8;have r3 : 0 ≤ ((ji18) : Int):=of_decide_eq_true as_;have r4 : (ji18) < ((rd_L1 l0 z1).length : Int):=of_decide_eq_true as_;obtain ⟨za5,e155,zb9⟩:=Kd.at_int z6.out (ji18) r3 r4
                           obtain rfl : j3 = za5:=(by injection e155)
                           replace r3:=eq_true r3;replace r4:=eq_true r4;have r5 : 0 ≤ (z2 : Int):=of_decide_eq_true as_;have r6 : z2 < (l0.length : Int):=of_decide_eq_true as_;obtain ⟨za6,zc7,c156_0,e156,zc0,j7,hi156_0⟩:=at_L1 HR0.out z2 r5 r6
                           obtain rfl : m7 = za6:=(by injection e156)
                           have z9:=Aside0.mk hi156_0;have j0:=Aside0.mk j7;clear hi156_0 j7;replace r5:=eq_true r5;replace r6:=eq_true r6;have r7 : 0 ≤ (z0 : Int):=of_decide_eq_true as_;have r8 : z0 < ((rd_L1 l0 z1).length : Int):=of_decide_eq_true as_;obtain ⟨za7,e157,zc1⟩:=Kd.at_int z6.out z0 r7 r8
                           obtain rfl : j3 = za7:=(by injection e157)
                           replace r7:=eq_true r7;replace r8:=eq_true r8;go_wp2_with (first | (go_at_call 51;(with_reducible refine (spec_l20Hits.calls _ _ (rd_L1 l0 z2) z0 (rd (rd_L1 l0 z1) (ji18)) (rd (rd_L1 l0 z1) z0) true _ ?z4 ?z5 A23.out).mono ?_);(case z4 => repeat (first | exact z9.out | (with_reducible refine Kd.C_alloc ?_ _) | (with_reducible refine Kd.C_drewN ?_ _) | (with_reducible refine Kd.C_drew ?_)));(case z5 => exact j0.out);rintro e w' ⟨rfl,⟨nd,rfl⟩⟩;(try first | exact ⟨rfl,_,World.drewN_drewN _ _ _⟩ | exact ⟨rfl,_,Eq.trans (World.drewN_drewN _ _ _) (congrArg (World.drewN _) (Nat.add_assoc _ _ _))⟩)));(repeat (go_quiet (first | (go_at_call 51;(with_reducible refine (spec_l20Hits.calls _ _ (rd_L1 l0 z2) z0 (rd (rd_L1 l0 z1) (ji18)) (rd (rd_L1 l0 z1) z0) true _ ?z4 ?z5 A23.out).mono ?_);(case z4 => repeat (first | exact z9.out | (with_reducible refine Kd.C_alloc ?_ _) | (with_reducible refine Kd.C_drewN ?_ _) | (with_reducible refine Kd.C_drew ?_)));(case z5 => exact j0.out);rintro e w' ⟨rfl,⟨nd,rfl⟩⟩;(try first | exact ⟨rfl,_,World.drewN_drewN _ _ _⟩ | exact ⟨rfl,_,Eq.trans (World.drewN_drewN _ _ _) (congrArg (World.drewN _) (Nat.add_assoc _ _ _))⟩)));try go_wp2_with (first | (go_at_call 51;(with_reducible refine (spec_l20Hits.calls _ _ (rd_L1 l0 z2) z0 (rd (rd_L1 l0 z1) (ji18)) (rd (rd_L1 l0 z1) z0) true _ ?z4 ?z5 A23.out).mono ?_);(case z4 => repeat (first | exact z9.out | (with_reducible refine Kd.C_alloc ?_ _) | (with_reducible refine Kd.C_drewN ?_ _) | (with_reducible refine Kd.C_drew ?_)));(case z5 => exact j0.out);rintro e w' ⟨rfl,⟨nd,rfl⟩⟩;(try first | exact ⟨rfl,_,World.drewN_drewN _ _ _⟩ | exact ⟨rfl,_,Eq.trans (World.drewN_drewN _ _ _) (congrArg (World.drewN _) (Nat.add_assoc _ _ _))⟩)))));go_ret;exact ⟨by first | rfl | (simp;done) | (simp only [← hji18] <;> (first | rfl | simp)) | (simp [*];done),by repeat (first | exact Drawn0.refl _ | apply Drawn0.step)⟩
                          ·replace c24:=Bool.eq_false_iff.mpr c24
                           subst c24;rw [if_neg (show ¬ (false = true) by decide)] at H;have H':=Aside0.mk H;clear H;have z7 : 0 ≤ (z0 : Int):=of_decide_eq_true as_;have z8 : z0 < ((rd_L1 l0 z1).length : Int):=of_decide_eq_true as_;obtain ⟨j3,e154,m8⟩:=Kd.at_int z6.out z0 z7 z8;cases e154;replace z7:=eq_true z7;replace z8:=eq_true z8;have r3 : 0 ≤ ((ji18) : Int):=of_decide_eq_true as_;have r4 : (ji18) < ((rd_L1 l0 z1).length : Int):=of_decide_eq_true as_;obtain ⟨za5,e155,zb9⟩:=Kd.at_int z6.out (ji18) r3 r4
                           obtain rfl : j3 = za5:=(by injection e155)
                           replace r3:=eq_true r3;replace r4:=eq_true r4;have r5 : 0 ≤ (z2 : Int):=of_decide_eq_true as_;have r6 : z2 < (l0.length : Int):=of_decide_eq_true as_;obtain ⟨za6,zc7,c156_0,e156,zc0,j7,hi156_0⟩:=at_L1 HR0.out z2 r5 r6
                           obtain rfl : m7 = za6:=(by injection e156)
                           have z9:=Aside0.mk hi156_0;have j0:=Aside0.mk j7;clear hi156_0 j7;replace r5:=eq_true r5;replace r6:=eq_true r6;have r7 : 0 ≤ (z0 : Int):=of_decide_eq_true as_;have r8 : z0 < ((rd_L1 l0 z1).length : Int):=of_decide_eq_true as_;obtain ⟨za7,e157,zc1⟩:=Kd.at_int z6.out z0 r7 r8
                           obtain rfl : j3 = za7:=(by injection e157)
                           replace r7:=eq_true r7;replace r8:=eq_true r8;go_wp2_with (first | (go_at_call 51;(with_reducible refine (spec_l20Hits.calls _ _ (rd_L1 l0 z2) z0 (rd (rd_L1 l0 z1) (ji18)) (rd (rd_L1 l0 z1) z0) false _ ?z4 ?z5 A23.out).mono ?_);(case z4 => repeat (first | exact z9.out | (with_reducible refine Kd.C_alloc ?_ _) | (with_reducible refine Kd.C_drewN ?_ _) | (with_reducible refine Kd.C_drew ?_)));(case z5 => exact j0.out);rintro e w' ⟨rfl,⟨nd,rfl⟩⟩;(try first | exact ⟨rfl,_,World.drewN_drewN _ _ _⟩ | exact ⟨rfl,_,Eq.trans (World.drewN_drewN _ _ _) (congrArg (World.drewN _) (Nat.add_assoc _ _ _))⟩)));(repeat (go_quiet (first | (go_at_call 51;(with_reducible refine (spec_l20Hits.calls _ _ (rd_L1 l0 z2) z0 (rd (rd_L1 l0 z1) (ji18)) (rd (rd_L1 l0 z1) z0) false _ ?z4 ?z5 A23.out).mono ?_);(case z4 => repeat (first | exact z9.out | (with_reducible refine Kd.C_alloc ?_ _) | (with_reducible refine Kd.C_drewN ?_ _) | (with_reducible refine Kd.C_drew ?_)));(case z5 => exact j0.out);rintro e w' ⟨rfl,⟨nd,rfl⟩⟩;(try first | exact ⟨rfl,_,World.drewN_drewN _ _ _⟩ | exact ⟨rfl,_,Eq.trans (World.drewN_drewN _ _ _) (congrArg (World.drewN _) (Nat.add_assoc _ _ _))⟩)));try go_wp2_with (first | (go_at_call 51;(with_reducible refine (spec_l20Hits.calls _ _ (rd_L1 l0 z2) z0 (rd (rd_L1 l0 z1) (ji18)) (rd (rd_L1 l0 z1) z0) false _ ?z4 ?z5 A23.out).mono ?_);(case z4 => repeat (first | exact z9.out | (with_reducible refine Kd.C_alloc ?_ _) | (with_reducible refine Kd.C_drewN ?_ _) | (with_reducible refine Kd.C_drew ?_)));(case z5 => exact j0.out);rintro e w' ⟨rfl,⟨nd,rfl⟩⟩;(try first | exact ⟨rfl,_,World.drewN_drewN _ _ _⟩ | exact ⟨rfl,_,Eq.trans (World.drewN_drewN _ _ _) (congrArg (World.drewN _) (Nat.add_assoc _ _ _))⟩)))));go_roundg k4
                           case measure => have:=HK1.out;have:=HK2.out;have:=HK3.out;have:=HK4.out;omega
                           case rel => exact ⟨(wrap64 (z2 + 1)),es_,H',⟨by have:=HK1.out;have:=HK2.out;have:=HK3.out;have:=HK4.out;omega⟩,by repeat (first | exact Drawn0.refl _ | apply Drawn0.step)⟩
                         ·rw [if_neg c22] at H
                          exact absurd H (by simp)
                        ·rw [if_neg c21] at H
                         exact absurd H (by simp)
                       ·rw [if_neg c20] at H
                        exact absurd H (by simp)
                      ·rw [if_neg c19] at H
                       exact absurd H (by simp)
                     ·rw [if_neg c17] at H
                      have zd5 : decide (0 < z0) = false:=decide_eq_false c17;clear c17;by_cases c25 : 0 ≤ z2
                      ·rw [if_pos c25] at H
                       have zf8 : decide (0 ≤ z2) = true:=decide_eq_true c25;clear c25;by_cases c26 : z2 < (l0.length : Int)
                       ·rw [if_pos c26] at H
                        have zf9 : decide (z2 < (l0.length : Int)) = true:=decide_eq_true c26;clear c26;replace H:=Option.bind_eq_some_iff.mp H;obtain ⟨zc8,zc9,H⟩:=H;replace H : (if zc8 = true then (some z0) else (spec_FirstMeet.l3 k4 l0 z0 z1 (rd_L1 l0 z1) (wrap64 (z2 + 1)) ((rd_L1 l0 0).length : Int) z0 l0 (l0.length : Int) z1)) = some r:=H;have A27:=Aside0.mk zc9;clear zc9;by_cases c28 : zc8 = true
                        ·subst c28
                         rw [if_pos rfl] at H
                         obtain rfl:=Option.some.inj H
                         have z7 : 0 ≤ (z0 : Int):=of_decide_eq_true as_;have z8 : z0 < ((rd_L1 l0 z1).length : Int):=of_decide_eq_true as_;obtain ⟨j3,e154,m8⟩:=Kd.at_int z6.out z0 z7 z8;cases e154;replace z7:=eq_true z7;replace z8:=eq_true z8;have r9 : 0 ≤ (z2 : Int):=of_decide_eq_true as_;have m0 : z2 < (l0.length : Int):=of_decide_eq_true as_;obtain ⟨za8,zd0,c159_0,e159,zc2,j8,hi159_0⟩:=at_L1 HR0.out z2 r9 m0
                         obtain rfl : m7 = za8:=(by injection e159)
                         have j1:=Aside0.mk hi159_0;have j2:=Aside0.mk j8;clear hi159_0 j8;replace r9:=eq_true r9;replace m0:=eq_true m0;have m5 : 0 ≤ (z0 : Int):=of_decide_eq_true as_;have m6 : z0 < ((rd_L1 l0 z1).length : Int):=of_decide_eq_true as_;obtain ⟨za9,e160,zc3⟩:=Kd.at_int z6.out z0 m5 m6
                         obtain rfl : j3 = za9:=(by injection e160)
                         replace m5:=eq_true m5;replace m6:=eq_true m6;go_wp2_with (first | (go_at_call 51;(with_reducible refine (spec_l20Hits.calls _ _ (rd_L1 l0 z2) z0 (rd (rd_L1 l0 z1) z0) (rd (rd_L1 l0 z1) z0) true _ ?z4 ?z5 A27.out).mono ?_);(case z4 => repeat (first | exact j1.out | (with_reducible refine Kd.C_alloc ?_ _) | (with_reducible refine Kd.C_drewN ?_ _) | (with_reducible refine Kd.C_drew ?_)));(case z5 => exact j2.out);rintro e w' ⟨rfl,⟨nd,rfl⟩⟩;(try first | exact ⟨rfl,_,World.drewN_drewN _ _ _⟩ | exact ⟨rfl,_,Eq.trans (World.drewN_drewN _ _ _) (congrArg (World.drewN _) (Nat.add_assoc _ _ _))⟩)));(repeat (go_quiet (first | (go_at_call 51;(with_reducible refine (spec_l20Hits.calls _ _ (rd_L1 l0 z2) z0 (rd (rd_L1 l0 z1) z0) (rd (rd_L1 l0 z1) z0) true _ ?z4 ?z5 A27.out).mono ?_);(case z4 => repeat (first | exact j1.out | (with_reducible refine Kd.C_alloc ?_ _) | (with_reducible refine Kd.C_drewN ?_ _) | (with_reducible refine Kd.C_drew ?_)));(case z5 => exact j2.out);rintro e w' ⟨rfl,⟨nd,rfl⟩⟩;(try first | exact ⟨rfl,_,World.drewN_drewN _ _ _⟩ | exact ⟨rfl,_,Eq.trans (World.drewN_drewN _ _ _) (congrArg (World.drewN _) (Nat.add_assoc _ _ _))⟩)));try go_wp2_with (first | (go_at_call 51;(with_reducible refine (spec_l20Hits.calls _ _ (rd_L1 l0 z2) z0 (rd (rd_L1 l0 z1) z0) (rd (rd_L1 l0 z1) z0) true _ ?z4 ?z5 A27.out).mono ?_);(case z4 => repeat (first | exact j1.out | (with_reducible refine Kd.C_alloc ?_ _) | (with_reducible refine Kd.C_drewN ?_ _) | (with_reducible refine Kd.C_drew ?_)));(case z5 => exact j2.out);rintro e w' ⟨rfl,⟨nd,rfl⟩⟩;(try first | exact ⟨rfl,_,World.drewN_drewN _ _ _⟩ | exact ⟨rfl,_,Eq.trans (World.drewN_drewN _ _ _) (congrArg (World.drewN _) (Nat.add_assoc _ _ _))⟩)))));go_ret;exact ⟨es_,by repeat (first | exact Drawn0.refl _ | apply Drawn0.step)⟩
                        ·replace c28:=Bool.eq_false_iff.mpr c28
                         subst c28;rw [if_neg (show ¬ (false = true) by decide)] at H;have H':=Aside0.mk H;clear H;have z7 : 0 ≤ (z0 : Int):=of_decide_eq_true as_;have z8 : z0 < ((rd_L1 l0 z1).length : Int):=of_decide_eq_true as_;obtain ⟨j3,e154,m8⟩:=Kd.at_int z6.out z0 z7 z8;cases e154;replace z7:=eq_true z7;replace z8:=eq_true z8;have r9 : 0 ≤ (z2 : Int):=of_decide_eq_true as_;have m0 : z2 < (l0.length : Int):=of_decide_eq_true as_;obtain ⟨za8,zd0,c159_0,e159,zc2,j8,hi159_0⟩:=at_L1 HR0.out z2 r9 m0
                         obtain rfl : m7 = za8:=(by injection e159)
                         have j1:=Aside0.mk hi159_0;have j2:=Aside0.mk j8;clear hi159_0 j8;replace r9:=eq_true r9;replace m0:=eq_true m0;have m5 : 0 ≤ (z0 : Int):=of_decide_eq_true as_;have m6 : z0 < ((rd_L1 l0 z1).length : Int):=of_decide_eq_true as_;obtain ⟨za9,e160,zc3⟩:=Kd.at_int z6.out z0 m5 m6
                         obtain rfl : j3 = za9:=(by injection e160)
                         replace m5:=eq_true m5;replace m6:=eq_true m6;go_wp2_with (first | (go_at_call 51;(with_reducible refine (spec_l20Hits.calls _ _ (rd_L1 l0 z2) z0 (rd (rd_L1 l0 z1) z0) (rd (rd_L1 l0 z1) z0) false _ ?z4 ?z5 A27.out).mono ?_);(case z4 => repeat (first | exact j1.out | (with_reducible refine Kd.C_alloc ?_ _) | (with_reducible refine Kd.C_drewN ?_ _) | (with_reducible refine Kd.C_drew ?_)));(case z5 => exact j2.out);rintro e w' ⟨rfl,⟨nd,rfl⟩⟩;(try first | exact ⟨rfl,_,World.drewN_drewN _ _ _⟩ | exact ⟨rfl,_,Eq.trans (World.drewN_drewN _ _ _) (congrArg (World.drewN _) (Nat.add_assoc _ _ _))⟩)));(repeat (go_quiet (first | (go_at_call 51;(with_reducible refine (spec_l20Hits.calls _ _ (rd_L1 l0 z2) z0 (rd (rd_L1 l0 z1) z0) (rd (rd_L1 l0 z1) z0) false _ ?z4 ?z5 A27.out).mono ?_);(case z4 => repeat (first | exact j1.out | (with_reducible refine Kd.C_alloc ?_ _) | (with_reducible refine Kd.C_drewN ?_ _) | (with_reducible refine Kd.C_drew ?_)));(case z5 => exact j2.out);rintro e w' ⟨rfl,⟨nd,rfl⟩⟩;(try first | exact ⟨rfl,_,World.drewN_drewN _ _ _⟩ | exact ⟨rfl,_,Eq.trans (World.drewN_drewN _ _ _) (congrArg (World.drewN _) (Nat.add_assoc _ _ _))⟩)));try go_wp2_with (first | (go_at_call 51;(with_reducible refine (spec_l20Hits.calls _ _ (rd_L1 l0 z2) z0 (rd (rd_L1 l0 z1) z0) (rd (rd_L1 l0 z1) z0) false _ ?z4 ?z5 A27.out).mono ?_);(case z4 => repeat (first | exact j1.out | (with_reducible refine Kd.C_alloc ?_ _) | (with_reducible refine Kd.C_drewN ?_ _) | (with_reducible refine Kd.C_drew ?_)));(case z5 => exact j2.out);rintro e w' ⟨rfl,⟨nd,rfl⟩⟩;(try first | exact ⟨rfl,_,World.drewN_drewN _ _ _⟩ | exact ⟨rfl,_,Eq.trans (World.drewN_drewN _ _ _) (congrArg (World.drewN _) (Nat.add_assoc _ _ _))⟩)))));go_roundg k4
                         case measure => have:=HK1.out;have:=HK2.out;have:=HK3.out;have:=HK4.out;omega
                         case rel => exact ⟨(wrap64 (z2 + 1)),es_,H',⟨by have:=HK1.out;have:=HK2.out;have:=HK3.out;have:=HK4.out;omega⟩,by repeat (first | exact Drawn0.refl _ | apply Drawn0.step)⟩
                       ·rw [if_neg c26] at H
                        exact absurd H (by simp)
                      ·rw [if_neg c25] at H
                       exact absurd H (by simp)
                    ·rw [if_neg c16] at H
                     exact absurd H (by simp)
                   ·rw [if_neg c15] at H
                    exact absurd H (by simp)
                  ·rw [if_neg c14] at H
                   have zd4 : decide (z2 < z1) = false:=decide_eq_false c14;clear c14;have H':=Aside0.mk H;clear H;go_wp2;(repeat (go_quiet (fail);try go_wp2));go_roundg k4
                   case measure => have:=HK1.out;have:=HK2.out;have:=HK3.out;have:=HK4.out;omega
                   case rel => exact ⟨(wrap64 (z1 + 1)),es_,H',⟨by have:=HK1.out;have:=HK2.out;have:=HK3.out;have:=HK4.out;omega⟩,by repeat (first | exact Drawn0.refl _ | apply Drawn0.step)⟩
               ·rw [if_neg c13] at H
                exact absurd H (by simp)
              ·rw [if_neg c12] at H
               exact absurd H (by simp)
             ·rw [if_neg c11] at H
              have zd2 : decide (z1 < (l0.length : Int)) = false:=decide_eq_false c11;clear c11;have H':=Aside0.mk H;clear H;go_wp2;(repeat (go_quiet (fail);try go_wp2));go_roundg k3
              case measure => have:=HK1.out;have:=HK2.out;have:=HK3.out;omega
              case rel => exact ⟨(wrap64 (z0 + 1)),es_,H',⟨by have:=HK1.out;have:=HK2.out;have:=HK3.out;omega⟩,by repeat (first | exact Drawn0.refl _ | apply Drawn0.step)⟩
          ·rw [if_neg c10] at H
           have zd1 : decide (z0 < ((rd_L1 l0 0).length : Int)) = false:=decide_eq_false c10;clear c10
           obtain rfl:=Option.some.inj H
           go_wp2;(repeat (go_quiet (fail);try go_wp2));go_ret;exact ⟨es_,by repeat (first | exact Drawn0.refl _ | apply Drawn0.step)⟩
       ·rw [if_neg c9] at H
        exact absurd H (by simp)

end Go.Proofs.Ytcldlljnaijmhaa.Pr
namespace Go.Proofs.Ytcldlljnaijmhaa.Pr
open Go.RowKit Go.Proofs.YtcldlljnaijmhaaW.PrintWords Go.Proofs.YtcldlljnaijmhaaW.PrintLast Go.Proofs.YtcldlljnaijmhaaW.PrintMore
attribute [local go_sem] max2_int min2_int max_two min_two max_three min_three max_four min_four
set_option linter.unusedVariables false
set_option linter.unusedSimpArgs false

set_option maxHeartbeats 8000000 in
set_option maxRecDepth 100000 in
theorem spec_l12Sized.calls (a0 : Int) (a1 : Int) (r : Bool) (w : World) (h : spec_l12Sized.f a0 a1 = some r) :
   Calls Try.prog 67 #[.int .i64 a0,.int .i64 a1] w fun e w' => e = .returned (.bool r) ∧ Drawn0 w w':=by
  have H : (if a0 ≥ 1 then (if a0 ≤ 16 then (if a1 ≥ a0 then (if a0 = 0 then (none) else (if (Int.tmod a1 a0) = 0 then (some (decide ((wrap64 (Int.tdiv a1 a0)) ≤ 16))) else (some false))) else (some false)) else (some false)) else (some false)) = some r:=h;clear h;by_cases c3 : a0 ≥ 1
  ·rw [if_pos c3] at H
   have z0 : decide (1 ≤ a0) = true:=decide_eq_true c3;clear c3;by_cases c4 : a0 ≤ 16
   ·rw [if_pos c4] at H
    have z1 : decide (a0 ≤ 16) = true:=decide_eq_true c4;clear c4;by_cases c5 : a1 ≥ a0
    ·rw [if_pos c5] at H
     have z2 : decide (a0 ≤ a1) = true:=decide_eq_true c5;clear c5;by_cases c6 : a0 = 0
     ·rw [if_pos c6] at H
      exact absurd H (by simp)
     ·rw [if_neg c6] at H
      have z5 : (a0 == 0) = false:=beq_eq_false_iff_ne.mpr c6;have z6 : (a0 != 0) = true:=bne_iff_ne.mpr c6;by_cases c7 : (Int.tmod a1 a0) = 0
      ·rw [if_pos c7] at H
       have z3 : ((Int.tmod a1 a0) == 0) = true:=beq_iff_eq.mpr c7;have z4 : ((Int.tmod a1 a0) != 0) = false:=bne_eq_false_iff_eq.mpr c7;clear c7
       obtain rfl:=Option.some.inj H
       go_enter Try.func67,Try.ntmps67;go_wp2;go_ret;exact ⟨es_,by repeat (first | exact Drawn0.refl _ | apply Drawn0.step)⟩
      ·rw [if_neg c7] at H
       have z3 : ((Int.tmod a1 a0) == 0) = false:=beq_eq_false_iff_ne.mpr c7;have z4 : ((Int.tmod a1 a0) != 0) = true:=bne_iff_ne.mpr c7
       obtain rfl:=Option.some.inj H
       go_enter Try.func67,Try.ntmps67;go_wp2;go_ret;exact ⟨es_,by repeat (first | exact Drawn0.refl _ | apply Drawn0.step)⟩
    ·rw [if_neg c5] at H
     have z2 : decide (a0 ≤ a1) = false:=decide_eq_false c5;clear c5
     obtain rfl:=Option.some.inj H
     go_enter Try.func67,Try.ntmps67;go_wp2;go_ret;exact ⟨es_,by repeat (first | exact Drawn0.refl _ | apply Drawn0.step)⟩
   ·rw [if_neg c4] at H
    have z1 : decide (a0 ≤ 16) = false:=decide_eq_false c4;clear c4
    obtain rfl:=Option.some.inj H
    go_enter Try.func67,Try.ntmps67;go_wp2;go_ret;exact ⟨es_,by repeat (first | exact Drawn0.refl _ | apply Drawn0.step)⟩
  ·rw [if_neg c3] at H
   have z0 : decide (1 ≤ a0) = false:=decide_eq_false c3;clear c3
   obtain rfl:=Option.some.inj H
   go_enter Try.func67,Try.ntmps67;go_wp2;go_ret;exact ⟨es_,by repeat (first | exact Drawn0.refl _ | apply Drawn0.step)⟩

set_option maxHeartbeats 8000000 in
set_option maxRecDepth 100000 in
theorem spec_GoodCells.calls (k : Nat) (a0_0 : Int) (z7 : Option Addr) (c0_1 : Nat) (z0 : List Int) (r : Bool) (w : World) (hr0_1 : Kd.C (Kd.int .i64) w z7 z0.length z0) (hc0_1 : z0.length ≤ c0_1) (h : spec_GoodCells.f k a0_0 z0 = some r) :
   Calls Try.prog 52 #[.agg #[.int .i64 a0_0,.slice z7 z0.length c0_1]] w fun e w' => e = .returned (.bool r) ∧ Below w.heap.size w w':=by
  have r5:=Try.underlying39;have z8:=Aside0.mk hr0_1;have r4:=Aside0.mk hc0_1;clear hr0_1 hc0_1;have HB:=ak (Below.refl w.heap.size w);have H : ((spec_l12Sized.f a0_0 (z0.length : Int)).bind fun z9 => (if z9 = true then (spec_GoodCells.l0 k z0 (z0.length : Int) 0) else (some false))) = some r:=h;clear h;replace H:=Option.bind_eq_some_iff.mp H;obtain ⟨z9,A20,H⟩:=H;replace H : (if z9 = true then (spec_GoodCells.l0 k z0 (z0.length : Int) 0) else (some false)) = some r:=H;have A2:=Aside0.mk A20;clear A20;by_cases c3 : z9 = true
  ·subst c3
   rw [if_pos rfl] at H;have H':=Aside0.mk H;clear H;go_enter Try.func52,Try.ntmps52;go_wp2_with (first | ((with_reducible refine gate_dst (N:=1) rfl ?_);refine box_event ?hg (N:=1) ?hd (cs:=#[.int .i64 a0_0,.slice z7 z0.length c0_1]) (t:=39) ?hr ?_;(case hd => rfl);(case hg => rfl);(case hr => first | (go_simp;done) | (go_simp;rfl));intro z4 hg w4 hbox hb;have z2:=ak (hbox);have j1 : Aside0 (w.heap.size ≤ z4):=gz_;have j2 : Aside0 (w.heap.size ≤ z4):=gz_;replace HB:=ak (below_step hb_ hb);clear hb hbox hg;have r0:=b20 z2;have r1:=b21 z2;have r2:=blk_frozen z2.out 0;have r3:=blk_frozen z2.out 1) | ((with_reducible refine gate_callee (f:=67) rfl ?_);refine goesL_ (some 10) rfl rfl Try.func67 (by kernel_rfl) rfl #[.int .i64 a0_0,.int .i64 (z0.length : Int)] rfl ls_ ?_;(with_reducible refine (spec_l12Sized.calls a0_0 (z0.length : Int) true _ A2.out).mono ?_);rintro e w' ⟨rfl,⟨nd,rfl⟩⟩;refine ⟨_,rfl,?_⟩))
   go_loopg [15] k (fun kq v15 w' => ∃ (z1 : Int),v15 = .int .i64 z1 ∧ Aside0 (spec_GoodCells.l0 kq z0 (z0.length : Int) z1 = some r) ∧ Aside0 (kq ≤ k) ∧ Aside0 (w'.heap[z4]? = some (.cells #[.int .i64 a0_0,(.slice z7 z0.length c0_1)] 39 (0,0))) ∧ Aside0 (Below w.heap.size w w'))
   case atStart => exact ⟨(0),es_,H',⟨Nat.le_refl _⟩,⟨bk_ z2.out⟩,⟨hb_⟩⟩
   case round =>
    clear H';obtain ⟨z1,rfl,HA,HK1,z2,HB⟩:=hrel
    cases gk with
    | zero => exact absurd HA.out (by simp [spec_GoodCells.l0])
    | succ k1 =>
     have H:=HA.out;clear HA;simp only [spec_GoodCells.l0] at H;by_cases c6 : z1 < (z0.length : Int)
     ·rw [if_pos c6] at H
      have j4 : decide (z1 < (z0.length : Int)) = true:=decide_eq_true c6;clear c6;by_cases c7 : 0 ≤ z1
      ·rw [if_pos c7] at H
       have r6 : decide (0 ≤ z1) = true:=decide_eq_true c7;clear c7;by_cases c8 : z1 < (z0.length : Int)
       ·rw [if_pos c8] at H
        have r7 : decide (z1 < (z0.length : Int)) = true:=decide_eq_true c8;clear c8;by_cases c9 : (rd z0 z1) < 0
        ·rw [if_pos c9] at H
         have j5 : decide ((rd z0 z1) < 0) = true:=decide_eq_true c9;clear c9
         obtain rfl:=Option.some.inj H
         have z5 : 0 ≤ (z1 : Int):=of_decide_eq_true as_;have z6 : z1 < (z0.length : Int):=of_decide_eq_true as_;obtain ⟨j0,e164,z3⟩:=Kd.at_int z8.out z1 z5 z6;cases e164;replace z3:=hc_ HB z3;replace z5:=eq_true z5;replace z6:=eq_true z6;go_wp2;go_ret;exact ⟨er_,hb_⟩
        ·rw [if_neg c9] at H
         have j5 : decide ((rd z0 z1) < 0) = false:=decide_eq_false c9;clear c9;by_cases c10 : (rd z0 z1) > 2
         ·rw [if_pos c10] at H
          have j3 : decide (2 < (rd z0 z1)) = true:=decide_eq_true c10;clear c10
          obtain rfl:=Option.some.inj H
          have z5 : 0 ≤ (z1 : Int):=of_decide_eq_true as_;have z6 : z1 < (z0.length : Int):=of_decide_eq_true as_;obtain ⟨j0,e164,z3⟩:=Kd.at_int z8.out z1 z5 z6;cases e164;replace z3:=hc_ HB z3;replace z5:=eq_true z5;replace z6:=eq_true z6;go_wp2;go_ret;exact ⟨er_,hb_⟩
         ·rw [if_neg c10] at H
          have j3 : decide (2 < (rd z0 z1)) = false:=decide_eq_false c10;clear c10;have H':=Aside0.mk H;clear H;have z5 : 0 ≤ (z1 : Int):=of_decide_eq_true as_;have z6 : z1 < (z0.length : Int):=of_decide_eq_true as_;obtain ⟨j0,e164,z3⟩:=Kd.at_int z8.out z1 z5 z6;cases e164;replace z3:=hc_ HB z3;replace z5:=eq_true z5;replace z6:=eq_true z6;go_wp2;go_roundg k1
          case measure => have:=HK1.out;omega
          case rel => exact ⟨(wrap64 (z1 + 1)),es_,H',⟨by have:=HK1.out;omega⟩,⟨bk_ z2.out⟩,⟨hb_⟩⟩
       ·rw [if_neg c8] at H
        exact absurd H (by simp)
      ·rw [if_neg c7] at H
       exact absurd H (by simp)
     ·rw [if_neg c6] at H
      have j4 : decide (z1 < (z0.length : Int)) = false:=decide_eq_false c6;clear c6
      obtain rfl:=Option.some.inj H
      go_wp2;go_ret;exact ⟨er_,hb_⟩
  ·replace c3:=Bool.eq_false_iff.mpr c3
   subst c3;rw [if_neg (show ¬ (false = true) by decide)] at H
   obtain rfl:=Option.some.inj H
   go_enter Try.func52,Try.ntmps52;go_wp2_with (first | ((with_reducible refine gate_dst (N:=1) rfl ?_);refine box_event ?hg (N:=1) ?hd (cs:=#[.int .i64 a0_0,.slice z7 z0.length c0_1]) (t:=39) ?hr ?_;(case hd => rfl);(case hg => rfl);(case hr => first | (go_simp;done) | (go_simp;rfl));intro z4 hg w11 hbox hb;have z2:=ak (hbox);have j1 : Aside0 (w.heap.size ≤ z4):=gz_;have j2 : Aside0 (w.heap.size ≤ z4):=gz_;replace HB:=ak (below_step hb_ hb);clear hb hbox hg;have j6:=b20 z2;have j7:=b21 z2;have j8:=blk_frozen z2.out 0;have j9:=blk_frozen z2.out 1) | ((with_reducible refine gate_callee (f:=67) rfl ?_);refine goesL_ (some 10) rfl rfl Try.func67 (by kernel_rfl) rfl #[.int .i64 a0_0,.int .i64 (z0.length : Int)] rfl ls_ ?_;(with_reducible refine (spec_l12Sized.calls a0_0 (z0.length : Int) false _ A2.out).mono ?_);rintro e w' ⟨rfl,⟨nd,rfl⟩⟩;refine ⟨_,rfl,?_⟩));go_ret;exact ⟨er_,hb_⟩

set_option maxHeartbeats 8000000 in
set_option maxRecDepth 100000 in
theorem spec_l12Free.calls (a0_0 : Int) (z3 : Option Addr) (c0_1 : Nat) (z0 : List Int) (a1 : Int) (r : Bool) (w : World) (hr0_1 : Kd.C (Kd.int .i64) w z3 z0.length z0) (hc0_1 : z0.length ≤ c0_1) (h : spec_l12Free.f a0_0 z0 a1 = some r) :
   Calls Try.prog 53 #[.agg #[.int .i64 a0_0,.slice z3 z0.length c0_1],.int .i64 a1] w fun e w' => e = .returned (.bool r) ∧ Below w.heap.size w w':=by
  have r2:=Try.underlying39;have z9:=Aside0.mk hr0_1;have r0:=Aside0.mk hc0_1;clear hr0_1 hc0_1;have HB:=ak (Below.refl w.heap.size w);have H : (if a1 ≥ 0 then (if a1 < (z0.length : Int) then (if 0 ≤ a1 then (some ((rd z0 a1) == 0)) else (none)) else (some false)) else (some false)) = some r:=h;clear h;by_cases c3 : a1 ≥ 0
  ·rw [if_pos c3] at H
   have j0 : decide (0 ≤ a1) = true:=decide_eq_true c3;clear c3;by_cases c4 : a1 < (z0.length : Int)
   ·rw [if_pos c4] at H
    have j1 : decide (a1 < (z0.length : Int)) = true:=decide_eq_true c4;clear c4;by_cases c5 : 0 ≤ a1
    ·rw [if_pos c5] at H
     have r3 : decide (0 ≤ a1) = true:=decide_eq_true c5;clear c5
     obtain rfl:=Option.some.inj H
     go_enter Try.func53,Try.ntmps53;go_wp2_with (first | ((with_reducible refine gate_dst (N:=2) rfl ?_);(try (refine gate_guard (by rfl) ?_;dsimp only));refine box_event ?hg (N:=2) ?hd (cs:=#[.int .i64 a0_0,.slice z3 z0.length c0_1]) (t:=39) ?hr ?_;(case hd => rfl);(case hg => rfl);(case hr => first | (go_simp;done) | (go_simp;rfl));intro z1 hg w6 hbox hb;have z2:=ak (hbox);have z7 : Aside0 (w.heap.size ≤ z1):=gz_;have z8 : Aside0 (w.heap.size ≤ z1):=gz_;replace HB:=ak (below_step hb_ hb);clear hb hbox hg;have j2:=b20 z2;have j3:=b21 z2;have j4:=blk_frozen z2.out 0;have j5:=blk_frozen z2.out 1;have z5 : 0 ≤ (a1 : Int):=of_decide_eq_true as_;have z6 : a1 < (z0.length : Int):=of_decide_eq_true as_;obtain ⟨r1,e166,z4⟩:=Kd.at_int z9.out a1 z5 z6;cases e166;replace z4:=hc_ HB z4;replace z5:=eq_true z5;replace z6:=eq_true z6));go_ret;exact ⟨er_,hb_⟩
    ·rw [if_neg c5] at H
     exact absurd H (by simp)
   ·rw [if_neg c4] at H
    have j1 : decide (a1 < (z0.length : Int)) = false:=decide_eq_false c4;clear c4
    obtain rfl:=Option.some.inj H
    go_enter Try.func53,Try.ntmps53;go_wp2_with (first | ((with_reducible refine gate_dst (N:=2) rfl ?_);(try (refine gate_guard (by rfl) ?_;dsimp only));refine box_event ?hg (N:=2) ?hd (cs:=#[.int .i64 a0_0,.slice z3 z0.length c0_1]) (t:=39) ?hr ?_;(case hd => rfl);(case hg => rfl);(case hr => first | (go_simp;done) | (go_simp;rfl));intro z1 hg w8 hbox hb;have z2:=ak (hbox);have z7 : Aside0 (w.heap.size ≤ z1):=gz_;have z8 : Aside0 (w.heap.size ≤ z1):=gz_;replace HB:=ak (below_step hb_ hb);clear hb hbox hg;have j6:=b20 z2;have j7:=b21 z2;have j8:=blk_frozen z2.out 0;have j9:=blk_frozen z2.out 1));go_ret;exact ⟨er_,hb_⟩
  ·rw [if_neg c3] at H
   have j0 : decide (0 ≤ a1) = false:=decide_eq_false c3;clear c3
   obtain rfl:=Option.some.inj H
   go_enter Try.func53,Try.ntmps53;go_wp2_with (first | ((with_reducible refine gate_dst (N:=2) rfl ?_);(try (refine gate_guard (by rfl) ?_;dsimp only));refine box_event ?hg (N:=2) ?hd (cs:=#[.int .i64 a0_0,.slice z3 z0.length c0_1]) (t:=39) ?hr ?_;(case hd => rfl);(case hg => rfl);(case hr => first | (go_simp;done) | (go_simp;rfl));intro z1 hg w10 hbox hb;have z2:=ak (hbox);have z7 : Aside0 (w.heap.size ≤ z1):=gz_;have z8 : Aside0 (w.heap.size ≤ z1):=gz_;replace HB:=ak (below_step hb_ hb);clear hb hbox hg));go_ret;exact ⟨er_,hb_⟩

end Go.Proofs.Ytcldlljnaijmhaa.Pr
namespace Go.Proofs.Ytcldlljnaijmhaa.Pr
open Go.RowKit Go.Proofs.YtcldlljnaijmhaaW.PrintWords Go.Proofs.YtcldlljnaijmhaaW.PrintLast Go.Proofs.YtcldlljnaijmhaaW.PrintMore
attribute [local go_sem] max2_int min2_int max_two min_two max_three min_three max_four min_four
set_option linter.unusedVariables false
set_option linter.unusedSimpArgs false

set_option maxHeartbeats 8000000 in
set_option maxRecDepth 100000 in
theorem spec_GoodTrips.calls (k : Nat) (a0_0 : Int) (j0 : Option Addr) (c0_1 : Nat) (z3 : List Int) (A1 : Option Addr) (c1 : Nat) (l1 : List (S49)) (r : Bool) (w : World) (hr0_1 : Kd.C (Kd.int .i64) w j0 z3.length z3) (hc0_1 : z3.length ≤ c0_1) (hr1 : Kd.C k49 w A1 l1.length l1) (hc1 : l1.length ≤ c1) (h : spec_GoodTrips.f k a0_0 z3 l1 = some r) :
   Calls Try.prog 25 #[.agg #[.int .i64 a0_0,.slice j0 z3.length c0_1],.slice A1 l1.length c1] w fun e w' => e = .returned (.bool r) ∧ Below w.heap.size w w':=by
  have zh3:=Try.underlying39;have zh4:=Try.underlying49;have j2:=Aside0.mk hr0_1;have j3:=Aside0.mk hc0_1;clear hr0_1 hc0_1;have HR1:=Aside0.mk hr1;have HC1:=Aside0.mk hc1;clear hr1 hc1;have HB:=ak (Below.refl w.heap.size w);have H : ((spec_GoodCells.f k a0_0 z3).bind fun za1 => (if za1 = true then (spec_GoodTrips.j0 k l1 (decide ((l1.length : Int) > 5)) a0_0 z3) else (spec_GoodTrips.j0 k l1 true a0_0 z3))) = some r:=h;clear h;have HC3:=Aside0.mk H;clear H;go_enter Try.func25,Try.ntmps25
  go_upto_region 1 with (first | ((with_reducible refine gate_dst (N:=2) rfl ?_);(try (refine gate_guard (by rfl) ?_;dsimp only));refine box_event ?hg (N:=2) ?hd (cs:=#[.int .i64 a0_0,.slice j0 z3.length c0_1]) (t:=39) ?hr ?_;(case hd => rfl);(case hg => rfl);(case hr => first | (go_simp;done) | (go_simp;rfl));intro z4 hg w4 hbox hb;have z1:=ak (hbox);have za7 : Aside0 (w.heap.size ≤ z4):=gz_;have za8 : Aside0 (w.heap.size ≤ z4):=gz_;replace HB:=ak (below_step hb_ hb);clear hb hbox hg))
  (repeat (go_quiet (first | ((with_reducible refine gate_dst (N:=2) rfl ?_);(try (refine gate_guard (by rfl) ?_;dsimp only));refine box_event ?hg (N:=2) ?hd (cs:=#[.int .i64 a0_0,.slice j0 z3.length c0_1]) (t:=39) ?hr ?_;(case hd => rfl);(case hg => rfl);(case hr => first | (go_simp;done) | (go_simp;rfl));intro z4 hg w4 hbox hb;have z1:=ak (hbox);have za7 : Aside0 (w.heap.size ≤ z4):=gz_;have za8 : Aside0 (w.heap.size ≤ z4):=gz_;replace HB:=ak (below_step hb_ hb);clear hb hbox hg));go_upto_region 1 with (first | ((with_reducible refine gate_dst (N:=2) rfl ?_);(try (refine gate_guard (by rfl) ?_;dsimp only));refine box_event ?hg (N:=2) ?hd (cs:=#[.int .i64 a0_0,.slice j0 z3.length c0_1]) (t:=39) ?hr ?_;(case hd => rfl);(case hg => rfl);(case hr => first | (go_simp;done) | (go_simp;rfl));intro z4 hg w4 hbox hb;have z1:=ak (hbox);have za7 : Aside0 (w.heap.size ≤ z4):=gz_;have za8 : Aside0 (w.heap.size ≤ z4):=gz_;replace HB:=ak (below_step hb_ hb);clear hb hbox hg))));(try simp only [Act.put,aS,aZ,aN])
  go_cut [15] (fun v15 wc => ∃ (kq : Nat) (r6 : Bool),v15 = .bool r6 ∧ Aside0 (spec_GoodTrips.j0 kq l1 r6 a0_0 z3 = some r) ∧ Aside0 (kq ≤ k) ∧ Aside0 (wc.heap[z4]? = some (.cells #[.int .i64 a0_0,(.slice j0 z3.length c0_1)] 39 (0,0))) ∧ Aside0 (Below w.heap.size w wc))
  case first =>
   have H:=HC3.out;clear HC3;replace H:=Option.bind_eq_some_iff.mp H;obtain ⟨za1,A50,H⟩:=H;replace H : (if za1 = true then (spec_GoodTrips.j0 k l1 (decide ((l1.length : Int) > 5)) a0_0 z3) else (spec_GoodTrips.j0 k l1 true a0_0 z3)) = some r:=H;have A5:=Aside0.mk A50;clear A50;by_cases c6 : za1 = true
   ·subst c6
    rw [if_pos rfl] at H;have H':=Aside0.mk H;clear H;have zf1:=b20 z1;have zf2:=b21 z1;have zf3:=blk_frozen z1.out 0;have zf4:=blk_frozen z1.out 1;go_wp2_with (first | (go_at_call 52;(with_reducible refine (spec_GoodCells.calls k a0_0 _ _ z3 true _ ?z7 ?z8 A5.out).mono ?_);(case z7 => exact cb_ j2.out);(case z8 => exact j3.out);rintro e w8 ⟨rfl,hb⟩;replace z1:=bb_ z1 hb;replace HB:=ak (below_step hb_ hb);(try clear hb);(try clear hb2);(try clear hk);(try clear hi)));(repeat (go_quiet (first | (go_at_call 52;(with_reducible refine (spec_GoodCells.calls k a0_0 _ _ z3 true _ ?z7 ?z8 A5.out).mono ?_);(case z7 => exact cb_ j2.out);(case z8 => exact j3.out);rintro e w8 ⟨rfl,hb⟩;replace z1:=bb_ z1 hb;replace HB:=ak (below_step hb_ hb);(try clear hb);(try clear hb2);(try clear hk);(try clear hi)));try go_wp2_with (first | (go_at_call 52;(with_reducible refine (spec_GoodCells.calls k a0_0 _ _ z3 true _ ?z7 ?z8 A5.out).mono ?_);(case z7 => exact cb_ j2.out);(case z8 => exact j3.out);rintro e w8 ⟨rfl,hb⟩;replace z1:=bb_ z1 hb;replace HB:=ak (below_step hb_ hb);(try clear hb);(try clear hb2);(try clear hk);(try clear hi)))));go_meet
    case rel => exact ⟨_,(decide ((l1.length : Int) > 5)),es_,H',⟨by first | omega | exact Nat.le_refl _⟩,⟨bk_ z1.out⟩,⟨hb_⟩⟩
   ·replace c6:=Bool.eq_false_iff.mpr c6
    subst c6;rw [if_neg (show ¬ (false = true) by decide)] at H;have H':=Aside0.mk H;clear H;have zf5:=b20 z1;have zf6:=b21 z1;have zf7:=blk_frozen z1.out 0;have zf8:=blk_frozen z1.out 1;go_wp2_with (first | (go_at_call 52;(with_reducible refine (spec_GoodCells.calls k a0_0 _ _ z3 false _ ?z7 ?z8 A5.out).mono ?_);(case z7 => exact cb_ j2.out);(case z8 => exact j3.out);rintro e w10 ⟨rfl,hb⟩;replace z1:=bb_ z1 hb;replace HB:=ak (below_step hb_ hb);(try clear hb);(try clear hb2);(try clear hk);(try clear hi)));(repeat (go_quiet (first | (go_at_call 52;(with_reducible refine (spec_GoodCells.calls k a0_0 _ _ z3 false _ ?z7 ?z8 A5.out).mono ?_);(case z7 => exact cb_ j2.out);(case z8 => exact j3.out);rintro e w10 ⟨rfl,hb⟩;replace z1:=bb_ z1 hb;replace HB:=ak (below_step hb_ hb);(try clear hb);(try clear hb2);(try clear hk);(try clear hi)));try go_wp2_with (first | (go_at_call 52;(with_reducible refine (spec_GoodCells.calls k a0_0 _ _ z3 false _ ?z7 ?z8 A5.out).mono ?_);(case z7 => exact cb_ j2.out);(case z8 => exact j3.out);rintro e w10 ⟨rfl,hb⟩;replace z1:=bb_ z1 hb;replace HB:=ak (below_step hb_ hb);(try clear hb);(try clear hb2);(try clear hk);(try clear hi)))));go_meet
    case rel => exact ⟨_,(true),es_,H',⟨by first | omega | exact Nat.le_refl _⟩,⟨bk_ z1.out⟩,⟨hb_⟩⟩
  case rest =>
   clear HC3;obtain ⟨kq,r6,rfl,HA,HJ2,z1,HB⟩:=hcut
   cases kq with
   | zero => exact absurd HA.out (by simp [spec_GoodTrips.j0])
   | succ kj2 =>
    have H:=HA.out;clear HA;simp only [spec_GoodTrips.j0] at H;by_cases c11 : r6 = true
    ·subst c11
     rw [if_pos rfl] at H
     obtain rfl:=Option.some.inj H
     go_wp2;(repeat (go_quiet (fail);try go_wp2));go_ret;exact ⟨er_,hb_⟩
    ·replace c11:=Bool.eq_false_iff.mpr c11
     subst c11;rw [if_neg (show ¬ (false = true) by decide)] at H;have H':=Aside0.mk H;clear H;go_wp2;(repeat (go_quiet (fail);try go_wp2))
     go_loopg [18] kj2 (fun kq v18 w' => ∃ (z0 : Int),v18 = .int .i64 z0 ∧ Aside0 (spec_GoodTrips.l0 kq l1 l1 (l1.length : Int) z0 a0_0 z3 = some r) ∧ Aside0 (kq ≤ kj2) ∧ Aside0 (w'.heap[z4]? = some (.cells #[.int .i64 a0_0,(.slice j0 z3.length c0_1)] 39 (0,0))) ∧ Aside0 (Below w.heap.size w w'))
     case atStart => exact ⟨(0),es_,H',⟨Nat.le_refl _⟩,⟨bk_ z1.out⟩,⟨hb_⟩⟩
     case round =>
      clear H';obtain ⟨z0,rfl,HA,HK2,z1,HB⟩:=hrel
      cases gk with
      | zero => exact absurd HA.out (by simp [spec_GoodTrips.l0])
      | succ k2 =>
       have H:=HA.out;clear HA;simp only [spec_GoodTrips.l0] at H;by_cases c12 : z0 < (l1.length : Int)
       ·rw [if_pos c12] at H
        have zb7 : decide (z0 < (l1.length : Int)) = true:=decide_eq_true c12;clear c12;by_cases c13 : 0 ≤ z0
        ·rw [if_pos c13] at H
         have zf9 : decide (0 ≤ z0) = true:=decide_eq_true c13;clear c13;by_cases c14 : z0 < (l1.length : Int)
         ·rw [if_pos c14] at H
          have zg0 : decide (z0 < (l1.length : Int)) = true:=decide_eq_true c14;clear c14;have za4:=Aside0.mk H;clear H;have za5 : 0 ≤ (z0 : Int):=of_decide_eq_true as_;have za6 : z0 < (l1.length : Int):=of_decide_eq_true as_;obtain ⟨r3,e169,r7,r8⟩:=at_T49 HR1.out z0 za5 za6;cases e169;replace r7:=hc_ HB r7;replace r8:=hc_ HB r8;replace za5:=eq_true za5;replace za6:=eq_true za6
          go_upto_region 6 with (first | ((with_reducible refine gate_dst (N:=6) rfl ?_);(try (refine gate_guard (by rfl) ?_;dsimp only));refine box_event ?hg (N:=6) ?hd (cs:=#[.int .i64 0,.int .i64 0]) (t:=49) ?hr ?_;(case hd => rfl);(case hg => rfl);(case hr => first | (go_simp;done) | (go_simp;rfl));intro z5 hg w16 hbox hb;have z2:=ak (hbox);have za9 : Aside0 (w.heap.size ≤ z5):=gz_;have zb0 : Aside0 (w.heap.size ≤ z5):=gz_;have z6:=ak ((by rw [hg];exact Nat.ne_of_lt (blk_lt (g:=z4) (o:=.cells #[.int .i64 a0_0,.slice j0 z3.length c0_1] 39 (0,0)) (bk_ z1.out)) : z4 ≠ z5));have j1:=ak ((by rw [hg];exact Nat.ne_of_gt (blk_lt (g:=z4) (o:=.cells #[.int .i64 a0_0,.slice j0 z3.length c0_1] 39 (0,0)) (bk_ z1.out)) : z5 ≠ z4));replace z1:=bb_ z1 hb;replace HB:=ak (below_step hb_ hb);clear hb hbox hg;have zb1:=j1.out;have zb2:=z6.out;have r9:=b20 z2;have m0:=b21 z2;have m1:=blk_frozen z2.out 0;have m2:=blk_frozen z2.out 1))
          (repeat (go_quiet (first | ((with_reducible refine gate_dst (N:=6) rfl ?_);(try (refine gate_guard (by rfl) ?_;dsimp only));refine box_event ?hg (N:=6) ?hd (cs:=#[.int .i64 0,.int .i64 0]) (t:=49) ?hr ?_;(case hd => rfl);(case hg => rfl);(case hr => first | (go_simp;done) | (go_simp;rfl));intro z5 hg w16 hbox hb;have z2:=ak (hbox);have za9 : Aside0 (w.heap.size ≤ z5):=gz_;have zb0 : Aside0 (w.heap.size ≤ z5):=gz_;have z6:=ak ((by rw [hg];exact Nat.ne_of_lt (blk_lt (g:=z4) (o:=.cells #[.int .i64 a0_0,.slice j0 z3.length c0_1] 39 (0,0)) (bk_ z1.out)) : z4 ≠ z5));have j1:=ak ((by rw [hg];exact Nat.ne_of_gt (blk_lt (g:=z4) (o:=.cells #[.int .i64 a0_0,.slice j0 z3.length c0_1] 39 (0,0)) (bk_ z1.out)) : z5 ≠ z4));replace z1:=bb_ z1 hb;replace HB:=ak (below_step hb_ hb);clear hb hbox hg;have zb1:=j1.out;have zb2:=z6.out;have r9:=b20 z2;have m0:=b21 z2;have m1:=blk_frozen z2.out 0;have m2:=blk_frozen z2.out 1));go_upto_region 6 with (first | ((with_reducible refine gate_dst (N:=6) rfl ?_);(try (refine gate_guard (by rfl) ?_;dsimp only));refine box_event ?hg (N:=6) ?hd (cs:=#[.int .i64 0,.int .i64 0]) (t:=49) ?hr ?_;(case hd => rfl);(case hg => rfl);(case hr => first | (go_simp;done) | (go_simp;rfl));intro z5 hg w16 hbox hb;have z2:=ak (hbox);have za9 : Aside0 (w.heap.size ≤ z5):=gz_;have zb0 : Aside0 (w.heap.size ≤ z5):=gz_;have z6:=ak ((by rw [hg];exact Nat.ne_of_lt (blk_lt (g:=z4) (o:=.cells #[.int .i64 a0_0,.slice j0 z3.length c0_1] 39 (0,0)) (bk_ z1.out)) : z4 ≠ z5));have j1:=ak ((by rw [hg];exact Nat.ne_of_gt (blk_lt (g:=z4) (o:=.cells #[.int .i64 a0_0,.slice j0 z3.length c0_1] 39 (0,0)) (bk_ z1.out)) : z5 ≠ z4));replace z1:=bb_ z1 hb;replace HB:=ak (below_step hb_ hb);clear hb hbox hg;have zb1:=j1.out;have zb2:=z6.out;have r9:=b20 z2;have m0:=b21 z2;have m1:=blk_frozen z2.out 0;have m2:=blk_frozen z2.out 1))));(try simp only [Act.put,aS,aZ,aN])
          go_cut [34] (fun v34 wc => ∃ (kq : Nat) (r4 : Bool),v34 = .bool r4 ∧ Aside0 (spec_GoodTrips.j2 kq l1 z0 l1 (l1.length : Int) z0 r4 a0_0 z3 ((rd_T49 l1 z0).f0) ((rd_T49 l1 z0).f1) = some r) ∧ Aside0 (kq ≤ k2) ∧ Aside0 (wc.heap[z4]? = some (.cells #[.int .i64 a0_0,(.slice j0 z3.length c0_1)] 39 (0,0))) ∧ Aside0 (wc.heap[z5]? = some (.cells #[.int .i64 ((rd_T49 l1 z0).f0),.int .i64 ((rd_T49 l1 z0).f1)] 49 (0,0))) ∧ Aside0 (Below w.heap.size w wc))
          case first =>
           have H:=za4.out;clear za4;replace H:=Option.bind_eq_some_iff.mp H;obtain ⟨zb3,zb4,H⟩:=H;replace H : (if zb3 = true then ((spec_l12Free.f a0_0 z3 ((rd_T49 l1 z0).f1)).bind fun r0 => (spec_GoodTrips.j2 k2 l1 z0 l1 (l1.length : Int) z0 (!r0) a0_0 z3 ((rd_T49 l1 z0).f0) ((rd_T49 l1 z0).f1))) else (spec_GoodTrips.j2 k2 l1 z0 l1 (l1.length : Int) z0 true a0_0 z3 ((rd_T49 l1 z0).f0) ((rd_T49 l1 z0).f1))) = some r:=H;have A19:=Aside0.mk zb4;clear zb4;by_cases c20 : zb3 = true
           ·subst c20
            rw [if_pos rfl] at H;replace H:=Option.bind_eq_some_iff.mp H;obtain ⟨r0,zb5,H⟩:=H;replace H : (spec_GoodTrips.j2 k2 l1 z0 l1 (l1.length : Int) z0 (!r0) a0_0 z3 ((rd_T49 l1 z0).f0) ((rd_T49 l1 z0).f1)) = some r:=H;have A21:=Aside0.mk zb5;clear zb5;have H':=Aside0.mk H;clear H;have zg1:=z6.out;have zg2:=j1.out;have zc3:=b20 z1;have zc4:=b21 z1;have zc5:=blk_frozen z1.out 0;have zc6:=blk_frozen z1.out 1;have zc7:=b20 z2;have zc8:=b21 z2;have zc9:=blk_frozen z2.out 0;have zd0:=blk_frozen z2.out 1;go_wp2_with (first | (go_at_call 53;(with_reducible refine (spec_l12Free.calls a0_0 _ _ z3 ((rd_T49 l1 z0).f0) true _ ?z7 ?z8 A19.out).mono ?_);(case z7 => exact Kd.C_below j2.out hb_);(case z8 => exact j3.out);rintro e w25 ⟨rfl,hb⟩;replace z1:=ak (blk_below (g:=z4) (o:=.cells #[.int .i64 a0_0,.slice j0 z3.length c0_1] 39 (0,0)) (by (with_reducible repeat (first | refine blk_drewN ?_ _ | refine blk_drew ?_ | refine blk_alloc ?_ _));refine blk_far ?_ z6.out _;(with_reducible repeat (first | refine blk_drewN ?_ _ | refine blk_drew ?_ | refine blk_alloc ?_ _));refine blk_far ?_ z6.out _;exact bk_ z1.out) hb);replace z2:=ak (blk_below (g:=z5) (o:=.cells #[.int .i64 ((rd_T49 l1 z0).f0),.int .i64 ((rd_T49 l1 z0).f1)] 49 (0,0)) (by (with_reducible repeat (first | refine blk_drewN ?_ _ | refine blk_drew ?_ | refine blk_alloc ?_ _));refine blk_put (cs:=#[.int .i64 ((rd_T49 l1 z0).f0),.int .i64 0]) ?_ 1 _ rfl;(with_reducible repeat (first | refine blk_drewN ?_ _ | refine blk_drew ?_ | refine blk_alloc ?_ _));refine blk_put (cs:=#[.int .i64 0,.int .i64 0]) ?_ 0 _ rfl;exact bk_ z2.out) hb);replace HB:=ak (below_step hb_ hb);(try clear hb);(try clear hb2);(try clear hk);(try clear hi);have m3:=b20 z1;have m4:=b21 z1;have m5:=blk_frozen z1.out 0;have m6:=blk_frozen z1.out 1;have m7:=b20 z2;have m8:=b21 z2;have m9:=blk_frozen z2.out 0;have za0:=blk_frozen z2.out 1) | (go_at_call 53;(with_reducible refine (spec_l12Free.calls a0_0 _ _ z3 ((rd_T49 l1 z0).f1) r0 _ ?z7 ?z8 A21.out).mono ?_);(case z7 => exact cb_ j2.out);(case z8 => exact j3.out);rintro e w28 ⟨rfl,hb⟩;replace z1:=bb_ z1 hb;replace z2:=bb_ z2 hb;replace HB:=ak (below_step hb_ hb);(try clear hb);(try clear hb2);(try clear hk);(try clear hi)));(repeat (go_quiet (first | (go_at_call 53;(with_reducible refine (spec_l12Free.calls a0_0 _ _ z3 ((rd_T49 l1 z0).f0) true _ ?z7 ?z8 A19.out).mono ?_);(case z7 => exact Kd.C_below j2.out hb_);(case z8 => exact j3.out);rintro e w25 ⟨rfl,hb⟩;replace z1:=ak (blk_below (g:=z4) (o:=.cells #[.int .i64 a0_0,.slice j0 z3.length c0_1] 39 (0,0)) (by (with_reducible repeat (first | refine blk_drewN ?_ _ | refine blk_drew ?_ | refine blk_alloc ?_ _));refine blk_far ?_ z6.out _;(with_reducible repeat (first | refine blk_drewN ?_ _ | refine blk_drew ?_ | refine blk_alloc ?_ _));refine blk_far ?_ z6.out _;exact bk_ z1.out) hb);replace z2:=ak (blk_below (g:=z5) (o:=.cells #[.int .i64 ((rd_T49 l1 z0).f0),.int .i64 ((rd_T49 l1 z0).f1)] 49 (0,0)) (by (with_reducible repeat (first | refine blk_drewN ?_ _ | refine blk_drew ?_ | refine blk_alloc ?_ _));refine blk_put (cs:=#[.int .i64 ((rd_T49 l1 z0).f0),.int .i64 0]) ?_ 1 _ rfl;(with_reducible repeat (first | refine blk_drewN ?_ _ | refine blk_drew ?_ | refine blk_alloc ?_ _));refine blk_put (cs:=#[.int .i64 0,.int .i64 0]) ?_ 0 _ rfl;exact bk_ z2.out) hb);replace HB:=ak (below_step hb_ hb);(try clear hb);(try clear hb2);(try clear hk);(try clear hi);have m3:=b20 z1;have m4:=b21 z1;have m5:=blk_frozen z1.out 0;have m6:=blk_frozen z1.out 1;have m7:=b20 z2;have m8:=b21 z2;have m9:=blk_frozen z2.out 0;have za0:=blk_frozen z2.out 1) | (go_at_call 53;(with_reducible refine (spec_l12Free.calls a0_0 _ _ z3 ((rd_T49 l1 z0).f1) r0 _ ?z7 ?z8 A21.out).mono ?_);(case z7 => exact cb_ j2.out);(case z8 => exact j3.out);rintro e w28 ⟨rfl,hb⟩;replace z1:=bb_ z1 hb;replace z2:=bb_ z2 hb;replace HB:=ak (below_step hb_ hb);(try clear hb);(try clear hb2);(try clear hk);(try clear hi)));try go_wp2_with (first | (go_at_call 53;(with_reducible refine (spec_l12Free.calls a0_0 _ _ z3 ((rd_T49 l1 z0).f0) true _ ?z7 ?z8 A19.out).mono ?_);(case z7 => exact Kd.C_below j2.out hb_);(case z8 => exact j3.out);rintro e w25 ⟨rfl,hb⟩;replace z1:=ak (blk_below (g:=z4) (o:=.cells #[.int .i64 a0_0,.slice j0 z3.length c0_1] 39 (0,0)) (by (with_reducible repeat (first | refine blk_drewN ?_ _ | refine blk_drew ?_ | refine blk_alloc ?_ _));refine blk_far ?_ z6.out _;(with_reducible repeat (first | refine blk_drewN ?_ _ | refine blk_drew ?_ | refine blk_alloc ?_ _));refine blk_far ?_ z6.out _;exact bk_ z1.out) hb);replace z2:=ak (blk_below (g:=z5) (o:=.cells #[.int .i64 ((rd_T49 l1 z0).f0),.int .i64 ((rd_T49 l1 z0).f1)] 49 (0,0)) (by (with_reducible repeat (first | refine blk_drewN ?_ _ | refine blk_drew ?_ | refine blk_alloc ?_ _));refine blk_put (cs:=#[.int .i64 ((rd_T49 l1 z0).f0),.int .i64 0]) ?_ 1 _ rfl;(with_reducible repeat (first | refine blk_drewN ?_ _ | refine blk_drew ?_ | refine blk_alloc ?_ _));refine blk_put (cs:=#[.int .i64 0,.int .i64 0]) ?_ 0 _ rfl;exact bk_ z2.out) hb);replace HB:=ak (below_step hb_ hb);(try clear hb);(try clear hb2);(try clear hk);(try clear hi);have m3:=b20 z1;have m4:=b21 z1;have m5:=blk_frozen z1.out 0;have m6:=blk_frozen z1.out 1;have m7:=b20 z2;have m8:=b21 z2;have m9:=blk_frozen z2.out 0;have za0:=blk_frozen z2.out 1) | (go_at_call 53;(with_reducible refine (spec_l12Free.calls a0_0 _ _ z3 ((rd_T49 l1 z0).f1) r0 _ ?z7 ?z8 A21.out).mono ?_);(case z7 => exact cb_ j2.out);(case z8 => exact j3.out);rintro e w28 ⟨rfl,hb⟩;replace z1:=bb_ z1 hb;replace z2:=bb_ z2 hb;replace HB:=ak (below_step hb_ hb);(try clear hb);(try clear hb2);(try clear hk);(try clear hi)))))
            go_meet
            case rel => exact ⟨_,(!r0),es_,H',⟨by have:=HJ2.out;have:=HK2.out;first | omega | exact Nat.le_refl _⟩,⟨bk_ z1.out⟩,⟨bk_ z2.out⟩,⟨hb_⟩⟩
           ·replace c20:=Bool.eq_false_iff.mpr c20
            subst c20;rw [if_neg (show ¬ (false = true) by decide)] at H;have H':=Aside0.mk H;clear H;have zg3:=z6.out;have zg4:=j1.out;have zd1:=b20 z1;have zd2:=b21 z1;have zd3:=blk_frozen z1.out 0;have zd4:=blk_frozen z1.out 1;have zd5:=b20 z2;have zd6:=b21 z2;have zd7:=blk_frozen z2.out 0;have zd8:=blk_frozen z2.out 1;go_wp2_with (first | (go_at_call 53;(with_reducible refine (spec_l12Free.calls a0_0 _ _ z3 ((rd_T49 l1 z0).f0) false _ ?z7 ?z8 A19.out).mono ?_);(case z7 => exact Kd.C_below j2.out hb_);(case z8 => exact j3.out);rintro e w32 ⟨rfl,hb⟩;replace z1:=ak (blk_below (g:=z4) (o:=.cells #[.int .i64 a0_0,.slice j0 z3.length c0_1] 39 (0,0)) (by (with_reducible repeat (first | refine blk_drewN ?_ _ | refine blk_drew ?_ | refine blk_alloc ?_ _));refine blk_far ?_ z6.out _;(with_reducible repeat (first | refine blk_drewN ?_ _ | refine blk_drew ?_ | refine blk_alloc ?_ _));refine blk_far ?_ z6.out _;exact bk_ z1.out) hb);replace z2:=ak (blk_below (g:=z5) (o:=.cells #[.int .i64 ((rd_T49 l1 z0).f0),.int .i64 ((rd_T49 l1 z0).f1)] 49 (0,0)) (by (with_reducible repeat (first | refine blk_drewN ?_ _ | refine blk_drew ?_ | refine blk_alloc ?_ _));refine blk_put (cs:=#[.int .i64 ((rd_T49 l1 z0).f0),.int .i64 0]) ?_ 1 _ rfl;(with_reducible repeat (first | refine blk_drewN ?_ _ | refine blk_drew ?_ | refine blk_alloc ?_ _));refine blk_put (cs:=#[.int .i64 0,.int .i64 0]) ?_ 0 _ rfl;exact bk_ z2.out) hb);replace HB:=ak (below_step hb_ hb);(try clear hb);(try clear hb2);(try clear hk);(try clear hi)));(repeat (go_quiet (first | (go_at_call 53;(with_reducible refine (spec_l12Free.calls a0_0 _ _ z3 ((rd_T49 l1 z0).f0) false _ ?z7 ?z8 A19.out).mono ?_);(case z7 => exact Kd.C_below j2.out hb_);(case z8 => exact j3.out);rintro e w32 ⟨rfl,hb⟩;replace z1:=ak (blk_below (g:=z4) (o:=.cells #[.int .i64 a0_0,.slice j0 z3.length c0_1] 39 (0,0)) (by (with_reducible repeat (first | refine blk_drewN ?_ _ | refine blk_drew ?_ | refine blk_alloc ?_ _));refine blk_far ?_ z6.out _;(with_reducible repeat (first | refine blk_drewN ?_ _ | refine blk_drew ?_ | refine blk_alloc ?_ _));refine blk_far ?_ z6.out _;exact bk_ z1.out) hb);replace z2:=ak (blk_below (g:=z5) (o:=.cells #[.int .i64 ((rd_T49 l1 z0).f0),.int .i64 ((rd_T49 l1 z0).f1)] 49 (0,0)) (by (with_reducible repeat (first | refine blk_drewN ?_ _ | refine blk_drew ?_ | refine blk_alloc ?_ _));refine blk_put (cs:=#[.int .i64 ((rd_T49 l1 z0).f0),.int .i64 0]) ?_ 1 _ rfl;(with_reducible repeat (first | refine blk_drewN ?_ _ | refine blk_drew ?_ | refine blk_alloc ?_ _));refine blk_put (cs:=#[.int .i64 0,.int .i64 0]) ?_ 0 _ rfl;exact bk_ z2.out) hb);replace HB:=ak (below_step hb_ hb);(try clear hb);(try clear hb2);(try clear hk);(try clear hi)));try go_wp2_with (first | (go_at_call 53;(with_reducible refine (spec_l12Free.calls a0_0 _ _ z3 ((rd_T49 l1 z0).f0) false _ ?z7 ?z8 A19.out).mono ?_);(case z7 => exact Kd.C_below j2.out hb_);(case z8 => exact j3.out);rintro e w32 ⟨rfl,hb⟩;replace z1:=ak (blk_below (g:=z4) (o:=.cells #[.int .i64 a0_0,.slice j0 z3.length c0_1] 39 (0,0)) (by (with_reducible repeat (first | refine blk_drewN ?_ _ | refine blk_drew ?_ | refine blk_alloc ?_ _));refine blk_far ?_ z6.out _;(with_reducible repeat (first | refine blk_drewN ?_ _ | refine blk_drew ?_ | refine blk_alloc ?_ _));refine blk_far ?_ z6.out _;exact bk_ z1.out) hb);replace z2:=ak (blk_below (g:=z5) (o:=.cells #[.int .i64 ((rd_T49 l1 z0).f0),.int .i64 ((rd_T49 l1 z0).f1)] 49 (0,0)) (by (with_reducible repeat (first | refine blk_drewN ?_ _ | refine blk_drew ?_ | refine blk_alloc ?_ _));refine blk_put (cs:=#[.int .i64 ((rd_T49 l1 z0).f0),.int .i64 0]) ?_ 1 _ rfl;(with_reducible repeat (first | refine blk_drewN ?_ _ | refine blk_drew ?_ | refine blk_alloc ?_ _));refine blk_put (cs:=#[.int .i64 0,.int .i64 0]) ?_ 0 _ rfl;exact bk_ z2.out) hb);replace HB:=ak (below_step hb_ hb);(try clear hb);(try clear hb2);(try clear hk);(try clear hi)))))
            go_meet
            case rel => exact ⟨_,(true),es_,H',⟨by have:=HJ2.out;have:=HK2.out;first | omega | exact Nat.le_refl _⟩,⟨bk_ z1.out⟩,⟨bk_ z2.out⟩,⟨hb_⟩⟩
          case rest =>
           clear za4;obtain ⟨kq,r4,rfl,HA,za2,z1,z2,HB⟩:=hcut
           cases kq with
           | zero => exact absurd HA.out (by simp [spec_GoodTrips.j2])
           | succ zb6 =>
            have H:=HA.out;clear HA;simp only [spec_GoodTrips.j2] at H;by_cases c33 : r4 = true
            ·subst c33
             rw [if_pos rfl] at H
             obtain rfl:=Option.some.inj H
             go_wp2;(repeat (go_quiet (fail);try go_wp2));go_ret;exact ⟨er_,hb_⟩
            ·replace c33:=Bool.eq_false_iff.mpr c33
             subst c33;rw [if_neg (show ¬ (false = true) by decide)] at H;have H':=Aside0.mk H;clear H;go_wp2;(repeat (go_quiet (fail);try go_wp2))
             go_loopg [7] zb6 (fun kq v7 w' => ∃ (z9 : Int),v7 = .int .i64 z9 ∧ Aside0 (spec_GoodTrips.l1 kq l1 z0 z9 l1 (l1.length : Int) z0 a0_0 z3 ((rd_T49 l1 z0).f0) ((rd_T49 l1 z0).f1) = some r) ∧ Aside0 (kq ≤ zb6) ∧ Aside0 (w'.heap[z4]? = some (.cells #[.int .i64 a0_0,(.slice j0 z3.length c0_1)] 39 (0,0))) ∧ Aside0 (w'.heap[z5]? = some (.cells #[.int .i64 ((rd_T49 l1 z0).f0),.int .i64 ((rd_T49 l1 z0).f1)] 49 (0,0))) ∧ Aside0 (Below w.heap.size w w'))
             case atStart => exact ⟨(0),es_,H',⟨Nat.le_refl _⟩,⟨bk_ z1.out⟩,⟨bk_ z2.out⟩,⟨hb_⟩⟩
             case round =>
              clear H';obtain ⟨z9,rfl,HA,HK4,z1,z2,HB⟩:=hrel
              cases gk with
              | zero => exact absurd HA.out (by simp [spec_GoodTrips.l1])
              | succ k4 =>
               have H:=HA.out;clear HA;simp only [spec_GoodTrips.l1] at H;by_cases c34 : z9 < z0
               ·rw [if_pos c34] at H
                have zb8 : decide (z9 < z0) = true:=decide_eq_true c34;clear c34;by_cases c35 : 0 ≤ z9
                ·rw [if_pos c35] at H
                 have zg5 : decide (0 ≤ z9) = true:=decide_eq_true c35;clear c35;by_cases c36 : z9 < (l1.length : Int)
                 ·rw [if_pos c36] at H
                  have zg6 : decide (z9 < (l1.length : Int)) = true:=decide_eq_true c36;clear c36;by_cases c37 : ((rd_T49 l1 z9).f0) = ((rd_T49 l1 z0).f0)
                  ·rw [if_pos c37] at H
                   have zb9 : (((rd_T49 l1 z9).f0) == ((rd_T49 l1 z0).f0)) = true:=beq_iff_eq.mpr c37;have zc0 : (((rd_T49 l1 z9).f0) != ((rd_T49 l1 z0).f0)) = false:=bne_eq_false_iff_eq.mpr c37;clear c37
                   obtain rfl:=Option.some.inj H
                   have j6 : 0 ≤ (z9 : Int):=of_decide_eq_true as_;have j7 : z9 < (l1.length : Int):=of_decide_eq_true as_;obtain ⟨r5,e173,j4,j5⟩:=at_T49 HR1.out z9 j6 j7
                   obtain rfl : r3 = r5:=(by injection e173)
                   replace j4:=hc_ HB j4;replace j5:=hc_ HB j5;replace j6:=eq_true j6;replace j7:=eq_true j7;have zg7:=j1.out;have zg8:=z6.out;have zd9:=b20 z2;have ze0:=b21 z2;have ze1:=blk_frozen z2.out 0;have ze2:=blk_frozen z2.out 1;go_wp2;(repeat (go_quiet (fail);try go_wp2));go_ret;exact ⟨er_,hb_⟩
                  ·rw [if_neg c37] at H
                   have zb9 : (((rd_T49 l1 z9).f0) == ((rd_T49 l1 z0).f0)) = false:=beq_eq_false_iff_ne.mpr c37;have zc0 : (((rd_T49 l1 z9).f0) != ((rd_T49 l1 z0).f0)) = true:=bne_iff_ne.mpr c37;by_cases c40 : ((rd_T49 l1 z9).f1) = ((rd_T49 l1 z0).f1)
                   ·rw [if_pos c40] at H
                    have zc1 : (((rd_T49 l1 z9).f1) == ((rd_T49 l1 z0).f1)) = true:=beq_iff_eq.mpr c40;have zc2 : (((rd_T49 l1 z9).f1) != ((rd_T49 l1 z0).f1)) = false:=bne_eq_false_iff_eq.mpr c40;clear c40
                    obtain rfl:=Option.some.inj H
                    have j6 : 0 ≤ (z9 : Int):=of_decide_eq_true as_;have j7 : z9 < (l1.length : Int):=of_decide_eq_true as_;obtain ⟨r5,e173,j4,j5⟩:=at_T49 HR1.out z9 j6 j7
                    obtain rfl : r3 = r5:=(by injection e173)
                    replace j4:=hc_ HB j4;replace j5:=hc_ HB j5;replace j6:=eq_true j6;replace j7:=eq_true j7;have zg9:=j1.out;have zh0:=z6.out;have ze3:=b20 z2;have ze4:=b21 z2;have ze5:=blk_frozen z2.out 0;have ze6:=blk_frozen z2.out 1;have r1 : 0 ≤ (z9 : Int):=of_decide_eq_true as_;have r2 : z9 < (l1.length : Int):=of_decide_eq_true as_;obtain ⟨za3,e174,j8,j9⟩:=at_T49 HR1.out z9 r1 r2
                    obtain rfl : r3 = za3:=(by injection e174)
                    replace j8:=hc_ HB j8;replace j9:=hc_ HB j9;replace r1:=eq_true r1;replace r2:=eq_true r2;go_wp2;(repeat (go_quiet (fail);try go_wp2));go_ret;exact ⟨er_,hb_⟩
                   ·rw [if_neg c40] at H
                    have zc1 : (((rd_T49 l1 z9).f1) == ((rd_T49 l1 z0).f1)) = false:=beq_eq_false_iff_ne.mpr c40;have zc2 : (((rd_T49 l1 z9).f1) != ((rd_T49 l1 z0).f1)) = true:=bne_iff_ne.mpr c40;have H':=Aside0.mk H;clear H;have j6 : 0 ≤ (z9 : Int):=of_decide_eq_true as_;have j7 : z9 < (l1.length : Int):=of_decide_eq_true as_;obtain ⟨r5,e173,j4,j5⟩:=at_T49 HR1.out z9 j6 j7
                    obtain rfl : r3 = r5:=(by injection e173)
                    replace j4:=hc_ HB j4;replace j5:=hc_ HB j5;replace j6:=eq_true j6;replace j7:=eq_true j7;have zh1:=j1.out;have zh2:=z6.out;have ze7:=b20 z2;have ze8:=b21 z2;have ze9:=blk_frozen z2.out 0;have zf0:=blk_frozen z2.out 1;have r1 : 0 ≤ (z9 : Int):=of_decide_eq_true as_;have r2 : z9 < (l1.length : Int):=of_decide_eq_true as_;obtain ⟨za3,e174,j8,j9⟩:=at_T49 HR1.out z9 r1 r2
                    obtain rfl : r3 = za3:=(by injection e174)
                    replace j8:=hc_ HB j8;replace j9:=hc_ HB j9;replace r1:=eq_true r1;replace r2:=eq_true r2;go_wp2;(repeat (go_quiet (fail);try go_wp2));go_roundg k4
                    case measure => have:=HJ2.out;have:=HK2.out;have:=za2.out;have:=HK4.out;omega
                    case rel => exact ⟨(wrap64 (z9 + 1)),es_,H',⟨by have:=HJ2.out;have:=HK2.out;have:=za2.out;have:=HK4.out;omega⟩,⟨bk_ z1.out⟩,⟨bk_ z2.out⟩,⟨hb_⟩⟩
                 ·rw [if_neg c36] at H
                  exact absurd H (by simp)
                ·rw [if_neg c35] at H
                 exact absurd H (by simp)
               ·rw [if_neg c34] at H
                have zb8 : decide (z9 < z0) = false:=decide_eq_false c34;clear c34;have H':=Aside0.mk H;clear H;go_wp2;(repeat (go_quiet (fail);try go_wp2));go_roundg k4
                case measure => have:=HJ2.out;have:=HK2.out;have:=za2.out;have:=HK4.out;omega
                case rel => exact ⟨(wrap64 (z0 + 1)),es_,H',⟨by have:=HJ2.out;have:=HK2.out;have:=za2.out;have:=HK4.out;omega⟩,⟨bk_ z1.out⟩,⟨hb_⟩⟩
         ·rw [if_neg c14] at H
          exact absurd H (by simp)
        ·rw [if_neg c13] at H
         exact absurd H (by simp)
       ·rw [if_neg c12] at H
        have zb7 : decide (z0 < (l1.length : Int)) = false:=decide_eq_false c12;clear c12
        obtain rfl:=Option.some.inj H
        go_wp2;(repeat (go_quiet (fail);try go_wp2));go_ret;exact ⟨er_,hb_⟩

end Go.Proofs.Ytcldlljnaijmhaa.Pr
