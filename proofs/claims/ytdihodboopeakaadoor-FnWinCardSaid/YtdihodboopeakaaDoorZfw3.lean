-- Joined and pruned by wip/tools/prune.py out of this session's own texts (Pr0, Odd, Prd1, Prd2, Sla, Ow, Pr10, Pr15, Gwd, Prd3, Pr16)
import Derived.Test.YtdihodboopeakaaDoorZfw2
import Derived.Test.YtdihodboopeakaaDoorProg
import Derived.Below
import Derived.Deep.Draws
import Derived.Deep.AppendLies
import Derived.Maps.AppendAt
import Derived.OwnWalk
import Derived.Laws.BytesArg
import Derived.Laws.MakeOwn
import Derived.Laws.OwnMore
import Derived.Deep.OwnRows
import Derived.Tactics
import Derived.Lib.ConvBytes
import Derived.Laws.Slices
import Derived.WalkKit
import Derived.KernelRfl
import Derived.RowKit3
import Derived.Deep.LoopGhost
import Derived.Deep.QuietTactic
import Derived.BigQuiet
import Derived.WideLaws
import Derived.Deep.DeepCutAuto
import Derived.Deep.CutBlock
import Derived.Deep.RegionHeld3
import Derived.Laws.Rows
import Derived.Lib.AppendStr
import Derived.ArgAppend
import Derived.Laws.IdiomCopy
import Derived.OrdersHeld
import Derived.Laws.BitsLemmas
import Derived.RowKit
import Derived.Lib.RuneCount
import GoSem.Core.Utf8
import Derived.Ground.NamesProg
import Derived.Shelf.Utf8.RuneCount
import Derived.Shelf.Unicode.DecodeSlow
import Derived.Shelf.Unicode.DecodeAny
import Derived.Lib.TrimUEq
import Derived.Lib.DecodeN
import Derived.Outline
namespace Go.Proofs.YtdihodboopeakaaDoor.Pr
open Go.RowKit Go.Proofs.YtdihodboopeakaaDoorW.PrintWords Go.Proofs.YtdihodboopeakaaDoorW.PrintLast Go.Proofs.YtdihodboopeakaaDoorW.PrintMore
attribute [local go_sem] max2_int min2_int max_two min_two max_three min_three max_four min_four
set_option linter.unusedVariables false
set_option linter.unusedSimpArgs false



def errW : Option Int → Value
  | none => .nilIface
  | some c => .iface 0 (.int .i64 c)
theorem errW_none : errW none = .nilIface:=rfl
theorem errW_some (c : Int) : errW (some c) = .iface 0 (.int .i64 c):=rfl

theorem info3 : (Tryd.prog.info? 3).map (fun i => (i.zero,i.size,i.bytes)) = some (some (.int .i64 0),1,8):=by kernel_rfl
theorem info4 : (Tryd.prog.info? 4).map (fun i => (i.zero,i.size,i.bytes)) = some (some (.bool false),1,1):=by kernel_rfl
theorem info9 : (Tryd.prog.info? 9).map (fun i => (i.zero,i.size,i.bytes)) = some (some (.string ⟨#[]⟩),1,16):=by kernel_rfl
theorem info31 : (Tryd.prog.info? 31).map (fun i => (i.zero,i.size,i.bytes)) = some (some (.slice none 0 0),1,24):=by kernel_rfl
-- the values' own types
def rd_L3 (xs : List (List Int)) (i : Int) : (List Int):=xs.getD i.toNat ([] : List Int)
theorem at_L3 {w : World} {A : Option Addr} {n : Nat} {xs : List (List Int)} (h : Kd.C (Kd.slice 3 (Kd.int .i64)) w A n xs) (i : Int) (h0 : 0 ≤ i) (h1 : i < n) : ∃ ad A0 c0,A = some ad ∧ w.cell? (ad.add i.toNat) = some (.slice A0 (rd_L3 xs i).length c0) ∧ (rd_L3 xs i).length ≤ c0 ∧ (Kd.int .i64).C w A0 (rd_L3 xs i).length (rd_L3 xs i):=by
  obtain ⟨ad,c,e,_,hK,hc0⟩:=Kd.C_get h ([] : List Int) i h0 h1;have hc : ∀ j u,c[j]? = some u → w.cell? (ad.add (i.toNat * 1 + j)) = some u:=hc0;obtain ⟨A0,c0,rfl,l0,g0⟩:=hK;exact ⟨ad,A0,c0,e,by have hq:=hc 0 _ rfl;rwa [Nat.mul_one,Nat.add_zero] at hq,l0,g0⟩

end Go.Proofs.YtdihodboopeakaaDoor.Pr
/- impl.oddRune and impl.goodName by hand: what they compute. -/
namespace Go.Proofs.YtdihodboopeakaaDoor.Pr
open Go.RowKit Go.Proofs.YtdihodboopeakaaDoorW.PrintWords
/-- A rune (with its width) that no name has. -/
def badRune (d : Nat × Nat) : Bool:=decide ((d.1 = 65533 ∧ d.2 = 1) ∨ (d.1 < 128 ∧ ¬ ((97 ≤ d.1 ∧ d.1 ≤ 122) ∨ (65 ≤ d.1 ∧ d.1 ≤ 90))))
def oddFrom (s : ByteArray) : Nat → Nat → Int
  | 0,_ => -1
  | f + 1,pos => if pos < s.size then (if badRune (Utf8.decode s pos) = true then (pos : Int) else oddFrom s f (pos + (Utf8.decode s pos).2)) else -1
def oddOf (s : ByteArray) : Int:=oddFrom s s.size 0
def impl_oddRune.f (s : ByteArray) : Option Int:=if s.size ≤ 140737488355328 then some (oddOf s) else none
def impl_goodName.f (s : ByteArray) : Option Bool:=if s.size ≤ 140737488355328 then some (decide (1 ≤ Lib.runeCount s ∧ Lib.runeCount s ≤ 12 ∧ oddOf s < 0)) else none
end Go.Proofs.YtdihodboopeakaaDoor.Pr
namespace Go.Proofs.YtdihodboopeakaaDoor.Pr
open Go.RowKit Go.Proofs.YtdihodboopeakaaDoorW.PrintWords Go.Proofs.YtdihodboopeakaaDoorW.PrintLast Go.Proofs.YtdihodboopeakaaDoorW.PrintMore
attribute [local go_sem] max2_int min2_int max_two min_two max_three min_three max_four min_four
set_option linter.unusedVariables false
set_option linter.unusedSimpArgs false

/-! ### laws_szStringS: function 47 -/
/-! ### laws_szBoolS: function 48 -/
/-! ### laws_szIntS: function 86 -/
/-! ### laws_szIntSS: function 49 -/
/-! ### laws_szBoard: function 12 -/
/-! ### laws_toStringS: function 52 -/
/-! ### laws_toBoolS: function 53 -/
/-! ### laws_toIntS: function 37 -/
/-! ### laws_toIntSS: function 54 -/
/-! ### laws_toBoard: function 15 -/
/-! ### laws_eqStringS: function 57 -/
/-! ### laws_eqBoolS: function 58 -/
/-! ### laws_eqIntS: function 18 -/
/-! ### laws_eqIntSS: function 59 -/
/-! ### laws_eqBoard: function 19 -/
/-! ### spec_l22Rune: function 91 -/
mutual
def spec_l22Rune.j3 : Nat → ByteArray → Int → Int → Int → Int → Option (Int)
  | 0,_,_,_,_,_ => none
  | k + 1,x0,x1,x6,x7,x8 => spec_l22Rune.l0 k x0 x1 x6 x7 x8 1
def spec_l22Rune.l0 : Nat → ByteArray → Int → Int → Int → Int → Int → Option (Int)
  | 0,_,_,_,_,_,_ => none
  | k + 1,x0,x1,x6,x7,x8,x9 => if x9 < x6 then (if (wrap64 (x1 + x9)) ≥ (x0.size : Int) then (some 0) else (if 0 ≤ (wrap64 (x1 + x9)) then (if (wrap64 (x1 + x9)) < (x0.size : Int) then (if (wrap64 (bt x0 (wrap64 (x1 + x9)))) < x7 then (some 0) else (if (wrap64 (bt x0 (wrap64 (x1 + x9)))) > x8 then (some 0) else (spec_l22Rune.l0 k x0 x1 x6 128 191 (wrap64 (x9 + 1))))) else (none)) else (none))) else (some x6)
def spec_l22Rune.j0 : Nat → ByteArray → Int → Int → Int → Int → Bool → Option (Int)
  | 0,_,_,_,_,_,_ => none
  | k + 1,x0,x1,x5,x7,x8,x18 => if x18 = true then (spec_l22Rune.j3 k x0 x1 2 x7 x8) else (if x5 ≥ 224 then (spec_l22Rune.j1 k x0 x1 x5 x7 x8 (decide (x5 ≤ 239))) else (spec_l22Rune.j1 k x0 x1 x5 x7 x8 false))
def spec_l22Rune.j1 : Nat → ByteArray → Int → Int → Int → Int → Bool → Option (Int)
  | 0,_,_,_,_,_,_ => none
  | k + 1,x0,x1,x5,x7,x8,x25 => if x25 = true then (if x5 = 224 then (if x5 = 237 then (spec_l22Rune.j3 k x0 x1 3 160 159) else (spec_l22Rune.j3 k x0 x1 3 160 x8)) else (if x5 = 237 then (spec_l22Rune.j3 k x0 x1 3 x7 159) else (spec_l22Rune.j3 k x0 x1 3 x7 x8))) else (if x5 ≥ 240 then (spec_l22Rune.j2 k x0 x1 x5 x7 x8 (decide (x5 ≤ 244))) else (spec_l22Rune.j2 k x0 x1 x5 x7 x8 false))
def spec_l22Rune.j2 : Nat → ByteArray → Int → Int → Int → Int → Bool → Option (Int)
  | 0,_,_,_,_,_,_ => none
  | k + 1,x0,x1,x5,x7,x8,x36 => if x36 = true then (if x5 = 240 then (if x5 = 244 then (spec_l22Rune.j3 k x0 x1 4 144 143) else (spec_l22Rune.j3 k x0 x1 4 144 x8)) else (if x5 = 244 then (spec_l22Rune.j3 k x0 x1 4 x7 143) else (spec_l22Rune.j3 k x0 x1 4 x7 x8))) else (some 0)
end
def spec_l22Rune.f (k : Nat) (a0 : ByteArray) (a1 : Int) : Option (Int):=if 0 ≤ a1 then (if a1 < (a0.size : Int) then (if (wrap64 (bt a0 a1)) < 128 then (some 1) else (if (wrap64 (bt a0 a1)) ≥ 194 then (spec_l22Rune.j0 k a0 a1 (wrap64 (bt a0 a1)) 128 191 (decide ((wrap64 (bt a0 a1)) ≤ 223))) else (spec_l22Rune.j0 k a0 a1 (wrap64 (bt a0 a1)) 128 191 false))) else (none)) else (none)
/-! ### spec_l22Letter: function 92 -/
def spec_l22Letter.f (a0 : Int) : Option (Bool):=if a0 ≥ 97 then (if a0 ≤ 122 then (some true) else (if a0 ≥ 65 then (some (decide (a0 ≤ 90))) else (some false))) else (if a0 ≥ 65 then (some (decide (a0 ≤ 90))) else (some false))

/-! ### spec_l22Odd: function 67 -/
def spec_l22Odd.l0 : Nat → ByteArray → Int → Int → Option (Int × Int)
  | 0,_,_,_ => none
  | k + 1,x0,x4,x5 => if x5 < (x0.size : Int) then ((spec_l22Rune.f k x0 x5).bind fun t157 => (if t157 = 0 then (some (x5,0)) else (if t157 = 1 then (if 0 ≤ x5 then ((spec_l22Letter.f (bt x0 x5)).bind fun t158 => (if t158 = true then (spec_l22Odd.l0 k x0 (wrap64 (x4 + 1)) (wrap64 (x5 + t157))) else (some (x5,0)))) else (none)) else (spec_l22Odd.l0 k x0 (wrap64 (x4 + 1)) (wrap64 (x5 + t157)))))) else (some ((-1),x4))
def spec_l22Odd.f (k : Nat) (a0 : ByteArray) : Option (Int × Int):=spec_l22Odd.l0 k a0 0 0
/-! ### spec_l22Name: function 64 -/
def spec_l22Name.f (k : Nat) (a0 : ByteArray) : Option (Bool):=(spec_l22Odd.f k a0).bind fun bt159 => (if bt159.1 < 0 then (if bt159.2 ≥ 1 then (some (decide (bt159.2 ≤ 12))) else (some false)) else (some false))
/-! ### spec_GoodBoard: function 27 -/
mutual
def spec_GoodBoard.j0 : Nat → Int → Bool → List ByteArray → List Bool → List (List Int) → Option (Bool)
  | 0,_,_,_,_,_ => none
  | k + 1,x3,x30,x162000,x162001,x162002 => if x30 = true then (some false) else (spec_GoodBoard.l0 k x3 x162000 (x162000.length : Int) 0 x162000 x162001 x162002)
def spec_GoodBoard.l0 : Nat → Int → List ByteArray → Int → Int → List ByteArray → List Bool → List (List Int) → Option (Bool)
  | 0,_,_,_,_,_,_,_ => none
  | k + 1,x3,x32,x33,x34,x162000,x162001,x162002 => if x34 < x33 then (if 0 ≤ x34 then (if x34 < (x32.length : Int) then (if (rdOf ByteArray.empty x32 x34).toList = ([] : List UInt8) then (spec_GoodBoard.j2 k x3 x34 x32 x33 x34 false x162000 x162001 x162002) else ((spec_l22Name.f k (rdOf ByteArray.empty x32 x34)).bind fun t163 => (spec_GoodBoard.j2 k x3 x34 x32 x33 x34 (!t163) x162000 x162001 x162002))) else (none)) else (none)) else (some true)
def spec_GoodBoard.j2 : Nat → Int → Int → List ByteArray → Int → Int → Bool → List ByteArray → List Bool → List (List Int) → Option (Bool)
  | 0,_,_,_,_,_,_,_,_,_ => none
  | k + 1,x3,x4,x32,x33,x34,x45,x162000,x162001,x162002 => if x45 = true then (some false) else (if 0 ≤ x4 then (if x4 < (x162002.length : Int) then (spec_GoodBoard.l1 k x3 x4 x32 x33 x34 (rd_L3 x162002 x4) ((rd_L3 x162002 x4).length : Int) 0 x162000 x162001 x162002) else (none)) else (none))
def spec_GoodBoard.l1 : Nat → Int → Int → List ByteArray → Int → Int → List Int → Int → Int → List ByteArray → List Bool → List (List Int) → Option (Bool)
  | 0,_,_,_,_,_,_,_,_,_,_,_ => none
  | k + 1,x3,x4,x32,x33,x34,x50,x51,x52,x162000,x162001,x162002 => if x52 < x51 then (if 0 ≤ x52 then (if x52 < (x50.length : Int) then (if (rd x50 x52) < 0 then (some false) else (if (rd x50 x52) ≥ x3 then (some false) else (if x52 > 0 then (if 0 ≤ x4 then (if x4 < (x162002.length : Int) then (if 0 ≤ (wrap64 (x52 - 1)) then (if (wrap64 (x52 - 1)) < ((rd_L3 x162002 x4).length : Int) then (if (rd (rd_L3 x162002 x4) (wrap64 (x52 - 1))) ≥ (rd x50 x52) then (some false) else (spec_GoodBoard.l1 k x3 x4 x32 x33 x34 x50 x51 (wrap64 (x52 + 1)) x162000 x162001 x162002)) else (none)) else (none)) else (none)) else (none)) else (spec_GoodBoard.l1 k x3 x4 x32 x33 x34 x50 x51 (wrap64 (x52 + 1)) x162000 x162001 x162002)))) else (none)) else (none)) else (spec_GoodBoard.l0 k x3 x32 x33 (wrap64 (x34 + 1)) x162000 x162001 x162002)
end
def spec_GoodBoard.f (k : Nat) (l0_0 : List ByteArray) (l0_1 : List Bool) (l0_2 : List (List Int)) : Option (Bool):=if (l0_0.length : Int) < 1 then (spec_GoodBoard.j0 k (l0_0.length : Int) true l0_0 l0_1 l0_2) else (if (l0_0.length : Int) > 14 then (spec_GoodBoard.j0 k (l0_0.length : Int) true l0_0 l0_1 l0_2) else (if (l0_1.length : Int) = (l0_0.length : Int) then (spec_GoodBoard.j0 k (l0_0.length : Int) ((l0_2.length : Int) != (l0_0.length : Int)) l0_0 l0_1 l0_2) else (spec_GoodBoard.j0 k (l0_0.length : Int) true l0_0 l0_1 l0_2)))
end Go.Proofs.YtdihodboopeakaaDoor.Pr
namespace Go.Proofs.YtdihodboopeakaaDoor.Pr
open Go.RowKit Go.Proofs.YtdihodboopeakaaDoorW.PrintWords Go.Proofs.YtdihodboopeakaaDoorW.PrintLast Go.Proofs.YtdihodboopeakaaDoorW.PrintMore
attribute [local go_sem] max2_int min2_int max_two min_two max_three min_three max_four min_four
set_option linter.unusedVariables false
set_option linter.unusedSimpArgs false

/-! ### impl_GoodBoard: function 28 -/
mutual
def impl_GoodBoard.j0 : Nat → Int → Bool → List ByteArray → List Bool → List (List Int) → Option (Bool)
  | 0,_,_,_,_,_ => none
  | k + 1,x3,x30,x169000,x169001,x169002 => if x30 = true then (some false) else (impl_GoodBoard.l0 k x3 x169000 (x169000.length : Int) 0 x169000 x169001 x169002)
def impl_GoodBoard.l0 : Nat → Int → List ByteArray → Int → Int → List ByteArray → List Bool → List (List Int) → Option (Bool)
  | 0,_,_,_,_,_,_,_ => none
  | k + 1,x3,x32,x33,x34,x169000,x169001,x169002 => if x34 < x33 then (if 0 ≤ x34 then (if x34 < (x32.length : Int) then (if (rdOf ByteArray.empty x32 x34).toList = ([] : List UInt8) then (if x34 < (x169002.length : Int) then (impl_GoodBoard.j2 k x3 x34 x32 x33 x34 (decide (((rd_L3 x169002 x34).length : Int) > 14)) x169000 x169001 x169002) else (none)) else ((impl_goodName.f (rdOf ByteArray.empty x32 x34)).bind fun t171 => (if t171 = true then (if x34 < (x169002.length : Int) then (impl_GoodBoard.j2 k x3 x34 x32 x33 x34 (decide (((rd_L3 x169002 x34).length : Int) > 14)) x169000 x169001 x169002) else (none)) else (impl_GoodBoard.j2 k x3 x34 x32 x33 x34 true x169000 x169001 x169002)))) else (none)) else (none)) else (some true)
def impl_GoodBoard.j2 : Nat → Int → Int → List ByteArray → Int → Int → Bool → List ByteArray → List Bool → List (List Int) → Option (Bool)
  | 0,_,_,_,_,_,_,_,_,_ => none
  | k + 1,x3,x4,x32,x33,x34,x54,x169000,x169001,x169002 => if x54 = true then (some false) else (if 0 ≤ x4 then (if x4 < (x169002.length : Int) then (impl_GoodBoard.l1 k x3 x4 x32 x33 x34 (rd_L3 x169002 x4) ((rd_L3 x169002 x4).length : Int) 0 x169000 x169001 x169002) else (none)) else (none))
def impl_GoodBoard.l1 : Nat → Int → Int → List ByteArray → Int → Int → List Int → Int → Int → List ByteArray → List Bool → List (List Int) → Option (Bool)
  | 0,_,_,_,_,_,_,_,_,_,_,_ => none
  | k + 1,x3,x4,x32,x33,x34,x59,x60,x61,x169000,x169001,x169002 => if x61 < x60 then (if 0 ≤ x61 then (if x61 < (x59.length : Int) then (if (rd x59 x61) < 0 then (some false) else (if (rd x59 x61) ≥ x3 then (some false) else (if x61 > 0 then (if 0 ≤ x4 then (if x4 < (x169002.length : Int) then (if 0 ≤ (wrap64 (x61 - 1)) then (if (wrap64 (x61 - 1)) < ((rd_L3 x169002 x4).length : Int) then (if (rd x59 x61) ≤ (rd (rd_L3 x169002 x4) (wrap64 (x61 - 1))) then (some false) else (impl_GoodBoard.l1 k x3 x4 x32 x33 x34 x59 x60 (wrap64 (x61 + 1)) x169000 x169001 x169002)) else (none)) else (none)) else (none)) else (none)) else (impl_GoodBoard.l1 k x3 x4 x32 x33 x34 x59 x60 (wrap64 (x61 + 1)) x169000 x169001 x169002)))) else (none)) else (none)) else (impl_GoodBoard.l0 k x3 x32 x33 (wrap64 (x34 + 1)) x169000 x169001 x169002)
end
def impl_GoodBoard.f (k : Nat) (l0_0 : List ByteArray) (l0_1 : List Bool) (l0_2 : List (List Int)) : Option (Bool):=if (l0_0.length : Int) < 1 then (impl_GoodBoard.j0 k (l0_0.length : Int) true l0_0 l0_1 l0_2) else (if (l0_0.length : Int) > 14 then (impl_GoodBoard.j0 k (l0_0.length : Int) true l0_0 l0_1 l0_2) else (if (l0_1.length : Int) = (l0_0.length : Int) then (impl_GoodBoard.j0 k (l0_0.length : Int) ((l0_2.length : Int) != (l0_0.length : Int)) l0_0 l0_1 l0_2) else (impl_GoodBoard.j0 k (l0_0.length : Int) true l0_0 l0_1 l0_2)))
/-! ### laws_FnExactGoodBoard: function 5 -/
/-! ### laws_szWish: function 13 -/
/-! ### laws_toWish: function 16 -/
/-! ### laws_eqWish: function 20 -/
/-! ### spec_l22In: function 68 -/
def spec_l22In.l0 : Nat → ByteArray → List ByteArray → Int → Int → Option (Bool)
  | 0,_,_,_,_ => none
  | k + 1,x1,x7,x8,x9 => if x9 < x8 then (if 0 ≤ x9 then (if x9 < (x7.length : Int) then (if (rdOf ByteArray.empty x7 x9).toList = x1.toList then (some true) else (spec_l22In.l0 k x1 x7 x8 (wrap64 (x9 + 1)))) else (none)) else (none)) else (some false)
def spec_l22In.f (k : Nat) (l0 : List ByteArray) (a1 : ByteArray) : Option (Bool):=spec_l22In.l0 k a1 l0 (l0.length : Int) 0
/-! ### spec_l22Names: function 87 -/
def spec_l22Names.l0 : Nat → List ByteArray → List ByteArray → Int → Int → Option (Bool)
  | 0,_,_,_,_ => none
  | k + 1,x0,x8,x9,x10 => if x10 < x9 then (if 0 ≤ x10 then (if x10 < (x8.length : Int) then ((spec_l22Name.f k (rdOf ByteArray.empty x8 x10)).bind fun t228 => (if t228 = true then (if x10 ≤ (x0.length : Int) then ((spec_l22In.f k (x0.take (x10 : Int).toNat) (rdOf ByteArray.empty x8 x10)).bind fun t230 => (if t230 = true then (some false) else (spec_l22Names.l0 k x0 x8 x9 (wrap64 (x10 + 1))))) else (none)) else (some false))) else (none)) else (none)) else (some true)
def spec_l22Names.f (k : Nat) (l0 : List ByteArray) : Option (Bool):=if (l0.length : Int) > 6 then (some false) else (spec_l22Names.l0 k l0 l0 (l0.length : Int) 0)
/-! ### spec_l22Good: function 50 -/
def spec_l22Good.f (k : Nat) (l0_0 : List ByteArray) (l0_1 : List ByteArray) : Option (Bool):=(spec_l22Names.f k l0_0).bind fun t232 => (if t232 = true then ((spec_l22Names.f k l0_1).bind fun t233 => (some t233)) else (some false))
/-! ### spec_WishMet: function 36 -/
mutual
def spec_WishMet.j0 : Nat → List Int → Bool → List ByteArray → List Bool → List (List Int) → List ByteArray → List ByteArray → Option (Bool × Bool)
  | 0,_,_,_,_,_,_,_ => none
  | k + 1,x2,x32,x235000,x235001,x235002,x236000,x236001 => if x32 = true then (some (false,false)) else (spec_WishMet.l0 k x2 x2 (x2.length : Int) 0 x235000 x235001 x235002 x236000 x236001)
def spec_WishMet.l0 : Nat → List Int → List Int → Int → Int → List ByteArray → List Bool → List (List Int) → List ByteArray → List ByteArray → Option (Bool × Bool)
  | 0,_,_,_,_,_,_,_,_,_ => none
  | k + 1,x2,x33,x34,x35,x235000,x235001,x235002,x236000,x236001 => if x35 < x34 then (if 0 ≤ x35 then (if x35 < (x33.length : Int) then (if (rd x33 x35) < 0 then (spec_WishMet.j2 k x2 x35 (rd x33 x35) x33 x34 x35 true x235000 x235001 x235002 x236000 x236001) else (spec_WishMet.j2 k x2 x35 (rd x33 x35) x33 x34 x35 (decide ((rd x33 x35) ≥ (x235000.length : Int))) x235000 x235001 x235002 x236000 x236001)) else (none)) else (none)) else (spec_WishMet.l2 k x2 (x2.length : Int) 0 x235000 x235001 x235002 x236000 x236001)
def spec_WishMet.j2 : Nat → List Int → Int → Int → List Int → Int → Int → Bool → List ByteArray → List Bool → List (List Int) → List ByteArray → List ByteArray → Option (Bool × Bool)
  | 0,_,_,_,_,_,_,_,_,_,_,_,_ => none
  | k + 1,x2,x8,x9,x33,x34,x35,x48,x235000,x235001,x235002,x236000,x236001 => if x48 = true then (some (false,false)) else (if x8 = 0 then (spec_WishMet.l0 k x2 x33 x34 (wrap64 (x35 + 1)) x235000 x235001 x235002 x236000 x236001) else (if 0 ≤ (wrap64 (x8 - 1)) then (if (wrap64 (x8 - 1)) < (x2.length : Int) then (if 0 ≤ (rd x2 (wrap64 (x8 - 1))) then (if (rd x2 (wrap64 (x8 - 1))) < (x235002.length : Int) then (spec_WishMet.l1 k x2 x9 false x33 x34 x35 (rd_L3 x235002 (rd x2 (wrap64 (x8 - 1)))) ((rd_L3 x235002 (rd x2 (wrap64 (x8 - 1)))).length : Int) 0 x235000 x235001 x235002 x236000 x236001) else (none)) else (none)) else (none)) else (none)))
def spec_WishMet.l1 : Nat → List Int → Int → Bool → List Int → Int → Int → List Int → Int → Int → List ByteArray → List Bool → List (List Int) → List ByteArray → List ByteArray → Option (Bool × Bool)
  | 0,_,_,_,_,_,_,_,_,_,_,_,_,_,_ => none
  | k + 1,x2,x9,x10,x33,x34,x35,x59,x60,x61,x235000,x235001,x235002,x236000,x236001 => if x61 < x60 then (if 0 ≤ x61 then (if x61 < (x59.length : Int) then (if x10 = true then (spec_WishMet.l1 k x2 x9 true x33 x34 x35 x59 x60 (wrap64 (x61 + 1)) x235000 x235001 x235002 x236000 x236001) else (spec_WishMet.l1 k x2 x9 ((rd x59 x61) == x9) x33 x34 x35 x59 x60 (wrap64 (x61 + 1)) x235000 x235001 x235002 x236000 x236001)) else (none)) else (none)) else (if x10 = true then (spec_WishMet.l0 k x2 x33 x34 (wrap64 (x35 + 1)) x235000 x235001 x235002 x236000 x236001) else (some (false,false)))
def spec_WishMet.l2 : Nat → List Int → Int → Int → List ByteArray → List Bool → List (List Int) → List ByteArray → List ByteArray → Option (Bool × Bool)
  | 0,_,_,_,_,_,_,_,_ => none
  | k + 1,x75,x76,x77,x235000,x235001,x235002,x236000,x236001 => if x77 < x76 then (if 0 ≤ x77 then (if x77 < (x75.length : Int) then (if 0 ≤ (rd x75 x77) then (if (rd x75 x77) < (x235000.length : Int) then ((spec_l22In.f k x236001 (rdOf ByteArray.empty x235000 (rd x75 x77))).bind fun t244 => (if t244 = true then (some (false,true)) else ((spec_l22In.f k x236000 (rdOf ByteArray.empty x235000 (rd x75 x77))).bind fun t246 => (if t246 = true then (some (true,true)) else (spec_WishMet.l2 k x75 x76 (wrap64 (x77 + 1)) x235000 x235001 x235002 x236000 x236001))))) else (none)) else (none)) else (none)) else (none)) else (some (((x236000.length : Int) == 0),true))
end
def spec_WishMet.f (k : Nat) (l0_0 : List ByteArray) (l0_1 : List Bool) (l0_2 : List (List Int)) (l1_0 : List ByteArray) (l1_1 : List ByteArray) (l2 : List Int) : Option (Bool × Bool):=(spec_GoodBoard.f k l0_0 l0_1 l0_2).bind fun t236 => (if t236 = true then ((spec_l22Good.f k l1_0 l1_1).bind fun t237 => (if t237 = true then (if (l2.length : Int) < 1 then (spec_WishMet.j0 k l2 true l0_0 l0_1 l0_2 l1_0 l1_1) else (spec_WishMet.j0 k l2 (decide ((l2.length : Int) > 60)) l0_0 l0_1 l0_2 l1_0 l1_1)) else (spec_WishMet.j0 k l2 true l0_0 l0_1 l0_2 l1_0 l1_1))) else (spec_WishMet.j0 k l2 true l0_0 l0_1 l0_2 l1_0 l1_1))
/-! ### slices_Index_string_string: function 94 -/
def slices_Index_string_string.l0 : Nat → List ByteArray → ByteArray → Int → Int → Option (Int)
  | 0,_,_,_,_ => none
  | k + 1,x0,x1,x7,x8 => if x8 < x7 then (if 0 ≤ x8 then (if x8 < (x0.length : Int) then (if x1.toList = (rdOf ByteArray.empty x0 x8).toList then (some x8) else (slices_Index_string_string.l0 k x0 x1 x7 (wrap64 (x8 + 1)))) else (none)) else (none)) else (some (-1))
def slices_Index_string_string.f (k : Nat) (l0 : List ByteArray) (a1 : ByteArray) : Option (Int):=slices_Index_string_string.l0 k l0 a1 (l0.length : Int) 0
/-! ### slices_Contains_string_string: function 73 -/
def slices_Contains_string_string.f (k : Nat) (l0 : List ByteArray) (a1 : ByteArray) : Option (Bool):=(slices_Index_string_string.f k l0 a1).bind fun t248 => (some (decide (t248 ≥ 0)))
end Go.Proofs.YtdihodboopeakaaDoor.Pr
/-
  DERIVED: THE SHELF's CONTRACTS AT THIS DUMP,IN PLAIN WORDS (tools/lay-plain.mjs out of 'YtdihodboopeakaaDoorSxa.lean',which tools/lay-shelf.mjs wrote): THE SAME DECLARATIONS UNDER THE SAME NAMES: 'import','namespace','open','def','theorem' AND NOTHING ELSE: no command of the shelf's: FOR A HAND-IN. Each laying: the table of numbers ('.._ren') and one theorem,a field a fact of the dump's own or the kernel's comparison;each contract: ONE APPLICATION.
-/
namespace Go.Proofs
open Go.Shelf
def Tryd.lays195_ren : Go.Shelf.Ren:=⟨fun | 195 => 72 | n => n,fun | 9 => 9 | 3 => 3 | 0 => 0 | 4 => 4 | n => n,fun | n => n⟩
theorem Tryd.lays195 : Go.Proofs.Lays.n195 Tryd.prog Tryd.lays195_ren:={
  mixed:=by kernel_rfl
  f195:=Tryd.func72.trans (congrArg some (by kernel_rfl))
  t0:=Tryd.underlying0
  a0:=Tryd.isAgg0
  z0:=Tryd.sizeOf0
  v0:=Tryd.zeroValue0
  t3:=Tryd.underlying3
  a3:=Tryd.isAgg3
  z3:=Tryd.sizeOf3
  v3:=Tryd.zeroValue3
  t4:=Tryd.underlying4
  a4:=Tryd.isAgg4
  z4:=Tryd.sizeOf4
  v4:=Tryd.zeroValue4
  t9:=Tryd.underlying9
  a9:=Tryd.isAgg9
  z9:=Tryd.sizeOf9
  v9:=Tryd.zeroValue9 }
open Go.RowKit in
theorem Tryd.utf8_RuneCountInString (s : ByteArray) (w : World) (hs : s.size < 9223372036854775807) :
    Calls Tryd.prog 72 #[.string s] w fun e w' => e = .returned (.int .i64 (Lib.runeCount s)) ∧ ∃ pos,w' = w.iter s pos:=Any.utf8_RuneCountInString Tryd.lays195 s w hs
def Tryd.lays197_ren : Go.Shelf.Ren:=⟨fun | 197 => 93 | 260 => 104 | n => n,fun | 9 => 9 | 21 => 21 | 3 => 3 | 4 => 4 | 5 => 5 | 105 => 109 | 119 => 128 | 0 => 0 | 46 => 126 | 139 => 131 | 138 => 130 | n => n,fun | 3 => 0 | 4 => 1 | n => n⟩
theorem Tryd.lays197 : Go.Proofs.Lays.n197 Tryd.prog Tryd.lays197_ren:={
  mixed:=by kernel_rfl
  f197:=Tryd.func93.trans (congrArg some (by kernel_rfl))
  f260:=Tryd.func104.trans (congrArg some (by kernel_rfl))
  t0:=Tryd.underlying0
  a0:=Tryd.isAgg0
  z0:=Tryd.sizeOf0
  v0:=Tryd.zeroValue0
  t3:=Tryd.underlying3
  a3:=Tryd.isAgg3
  z3:=Tryd.sizeOf3
  v3:=Tryd.zeroValue3
  t4:=Tryd.underlying4
  a4:=Tryd.isAgg4
  z4:=Tryd.sizeOf4
  v4:=Tryd.zeroValue4
  t5:=Tryd.underlying5
  a5:=Tryd.isAgg5
  z5:=Tryd.sizeOf5
  v5:=Tryd.zeroValue5
  t9:=Tryd.underlying9
  a9:=Tryd.isAgg9
  z9:=Tryd.sizeOf9
  v9:=Tryd.zeroValue9
  t21:=Tryd.underlying21
  a21:=Tryd.isAgg21
  z21:=Tryd.sizeOf21
  v21:=Tryd.zeroValue21
  t46:=Tryd.underlying126
  a46:=Tryd.isAgg126
  z46:=Tryd.sizeOf126
  v46:=Tryd.zeroValue126
  t105:=Tryd.underlying109
  a105:=Tryd.isAgg109
  z105:=Tryd.sizeOf109
  v105:=Tryd.zeroValue109
  t119:=Tryd.underlying128
  a119:=Tryd.isAgg128
  z119:=Tryd.sizeOf128
  t138:=Tryd.underlying130
  a138:=Tryd.isAgg130
  z138:=Tryd.sizeOf130
  v138:=Tryd.zeroValue130
  t139:=Tryd.underlying131
  a139:=Tryd.isAgg131
  z139:=Tryd.sizeOf131
  v139:=Tryd.zeroValue131
  g3:=by kernel_rfl
  g4:=by kernel_rfl }
def Tryd.lays260_ren : Go.Shelf.Ren:=⟨fun | 260 => 104 | n => n,fun | 9 => 9 | 21 => 21 | 3 => 3 | 4 => 4 | 5 => 5 | 119 => 128 | 0 => 0 | 46 => 126 | 139 => 131 | 138 => 130 | n => n,fun | 3 => 0 | 4 => 1 | n => n⟩
theorem Tryd.lays260 : Go.Proofs.Lays.n260 Tryd.prog Tryd.lays260_ren:={
  mixed:=by kernel_rfl
  f260:=Tryd.func104.trans (congrArg some (by kernel_rfl))
  t0:=Tryd.underlying0
  a0:=Tryd.isAgg0
  z0:=Tryd.sizeOf0
  v0:=Tryd.zeroValue0
  t3:=Tryd.underlying3
  a3:=Tryd.isAgg3
  z3:=Tryd.sizeOf3
  v3:=Tryd.zeroValue3
  t4:=Tryd.underlying4
  a4:=Tryd.isAgg4
  z4:=Tryd.sizeOf4
  v4:=Tryd.zeroValue4
  t5:=Tryd.underlying5
  a5:=Tryd.isAgg5
  z5:=Tryd.sizeOf5
  v5:=Tryd.zeroValue5
  t9:=Tryd.underlying9
  a9:=Tryd.isAgg9
  z9:=Tryd.sizeOf9
  v9:=Tryd.zeroValue9
  t21:=Tryd.underlying21
  a21:=Tryd.isAgg21
  z21:=Tryd.sizeOf21
  v21:=Tryd.zeroValue21
  t46:=Tryd.underlying126
  a46:=Tryd.isAgg126
  z46:=Tryd.sizeOf126
  v46:=Tryd.zeroValue126
  t119:=Tryd.underlying128
  a119:=Tryd.isAgg128
  z119:=Tryd.sizeOf128
  t138:=Tryd.underlying130
  a138:=Tryd.isAgg130
  z138:=Tryd.sizeOf130
  v138:=Tryd.zeroValue130
  t139:=Tryd.underlying131
  a139:=Tryd.isAgg131
  z139:=Tryd.sizeOf131
  v139:=Tryd.zeroValue131
  g3:=by kernel_rfl
  g4:=by kernel_rfl }
open Go.RowKit Go.Lib in
theorem Tryd.utf8_DecodeRuneInString (s : ByteArray) (w : World) (hT : Lib.Utf8Tabs 0 1 w) :
    Calls Tryd.prog 93 #[.string s] w fun e w' => e = .returned (.tuple #[.int .i32 (Lib.decodeGo s).1,.int .i64 (Lib.decodeGo s).2]) ∧ Below w.heap.size w w':=Any.utf8_DecodeRuneInString Tryd.lays197 s w hT
end Go.Proofs
/- impl.oddRune and impl.goodName by hand: the walks, over the library's own functions by their contracts. -/
namespace Go.Proofs.YtdihodboopeakaaDoor.Pr
open Go.RowKit Go.Proofs.YtdihodboopeakaaDoorW.PrintWords Go.Proofs.YtdihodboopeakaaDoorW.PrintLast Go.Proofs.YtdihodboopeakaaDoorW.PrintMore
set_option linter.unusedVariables false
set_option linter.unusedSimpArgs false
/-- Go's two tables of UTF-8 lie as its text lays them. -/
def Tabs (w : World) : Prop:=Lib.Utf8Tabs 0 1 w
theorem Tabs.below {w W : World} (h : Tabs w) (hb : Below w.heap.size w W) : Tabs W:=
  ⟨fun c hc => (hb.cell (World.block_lt_of_cell? w _ (h.1 c hc))).trans (h.1 c hc),fun i hi => ⟨(hb.cell (World.block_lt_of_cell? w _ (h.2 i hi).1)).trans (h.2 i hi).1,(hb.cell (World.block_lt_of_cell? w _ (h.2 i hi).2)).trans (h.2 i hi).2⟩⟩
theorem tb_ {w W : World} (h : Aside0 (Tabs w)) (hb : Below w.heap.size w W:=by repeat (first | (with_reducible first | exact HB.out | exact Below.refl _ _ | apply below_alloc | apply pw_below_drewN | apply below_drew1 | refine below_set ?_ (Aside0.out (by assumption))) | exact HB.out)) : Tabs W:=h.out.below hb
theorem decode_go (s : ByteArray) (i : Nat) (h : i < s.size) : Lib.decodeGo (s.extract i s.size) = Utf8.decode s i:=by
  have e : (s.extract i s.size).data.toList = s.data.toList.drop i:=by
    have:=Lib.extract_toList s i s.size;rw [Lib.toList_data] at this;rw [this,List.take_of_length_le (by rw [List.length_drop,← Lib.size_eq];omega)]
  unfold Lib.decodeGo;rw [if_neg (by rw [ByteArray.size_extract];omega)];have h2:=Lib.decodeL_drop s i;rw [← e] at h2;rw [← h2];unfold Lib.decodeL
  rfl
theorem decode_w (s : ByteArray) (i : Nat) : 1 ≤ (Utf8.decode s i).2 ∧ (Utf8.decode s i).2 ≤ 4:=by
  rw [Lib.decode_at];generalize (s.get! i).toNat = b0;generalize (s.get! (i + 1)).toNat = b1;generalize (s.get! (i + 2)).toNat = b2;generalize (s.get! (i + 3)).toNat = b3;unfold Lib.decodeN
  repeat' split
  all_goals simp
theorem oddFrom_more (s : ByteArray) : ∀ (f g pos : Nat),s.size - pos ≤ f → s.size - pos ≤ g → oddFrom s f pos = oddFrom s g pos:=by
  intro f
  induction f with
  | zero =>
    intro g pos hf _
    cases g with
    | zero => rfl
    | succ g => simp only [oddFrom];rw [if_neg (by omega)]
  | succ f ih =>
    intro g pos hf hg
    cases g with
    | zero => simp only [oddFrom];rw [if_neg (by omega)]
    | succ g =>
      simp only [oddFrom];by_cases h : pos < s.size
      · rw [if_pos h,if_pos h]
        have:=decode_w s pos;rw [ih g _ (by omega) (by omega)]
      · rw [if_neg h,if_neg h]
theorem odd_step (s : ByteArray) (i : Nat) (hi : i < s.size) (r : Int) (h : oddFrom s (s.size - i) i = r) :
    (badRune (Utf8.decode s i) = true → r = i) ∧ (badRune (Utf8.decode s i) = false → oddFrom s (s.size - (i + (Utf8.decode s i).2)) (i + (Utf8.decode s i).2) = r):=by
  have hw:=decode_w s i;have e : oddFrom s (s.size - i) i = oddFrom s ((s.size - (i + 1)) + 1) i:=oddFrom_more s _ _ _ (Nat.le_refl _) (by omega);rw [e] at h;simp only [oddFrom] at h;rw [if_pos hi] at h
  constructor
  · intro hb;rw [if_pos hb] at h;exact h.symm
  · intro hb
    rw [if_neg (by rw [hb];decide)] at h;rw [← h];exact oddFrom_more s _ _ _ (by omega) (by omega)
set_option maxHeartbeats 2000000 in
set_option maxRecDepth 100000 in
theorem odd_walk (s : ByteArray) (w : World) (hs : s.size ≤ 140737488355328) (ht : Tabs w) :
    Calls Tryd.prog 70 #[.string s] w fun e w' => e = .returned (.int .i64 (oddOf s)) ∧ Below w.heap.size w w':=by
  have HS:=Aside0.mk hs;have HT:=Aside0.mk ht;clear ht;obtain ⟨r,hr⟩ : ∃ r,oddOf s = r:=⟨_,rfl⟩;rw [hr];have HR:=Aside0.mk hr;clear hr;go_enter Tryd.func70,Tryd.ntmps70;go_wp2_with fail
  go_loopg [3] s.size (fun g v3 w' => ∃ i : Nat,v3 = .int .i64 i ∧ Aside0 (i + g = s.size ∨ (s.size ≤ i ∧ g = 0)) ∧ Aside0 (i ≤ s.size + 4) ∧ Aside0 (oddFrom s (s.size - i) i = r) ∧ Aside0 (Below w.heap.size w w'))
  case atStart => exact ⟨0,rfl,⟨.inl (Nat.zero_add _)⟩,⟨Nat.zero_le _⟩,HR,⟨Below.refl _ _⟩⟩
  case round =>
   obtain ⟨i,rfl,HG,HI,HO,HB⟩:=hrel;by_cases c1 : i < s.size
   ·have hcon:=Tryd.utf8_DecodeRuneInString (s.extract i s.size) wr (HT.out.below HB.out)
    rw [decode_go s i c1] at hcon;have hst:=odd_step s i c1 r HO.out;have hdw:=decode_w s i;generalize Utf8.decode s i = d at hcon hst hdw;obtain ⟨c,n⟩:=d;have ST:=Aside0.mk hst;have HC:=Aside0.mk hcon;clear hst hcon;obtain ⟨hd1,hd2⟩:=hdw;go_wp2_with (go_at_call 93;refine HC.out.mono ?_;rintro e w1 ⟨rfl,hb⟩)
    all_goals (
     try simp only [Bool.not_eq_true',Bool.not_eq_false',decide_eq_false_iff_not,decide_eq_true_eq,beq_eq_false_iff_ne,ne_eq,Bool.and_eq_true] at *
     first
      | (have hbad : badRune (c,n) = true:=decide_eq_true (by omega)
         have e1:=ST.out.1 hbad;go_ret
         exact ⟨by rw [e1];rfl,below_step HB.out hb⟩)
      | (have hgood : badRune (c,n) = false:=decide_eq_false (by omega)
         have e1:=ST.out.2 hgood;go_roundg (gk - n)
         case measure => have:=HG.out;omega
         case rel => exact ⟨i + n,by rw [Int.natCast_add],⟨by have:=HG.out;omega⟩,⟨by omega⟩,⟨e1⟩,⟨below_step HB.out hb⟩⟩))
   ·have c1b : decide (i < s.size) = false:=decide_eq_false c1
    go_wp2_with fail;go_ret;(have e : oddFrom s (s.size - i) i = -1:=by rw [show s.size - i = 0 by omega];rfl);exact ⟨by rw [← HO.out,e];rfl,HB.out⟩
theorem impl_oddRune.calls (s : ByteArray) (r : Int) (w : World) (h : impl_oddRune.f s = some r) (ht : Tabs w:=by exact tb_ HTb_) :
    Calls Tryd.prog 70 #[.string s] w fun e w' => e = .returned (.int .i64 r) ∧ Below w.heap.size w w':=by
  unfold impl_oddRune.f at h;by_cases hs : s.size ≤ 140737488355328
  · rw [if_pos hs] at h
    injection h with h
    subst h;exact odd_walk s w hs ht
  · rw [if_neg hs] at h
    cases h
set_option maxHeartbeats 2000000 in
set_option maxRecDepth 100000 in
theorem impl_goodName.calls (s : ByteArray) (r : Bool) (w : World) (h : impl_goodName.f s = some r) (ht : Tabs w:=by exact tb_ HTb_) :
    Calls Tryd.prog 65 #[.string s] w fun e w' => e = .returned (.bool r) ∧ Below w.heap.size w w':=by
  unfold impl_goodName.f at h;by_cases hs : s.size ≤ 140737488355328
  case neg => rw [if_neg hs] at h;cases h
  case pos =>
  rw [if_pos hs] at h
  injection h with h
  have hcn:=Tryd.utf8_RuneCountInString s w (by omega);have hq : Lib.runeCount s ≤ s.size:=Lib.runeCount_le s;obtain ⟨q,hqq⟩ : ∃ q,Lib.runeCount s = q:=⟨_,rfl⟩;obtain ⟨o,hoo⟩ : ∃ o,oddOf s = o:=⟨_,rfl⟩;rw [hqq] at hcn hq h;have HO : Aside0 (impl_oddRune.f s = some o):=⟨by unfold impl_oddRune.f;rw [if_pos hs,hoo]⟩;rw [hoo] at h;have HR:=Aside0.mk h;have HT:=Aside0.mk ht;have HC:=Aside0.mk hcn;(have HQ : q < 9223372036854775807:=by omega);clear h ht hcn hqq hoo hq;have b1 (pos : Nat) : Below w.heap.size w (w.iter s pos):=below_alloc (Below.refl _ _) _;have B1:=Aside0.mk b1;clear b1;by_cases c1 : 1 ≤ q
  · have c1b : decide ((1 : Int) ≤ (q : Int)) = true:=decide_eq_true (by omega)
    have c1c : decide (1 ≤ q) = true:=decide_eq_true (by omega);by_cases c2 : q ≤ 12
    · have c2b : decide ((q : Int) ≤ 12) = true:=decide_eq_true (by omega)
      have c2c : decide (q ≤ 12) = true:=decide_eq_true (by omega);have hr : Aside0 (r = decide (o < 0)):=⟨by rw [← HR.out];exact decide_eq_decide.2 ⟨fun h => h.2.2,fun h => ⟨c1,c2,h⟩⟩⟩;clear c1 c2 hs;go_enter Tryd.func65,Tryd.ntmps65;go_wp2_with (first | (go_at_call 72;refine HC.out.mono ?_;rintro e w' ⟨rfl,pos,rfl⟩) | (go_at_call 70;refine (impl_oddRune.calls _ _ _ HO.out (HT.out.below (B1.out _))).mono ?_;rintro e w1 ⟨rfl,hb⟩))
      all_goals (
       go_ret
       exact ⟨by rw [hr.out];rfl,below_step (B1.out _) hb⟩)
    · have c2b : decide ((q : Int) ≤ 12) = false:=decide_eq_false (by omega)
      have c2c : decide (q ≤ 12) = false:=decide_eq_false (by omega);have hr : Aside0 (r = false):=⟨by rw [← HR.out];exact decide_eq_false (fun h => c2 h.2.1)⟩;clear c1 c2 hs;go_enter Tryd.func65,Tryd.ntmps65;go_wp2_with (first | (go_at_call 72;refine HC.out.mono ?_;rintro e w' ⟨rfl,pos,rfl⟩));go_ret;exact ⟨by rw [hr.out];rfl,B1.out _⟩
  · have c1b : decide ((1 : Int) ≤ (q : Int)) = false:=decide_eq_false (by omega)
    have c1c : decide (1 ≤ q) = false:=decide_eq_false (by omega);have hr : Aside0 (r = false):=⟨by rw [← HR.out];exact decide_eq_false (fun h => c1 h.1)⟩;clear c1 hs;go_enter Tryd.func65,Tryd.ntmps65;go_wp2_with (first | (go_at_call 72;refine HC.out.mono ?_;rintro e w' ⟨rfl,pos,rfl⟩));go_ret;exact ⟨by rw [hr.out];rfl,B1.out _⟩
end Go.Proofs.YtdihodboopeakaaDoor.Pr
namespace Go.Proofs.YtdihodboopeakaaDoor.Pr
open Go.RowKit Go.Proofs.YtdihodboopeakaaDoorW.PrintWords Go.Proofs.YtdihodboopeakaaDoorW.PrintLast Go.Proofs.YtdihodboopeakaaDoorW.PrintMore
attribute [local go_sem] max2_int min2_int max_two min_two max_three min_three max_four min_four
set_option linter.unusedVariables false
set_option linter.unusedSimpArgs false

set_option maxHeartbeats 8000000 in
set_option maxRecDepth 100000 in
theorem impl_GoodBoard.calls (k : Nat) (j6 : Option Addr) (c0_0 : Nat) (z2 : List ByteArray) (j0 : Option Addr) (c0_1 : Nat) (z6 : List Bool) (j1 : Option Addr) (c0_2 : Nat) (z3 : List (List Int)) (r : Bool) (w : World) (hr0_0 : Kd.C Kd.string w j6 z2.length z2) (hc0_0 : z2.length ≤ c0_0) (hr0_1 : Kd.C Kd.bool w j0 z6.length z6) (hc0_1 : z6.length ≤ c0_1) (hr0_2 : Kd.C (Kd.slice 3 (Kd.int .i64)) w j1 z3.length z3) (hc0_2 : z3.length ≤ c0_2) (h : impl_GoodBoard.f k z2 z6 z3 = some r) (ht_ : Tabs w:=by exact tb_ HTb_) :
   Calls Tryd.prog 28 #[.agg #[.slice j6 z2.length c0_0,.slice j0 z6.length c0_1,.slice j1 z3.length c0_2]] w fun e w' => e = .returned (.bool r) ∧ Below w.heap.size w w':=by
  have HTb_:=Aside0.mk ht_;clear ht_;have zl0:=Tryd.underlying34;have zb3:=Aside0.mk hr0_0;have zj0:=Aside0.mk hc0_0;clear hr0_0 hc0_0;have zj1:=Aside0.mk hr0_1;have zj2:=Aside0.mk hc0_1;clear hr0_1 hc0_1;have r2:=Aside0.mk hr0_2;have zj3:=Aside0.mk hc0_2;clear hr0_2 hc0_2;have HB:=ak (Below.refl w.heap.size w);have H : (if (z2.length : Int) < 1 then (impl_GoodBoard.j0 k (z2.length : Int) true z2 z6 z3) else (if (z2.length : Int) > 14 then (impl_GoodBoard.j0 k (z2.length : Int) true z2 z6 z3) else (if (z6.length : Int) = (z2.length : Int) then (impl_GoodBoard.j0 k (z2.length : Int) ((z3.length : Int) != (z2.length : Int)) z2 z6 z3) else (impl_GoodBoard.j0 k (z2.length : Int) true z2 z6 z3)))) = some r:=h;clear h;have HC2:=Aside0.mk H;clear H;go_enter Tryd.func28,Tryd.ntmps28
  go_upto_region 2 with (first | ((with_reducible refine gate_dst (N:=1) rfl ?_);(try (refine gate_guard (by rfl) ?_;dsimp only));refine box_event ?hg (N:=1) ?hd (cs:=#[.slice j6 z2.length c0_0,.slice j0 z6.length c0_1,.slice j1 z3.length c0_2]) (t:=34) ?hr ?_;(case hd => rfl);(case hg => rfl);(case hr => first | (go_simp;done) | (go_simp;rfl));intro z5 hg w3 hbox hb;have z1:=ak (hbox);have zj4 : Aside0 (w.heap.size ≤ z5):=gz_;have zj5 : Aside0 (w.heap.size ≤ z5):=gz_;replace HB:=ak (below_step hb_ hb);clear hb hbox hg;have zg9:=b30 z1;have zh0:=b31 z1;have zh1:=b32 z1;have zh2:=blk_frozen z1.out 0;have zh3:=blk_frozen z1.out 1;have zh4:=blk_frozen z1.out 2))
  (try simp only [Act.put,List.setIfInBounds_toArray,List.set_cons_zero,List.set_cons_succ])
  go_cut [30] (fun v30 wc => ∃ (kq : Nat) (r8 : Bool),v30 = .bool r8 ∧ Aside0 (impl_GoodBoard.j0 kq (z2.length : Int) r8 z2 z6 z3 = some r) ∧ Aside0 (kq ≤ k) ∧ Aside0 (wc.heap[z5]? = some (.cells #[(.slice j6 z2.length c0_0),(.slice j0 z6.length c0_1),(.slice j1 z3.length c0_2)] 34 (0,0))) ∧ Aside0 (Below w.heap.size w wc))
  case first =>
   have H:=HC2.out;clear HC2;by_cases c5 : (z2.length : Int) < 1
   ·rw [if_pos c5] at H
    have m0 : decide ((z2.length : Int) < 1) = true:=decide_eq_true c5;have zc2 : decide (z2.length < 1) = true:=decide_eq_true (by omega);clear c5;(first | rw [m0] | (simp only [i64_w,i32_w];rw [m0]) | skip);have H':=Aside0.mk H;clear H;go_wp2;go_meet
    case rel => exact ⟨_,(true),es_,H',⟨by first | omega | exact Nat.le_refl _⟩,⟨bk_ z1.out⟩,⟨hb_⟩⟩
   ·rw [if_neg c5] at H
    have m0 : decide ((z2.length : Int) < 1) = false:=decide_eq_false c5;have zc2 : decide (z2.length < 1) = false:=decide_eq_false (by omega);clear c5;(first | rw [m0] | (simp only [i64_w,i32_w];rw [m0]) | skip);by_cases c6 : (z2.length : Int) > 14
    ·rw [if_pos c6] at H
     have zc3 : decide (14 < (z2.length : Int)) = true:=decide_eq_true c6;have zc4 : decide (14 < z2.length) = true:=decide_eq_true (by omega);clear c6;have H':=Aside0.mk H;clear H;go_wp2;go_meet
     case rel => exact ⟨_,(true),es_,H',⟨by first | omega | exact Nat.le_refl _⟩,⟨bk_ z1.out⟩,⟨hb_⟩⟩
    ·rw [if_neg c6] at H
     have zc3 : decide (14 < (z2.length : Int)) = false:=decide_eq_false c6;have zc4 : decide (14 < z2.length) = false:=decide_eq_false (by omega);clear c6;by_cases c7 : (z6.length : Int) = (z2.length : Int)
     ·rw [if_pos c7] at H
      have zc5 : ((z6.length : Int) == (z2.length : Int)) = true:=beq_iff_eq.mpr c7;have zc6 : ((z6.length : Int) != (z2.length : Int)) = false:=bne_eq_false_iff_eq.mpr c7;(have zc7 : (z6.length == z2.length) = true:=by first | simpa using c7 | (simp at c7 ⊢;omega));clear c7;have H':=Aside0.mk H;clear H;have zh5:=b30 z1;have zh6:=b31 z1;have zh7:=b32 z1;have zh8:=blk_frozen z1.out 0;have zh9:=blk_frozen z1.out 1;have zi0:=blk_frozen z1.out 2;go_wp2;go_meet
      case rel => exact ⟨_,(((z3.length : Int) != (z2.length : Int))),es_,H',⟨by first | omega | exact Nat.le_refl _⟩,⟨bk_ z1.out⟩,⟨hb_⟩⟩
     ·rw [if_neg c7] at H
      have zc5 : ((z6.length : Int) == (z2.length : Int)) = false:=beq_eq_false_iff_ne.mpr c7;have zc6 : ((z6.length : Int) != (z2.length : Int)) = true:=bne_iff_ne.mpr c7;(have zc7 : (z6.length == z2.length) = false:=by first | simpa using c7 | (simp at c7 ⊢;omega));have H':=Aside0.mk H;clear H;have zi1:=b30 z1;have zi2:=b31 z1;have zi3:=b32 z1;have zi4:=blk_frozen z1.out 0;have zi5:=blk_frozen z1.out 1;have zi6:=blk_frozen z1.out 2;go_wp2;go_meet
      case rel => exact ⟨_,(true),es_,H',⟨by first | omega | exact Nat.le_refl _⟩,⟨bk_ z1.out⟩,⟨hb_⟩⟩
  case rest =>
   clear HC2;obtain ⟨kq,r8,rfl,HA,HJ1,z1,HB⟩:=hcut
   cases kq with
   | zero => exact absurd HA.out (by simp [impl_GoodBoard.j0])
   | succ kj1 =>
    have H:=HA.out;clear HA;simp only [impl_GoodBoard.j0] at H;by_cases c10 : r8 = true
    ·subst c10
     rw [if_pos rfl] at H
     obtain rfl:=Option.some.inj H
     go_wp2;go_ret;exact ⟨er_,hb_⟩
    ·replace c10:=Bool.eq_false_iff.mpr c10
     subst c10;rw [if_neg (show ¬ (false = true) by decide)] at H;have H':=Aside0.mk H;clear H;have zc8:=b30 z1;have zc9:=b31 z1;have zd0:=b32 z1;have zd1:=blk_frozen z1.out 0;have zd2:=blk_frozen z1.out 1;have zd3:=blk_frozen z1.out 2;go_wp2
     go_loopg [34] kj1 (fun kq v34 w' => ∃ (z0 : Int),v34 = .int .i64 z0 ∧ Aside0 (impl_GoodBoard.l0 kq (z2.length : Int) z2 (z2.length : Int) z0 z2 z6 z3 = some r) ∧ Aside0 (kq ≤ kj1) ∧ Aside0 (w'.heap[z5]? = some (.cells #[(.slice j6 z2.length c0_0),(.slice j0 z6.length c0_1),(.slice j1 z3.length c0_2)] 34 (0,0))) ∧ Aside0 (Below w.heap.size w w'))
     case atStart => exact ⟨(0),es_,H',⟨Nat.le_refl _⟩,⟨bk_ z1.out⟩,⟨hb_⟩⟩
     case round =>
      clear H';obtain ⟨z0,rfl,HA,HK2,z1,HB⟩:=hrel
      cases gk with
      | zero => exact absurd HA.out (by simp [impl_GoodBoard.l0])
      | succ k2 =>
       have H:=HA.out;clear HA;simp only [impl_GoodBoard.l0] at H;by_cases c12 : z0 < (z2.length : Int)
       ·rw [if_pos c12] at H
        have zb4 : decide (z0 < (z2.length : Int)) = true:=decide_eq_true c12;clear c12;by_cases c13 : 0 ≤ z0
        ·rw [if_pos c13] at H
         have zj6 : decide (0 ≤ z0) = true:=decide_eq_true c13;clear c13;by_cases c14 : z0 < (z2.length : Int)
         ·rw [if_pos c14] at H
          have zj7 : decide (z0 < (z2.length : Int)) = true:=decide_eq_true c14;clear c14;have m9:=Aside0.mk H;clear H;have za0 : 0 ≤ (z0 : Int):=of_decide_eq_true as_;have za1 : z0 < (z2.length : Int):=of_decide_eq_true as_;obtain ⟨j7,e169,m1⟩:=Kd.at_string zb3.out z0 za0 za1;cases e169;replace m1:=hc_ HB m1;replace za0:=eq_true za0;replace za1:=eq_true za1
          go_upto_region 7 with (fail)
          go_cut [54] (fun v54 wc => ∃ (kq : Nat) (r3 : Bool),v54 = .bool r3 ∧ Aside0 (impl_GoodBoard.j2 kq (z2.length : Int) z0 z2 (z2.length : Int) z0 r3 z2 z6 z3 = some r) ∧ Aside0 (kq ≤ k2) ∧ Aside0 (wc.heap[z5]? = some (.cells #[(.slice (some j7) z2.length c0_0),(.slice j0 z6.length c0_1),(.slice j1 z3.length c0_2)] 34 (0,0))) ∧ Aside0 (Below w.heap.size w wc))
          case first =>
           have H:=m9.out;clear m9;by_cases c16 : (rdOf ByteArray.empty z2 z0).toList = ([] : List UInt8)
           ·rw [if_pos c16] at H
            have r4 : ((rdOf ByteArray.empty z2 z0).toList == ([] : List UInt8)) = true:=beq_iff_eq.mpr c16;have zb5 : ((rdOf ByteArray.empty z2 z0).toList != ([] : List UInt8)) = false:=bne_eq_false_iff_eq.mpr c16;clear c16;(first | rw [r4] | (simp only [i64_w,i32_w];rw [r4]) | skip);by_cases c17 : z0 < (z3.length : Int)
            ·rw [if_pos c17] at H
             have zj8 : decide (z0 < (z3.length : Int)) = true:=decide_eq_true c17;clear c17;have H':=Aside0.mk H;clear H;have zd4:=b30 z1;have zd5:=b31 z1;have zd6:=b32 z1;have zd7:=blk_frozen z1.out 0;have zd8:=blk_frozen z1.out 1;have zd9:=blk_frozen z1.out 2;have za2 : 0 ≤ (z0 : Int):=of_decide_eq_true as_;have za3 : z0 < (z3.length : Int):=of_decide_eq_true as_;obtain ⟨zj9,zi7,c170_0,e170,m2,m3,hi170_0⟩:=at_L3 r2.out z0 za2 za3;cases e170;replace m2:=hc_ HB m2;have ze0:=Aside0.mk hi170_0;have ze1:=Aside0.mk m3;clear hi170_0 m3;replace za2:=eq_true za2;replace za3:=eq_true za3;go_wp2;go_meet
             case rel => exact ⟨_,(decide (((rd_L3 z3 z0).length : Int) > 14)),es_,H',⟨by have:=HJ1.out;have:=HK2.out;first | omega | exact Nat.le_refl _⟩,⟨bk_ z1.out⟩,⟨hb_⟩⟩
            ·rw [if_neg c17] at H
             exact absurd H (by simp)
           ·rw [if_neg c16] at H
            have r4 : ((rdOf ByteArray.empty z2 z0).toList == ([] : List UInt8)) = false:=beq_eq_false_iff_ne.mpr c16;have zb5 : ((rdOf ByteArray.empty z2 z0).toList != ([] : List UInt8)) = true:=bne_iff_ne.mpr c16;(first | rw [r4] | (simp only [i64_w,i32_w];rw [r4]) | skip);replace H:=Option.bind_eq_some_iff.mp H;obtain ⟨za9,zb0,H⟩:=H;replace H : (if za9 = true then (if z0 < (z3.length : Int) then (impl_GoodBoard.j2 k2 (z2.length : Int) z0 z2 (z2.length : Int) z0 (decide (((rd_L3 z3 z0).length : Int) > 14)) z2 z6 z3) else (none)) else (impl_GoodBoard.j2 k2 (z2.length : Int) z0 z2 (z2.length : Int) z0 true z2 z6 z3)) = some r:=H;have A19:=Aside0.mk zb0;clear zb0;by_cases c20 : za9 = true
            ·subst c20
             rw [if_pos rfl] at H;by_cases c21 : z0 < (z3.length : Int)
             ·rw [if_pos c21] at H
              have zk0 : decide (z0 < (z3.length : Int)) = true:=decide_eq_true c21;clear c21;have H':=Aside0.mk H;clear H;go_wp2_with (first | (go_at_call 65;(with_reducible refine (impl_goodName.calls (rdOf ByteArray.empty z2 z0) true _ A19.out).mono ?_);rintro e w22 ⟨rfl,hb⟩;replace z1:=bb_ z1 hb;replace HB:=ak (below_step hb_ hb);(try clear hb);(try clear hb2);(try clear hk);(try clear hi);have ze2:=b30 z1;have ze3:=b31 z1;have ze4:=b32 z1;have ze5:=blk_frozen z1.out 0;have ze6:=blk_frozen z1.out 1;have ze7:=blk_frozen z1.out 2;have za4 : 0 ≤ (z0 : Int):=of_decide_eq_true as_;have za5 : z0 < (z3.length : Int):=of_decide_eq_true as_;obtain ⟨zk1,zi8,c172_0,e172,m4,m5,hi172_0⟩:=at_L3 r2.out z0 za4 za5;cases e172;replace m4:=hc_ HB m4;have ze8:=Aside0.mk hi172_0;have ze9:=Aside0.mk m5;clear hi172_0 m5;replace za4:=eq_true za4;replace za5:=eq_true za5));go_meet
              case rel => exact ⟨_,(decide (((rd_L3 z3 z0).length : Int) > 14)),es_,H',⟨by have:=HJ1.out;have:=HK2.out;first | omega | exact Nat.le_refl _⟩,⟨bk_ z1.out⟩,⟨hb_⟩⟩
             ·rw [if_neg c21] at H
              exact absurd H (by simp)
            ·replace c20:=Bool.eq_false_iff.mpr c20
             subst c20;rw [if_neg (show ¬ (false = true) by decide)] at H;have H':=Aside0.mk H;clear H;go_wp2_with (first | (go_at_call 65;(with_reducible refine (impl_goodName.calls (rdOf ByteArray.empty z2 z0) false _ A19.out).mono ?_);rintro e w24 ⟨rfl,hb⟩;replace z1:=bb_ z1 hb;replace HB:=ak (below_step hb_ hb);(try clear hb);(try clear hb2);(try clear hk);(try clear hi)));go_meet
             case rel => exact ⟨_,(true),es_,H',⟨by have:=HJ1.out;have:=HK2.out;first | omega | exact Nat.le_refl _⟩,⟨bk_ z1.out⟩,⟨hb_⟩⟩
          case rest =>
           clear m9;obtain ⟨kq,r3,rfl,HA,r6,z1,HB⟩:=hcut
           cases kq with
           | zero => exact absurd HA.out (by simp [impl_GoodBoard.j2])
           | succ zb1 =>
            have H:=HA.out;clear HA;simp only [impl_GoodBoard.j2] at H;by_cases c25 : r3 = true
            ·subst c25
             rw [if_pos rfl] at H
             obtain rfl:=Option.some.inj H
             go_wp2;go_ret;exact ⟨er_,hb_⟩
            ·replace c25:=Bool.eq_false_iff.mpr c25
             subst c25;rw [if_neg (show ¬ (false = true) by decide)] at H;by_cases c26 : 0 ≤ z0
             ·rw [if_pos c26] at H
              have zk2 : decide (0 ≤ z0) = true:=decide_eq_true c26;clear c26;by_cases c27 : z0 < (z3.length : Int)
              ·rw [if_pos c27] at H
               have zk3 : decide (z0 < (z3.length : Int)) = true:=decide_eq_true c27;clear c27;have H':=Aside0.mk H;clear H;have zf0:=b30 z1;have zf1:=b31 z1;have zf2:=b32 z1;have zf3:=blk_frozen z1.out 0;have zf4:=blk_frozen z1.out 1;have zf5:=blk_frozen z1.out 2;have za6 : 0 ≤ (z0 : Int):=of_decide_eq_true as_;have za7 : z0 < (z3.length : Int):=of_decide_eq_true as_;obtain ⟨r5,zi9,c173_0,e173,m6,m7,hi173_0⟩:=at_L3 r2.out z0 za6 za7;cases e173;replace m6:=hc_ HB m6;have j2:=Aside0.mk hi173_0;have zf6:=Aside0.mk m7;clear hi173_0 m7;replace za6:=eq_true za6;replace za7:=eq_true za7;go_wp2
               go_loopg [61] zb1 (fun kq v61 w' => ∃ (z4 : Int),v61 = .int .i64 z4 ∧ Aside0 (impl_GoodBoard.l1 kq (z2.length : Int) z0 z2 (z2.length : Int) z0 (rd_L3 z3 z0) ((rd_L3 z3 z0).length : Int) z4 z2 z6 z3 = some r) ∧ Aside0 (kq ≤ zb1) ∧ Aside0 (w'.heap[z5]? = some (.cells #[(.slice (some j7) z2.length c0_0),(.slice j0 z6.length c0_1),(.slice (some r5) z3.length c0_2)] 34 (0,0))) ∧ Aside0 (Below w.heap.size w w'))
               case atStart => exact ⟨(0),es_,H',⟨Nat.le_refl _⟩,⟨bk_ z1.out⟩,⟨hb_⟩⟩
               case round =>
                clear H';obtain ⟨z4,rfl,HA,HK4,z1,HB⟩:=hrel
                cases gk with
                | zero => exact absurd HA.out (by simp [impl_GoodBoard.l1])
                | succ k4 =>
                 have H:=HA.out;clear HA;simp only [impl_GoodBoard.l1] at H;by_cases c29 : z4 < ((rd_L3 z3 z0).length : Int)
                 ·rw [if_pos c29] at H
                  have zb6 : decide (z4 < ((rd_L3 z3 z0).length : Int)) = true:=decide_eq_true c29;clear c29;by_cases c30 : 0 ≤ z4
                  ·rw [if_pos c30] at H
                   have zk4 : decide (0 ≤ z4) = true:=decide_eq_true c30;clear c30;by_cases c31 : z4 < ((rd_L3 z3 z0).length : Int)
                   ·rw [if_pos c31] at H
                    have zk5 : decide (z4 < ((rd_L3 z3 z0).length : Int)) = true:=decide_eq_true c31;clear c31;by_cases c32 : (rd (rd_L3 z3 z0) z4) < 0
                    ·rw [if_pos c32] at H
                     have zb7 : decide ((rd (rd_L3 z3 z0) z4) < 0) = true:=decide_eq_true c32;clear c32
                     obtain rfl:=Option.some.inj H
                     have z8 : 0 ≤ (z4 : Int):=of_decide_eq_true as_;have z9 : z4 < ((rd_L3 z3 z0).length : Int):=of_decide_eq_true as_;obtain ⟨r9,e174,z7⟩:=Kd.at_int j2.out z4 z8 z9;cases e174;replace z7:=hc_ HB z7;replace z8:=eq_true z8;replace z9:=eq_true z9;go_wp2;go_ret;exact ⟨er_,hb_⟩
                    ·rw [if_neg c32] at H
                     have zb7 : decide ((rd (rd_L3 z3 z0) z4) < 0) = false:=decide_eq_false c32;clear c32;by_cases c33 : (rd (rd_L3 z3 z0) z4) ≥ (z2.length : Int)
                     ·rw [if_pos c33] at H
                      have zb8 : decide ((z2.length : Int) ≤ (rd (rd_L3 z3 z0) z4)) = true:=decide_eq_true c33;clear c33
                      obtain rfl:=Option.some.inj H
                      have z8 : 0 ≤ (z4 : Int):=of_decide_eq_true as_;have z9 : z4 < ((rd_L3 z3 z0).length : Int):=of_decide_eq_true as_;obtain ⟨r9,e174,z7⟩:=Kd.at_int j2.out z4 z8 z9;cases e174;replace z7:=hc_ HB z7;replace z8:=eq_true z8;replace z9:=eq_true z9;go_wp2;go_ret;exact ⟨er_,hb_⟩
                     ·rw [if_neg c33] at H
                      have zb8 : decide ((z2.length : Int) ≤ (rd (rd_L3 z3 z0) z4)) = false:=decide_eq_false c33;clear c33;by_cases c34 : z4 > 0
                      ·rw [if_pos c34] at H
                       have zb9 : decide (0 < z4) = true:=decide_eq_true c34;clear c34;by_cases c35 : 0 ≤ z0
                       ·rw [if_pos c35] at H
                        have zk6 : decide (0 ≤ z0) = true:=decide_eq_true c35;clear c35;by_cases c36 : z0 < (z3.length : Int)
                        ·rw [if_pos c36] at H
                         have zk7 : decide (z0 < (z3.length : Int)) = true:=decide_eq_true c36;clear c36;obtain ⟨ji37,hji37⟩ : ∃ j_ : Int,(wrap64 (z4 - 1)) = j_:=⟨_,rfl⟩;(replace H : (if 0 ≤ (ji37) then (if (ji37) < ((rd_L3 z3 z0).length : Int) then (if (rd (rd_L3 z3 z0) z4) ≤ (rd (rd_L3 z3 z0) (ji37)) then (some false) else (impl_GoodBoard.l1 k4 (z2.length : Int) z0 z2 (z2.length : Int) z0 (rd_L3 z3 z0) ((rd_L3 z3 z0).length : Int) (wrap64 (z4 + 1)) z2 z6 z3)) else (none)) else (none)) = some r:=by first | (rw [hji37] at H;exact H) | (simp only [hji37] at H ⊢;exact H));have hji37w : (IntKind.i64.wrap (z4 - 1)) = ji37:=(i64_w _).trans hji37;by_cases c38 : 0 ≤ (ji37)
                         ·rw [if_pos c38] at H
                          have zk8 : decide (0 ≤ (ji37)) = true:=decide_eq_true c38;clear c38;by_cases c39 : (ji37) < ((rd_L3 z3 z0).length : Int)
                          ·rw [if_pos c39] at H
                           have zk9 : decide ((ji37) < ((rd_L3 z3 z0).length : Int)) = true:=decide_eq_true c39;clear c39;by_cases c40 : (rd (rd_L3 z3 z0) z4) ≤ (rd (rd_L3 z3 z0) (ji37))
                           ·rw [if_pos c40] at H
                            have zc0 : decide ((rd (rd_L3 z3 z0) z4) ≤ (rd (rd_L3 z3 z0) (ji37))) = true:=decide_eq_true c40;clear c40
                            obtain rfl:=Option.some.inj H
                            have z8 : 0 ≤ (z4 : Int):=of_decide_eq_true as_;have z9 : z4 < ((rd_L3 z3 z0).length : Int):=of_decide_eq_true as_;obtain ⟨r9,e174,z7⟩:=Kd.at_int j2.out z4 z8 z9;cases e174;replace z7:=hc_ HB z7;replace z8:=eq_true z8;replace z9:=eq_true z9;have zf7:=b30 z1;have zf8:=b31 z1;have zf9:=b32 z1;have zg0:=blk_frozen z1.out 0;have zg1:=blk_frozen z1.out 1;have zg2:=blk_frozen z1.out 2;have j8 : 0 ≤ (z0 : Int):=of_decide_eq_true as_;have j9 : z0 < (z3.length : Int):=of_decide_eq_true as_;obtain ⟨m8,zb2,c175_0,e175,j3,j4,hi175_0⟩:=at_L3 r2.out z0 j8 j9
                            obtain rfl : r5 = m8:=(by injection e175)
                            replace j3:=hc_ HB j3;have r7:=Aside0.mk hi175_0;have za8:=Aside0.mk j4;clear hi175_0 j4;replace j8:=eq_true j8;replace j9:=eq_true j9;have r0 : 0 ≤ ((ji37) : Int):=of_decide_eq_true as_;have r1 : (ji37) < ((rd_L3 z3 z0).length : Int):=of_decide_eq_true as_;obtain ⟨zc1,e176,j5⟩:=Kd.at_int r7.out (ji37) r0 r1;cases e176;replace j5:=hc_ HB j5;replace r0:=eq_true r0;replace r1:=eq_true r1;go_wp2;go_ret;exact ⟨by first | rfl | (simp [errW_none,errW_some] <;> rfl) | (simp only [← hji37];first | rfl | (simp [errW_none,errW_some] <;> rfl)) | (simp [*,errW_none,errW_some] <;> rfl),hb_⟩
                           ·rw [if_neg c40] at H
                            have zc0 : decide ((rd (rd_L3 z3 z0) z4) ≤ (rd (rd_L3 z3 z0) (ji37))) = false:=decide_eq_false c40;clear c40;have H':=Aside0.mk H;clear H;have z8 : 0 ≤ (z4 : Int):=of_decide_eq_true as_;have z9 : z4 < ((rd_L3 z3 z0).length : Int):=of_decide_eq_true as_;obtain ⟨r9,e174,z7⟩:=Kd.at_int j2.out z4 z8 z9;cases e174;replace z7:=hc_ HB z7;replace z8:=eq_true z8;replace z9:=eq_true z9;have zg3:=b30 z1;have zg4:=b31 z1;have zg5:=b32 z1;have zg6:=blk_frozen z1.out 0;have zg7:=blk_frozen z1.out 1;have zg8:=blk_frozen z1.out 2;have j8 : 0 ≤ (z0 : Int):=of_decide_eq_true as_;have j9 : z0 < (z3.length : Int):=of_decide_eq_true as_;obtain ⟨m8,zb2,c175_0,e175,j3,j4,hi175_0⟩:=at_L3 r2.out z0 j8 j9
                            obtain rfl : r5 = m8:=(by injection e175)
                            replace j3:=hc_ HB j3;have r7:=Aside0.mk hi175_0;have za8:=Aside0.mk j4;clear hi175_0 j4;replace j8:=eq_true j8;replace j9:=eq_true j9;have r0 : 0 ≤ ((ji37) : Int):=of_decide_eq_true as_;have r1 : (ji37) < ((rd_L3 z3 z0).length : Int):=of_decide_eq_true as_;obtain ⟨zc1,e176,j5⟩:=Kd.at_int r7.out (ji37) r0 r1;cases e176;replace j5:=hc_ HB j5;replace r0:=eq_true r0;replace r1:=eq_true r1;go_wp2;go_roundg k4
                            case measure => have:=HJ1.out;have:=HK2.out;have:=r6.out;have:=HK4.out;omega
                            case rel => exact ⟨(wrap64 (z4 + 1)),es_,H',⟨by have:=HJ1.out;have:=HK2.out;have:=r6.out;have:=HK4.out;omega⟩,⟨bk_ z1.out⟩,⟨hb_⟩⟩
                          ·rw [if_neg c39] at H
                           exact absurd H (by simp)
                         ·rw [if_neg c38] at H
                          exact absurd H (by simp)
                        ·rw [if_neg c36] at H
                         exact absurd H (by simp)
                       ·rw [if_neg c35] at H
                        exact absurd H (by simp)
                      ·rw [if_neg c34] at H
                       have zb9 : decide (0 < z4) = false:=decide_eq_false c34;clear c34;have H':=Aside0.mk H;clear H;have z8 : 0 ≤ (z4 : Int):=of_decide_eq_true as_;have z9 : z4 < ((rd_L3 z3 z0).length : Int):=of_decide_eq_true as_;obtain ⟨r9,e174,z7⟩:=Kd.at_int j2.out z4 z8 z9;cases e174;replace z7:=hc_ HB z7;replace z8:=eq_true z8;replace z9:=eq_true z9;go_wp2;go_roundg k4
                       case measure => have:=HJ1.out;have:=HK2.out;have:=r6.out;have:=HK4.out;omega
                       case rel => exact ⟨(wrap64 (z4 + 1)),es_,H',⟨by have:=HJ1.out;have:=HK2.out;have:=r6.out;have:=HK4.out;omega⟩,⟨bk_ z1.out⟩,⟨hb_⟩⟩
                   ·rw [if_neg c31] at H
                    exact absurd H (by simp)
                  ·rw [if_neg c30] at H
                   exact absurd H (by simp)
                 ·rw [if_neg c29] at H
                  have zb6 : decide (z4 < ((rd_L3 z3 z0).length : Int)) = false:=decide_eq_false c29;clear c29;have H':=Aside0.mk H;clear H;go_wp2;go_roundg k4
                  case measure => have:=HJ1.out;have:=HK2.out;have:=r6.out;have:=HK4.out;omega
                  case rel => exact ⟨(wrap64 (z0 + 1)),es_,H',⟨by have:=HJ1.out;have:=HK2.out;have:=r6.out;have:=HK4.out;omega⟩,⟨bk_ z1.out⟩,⟨hb_⟩⟩
              ·rw [if_neg c27] at H
               exact absurd H (by simp)
             ·rw [if_neg c26] at H
              exact absurd H (by simp)
         ·rw [if_neg c14] at H
          exact absurd H (by simp)
        ·rw [if_neg c13] at H
         exact absurd H (by simp)
       ·rw [if_neg c12] at H
        have zb4 : decide (z0 < (z2.length : Int)) = false:=decide_eq_false c12;clear c12
        obtain rfl:=Option.some.inj H
        go_wp2;go_ret;exact ⟨er_,hb_⟩

end Go.Proofs.YtdihodboopeakaaDoor.Pr
namespace Go.Proofs.YtdihodboopeakaaDoor.Pr
open Go.RowKit Go.Proofs.YtdihodboopeakaaDoorW.PrintWords Go.Proofs.YtdihodboopeakaaDoorW.PrintLast Go.Proofs.YtdihodboopeakaaDoorW.PrintMore
attribute [local go_sem] max2_int min2_int max_two min_two max_three min_three max_four min_four
set_option linter.unusedVariables false
set_option linter.unusedSimpArgs false

set_option maxHeartbeats 8000000 in
set_option maxRecDepth 100000 in
theorem slices_Index_string_string.calls (k : Nat) (A0 : Option Addr) (c0 : Nat) (l0 : List ByteArray) (a1 : ByteArray) (r : Int) (w : World) (hr0 : Kd.C Kd.string w A0 l0.length l0) (hc0 : l0.length ≤ c0) (h : slices_Index_string_string.f k l0 a1 = some r) :
   Calls Tryd.prog 94 #[.slice A0 l0.length c0,.string a1] w fun e w' => e = .returned (.int .i64 r) ∧ Drawn0 w w':=by
  have HR0:=Aside0.mk hr0;have HC0:=Aside0.mk hc0;clear hr0 hc0;have H : (slices_Index_string_string.l0 k l0 a1 (l0.length : Int) 0) = some r:=h;clear h;have H':=Aside0.mk H;clear H;go_enter Tryd.func94,Tryd.ntmps94;go_wp2
  go_loopg [8] k (fun kq v8 w' => ∃ (z0 : Int),v8 = .int .i64 z0 ∧ Aside0 (slices_Index_string_string.l0 kq l0 a1 (l0.length : Int) z0 = some r) ∧ Aside0 (kq ≤ k) ∧ Drawn0 w w')
  case atStart => exact ⟨(0),es_,H',⟨Nat.le_refl _⟩,by repeat (first | exact Drawn0.refl _ | apply Drawn0.step)⟩
  case round =>
   clear H';obtain ⟨z0,rfl,HA,HK1,⟨m1,rfl⟩⟩:=hrel
   cases gk with
   | zero => exact absurd HA.out (by simp [slices_Index_string_string.l0])
   | succ k1 =>
    have H:=HA.out;clear HA;simp only [slices_Index_string_string.l0] at H;by_cases c3 : z0 < (l0.length : Int)
    ·rw [if_pos c3] at H
     have z5 : decide (z0 < (l0.length : Int)) = true:=decide_eq_true c3;clear c3;by_cases c4 : 0 ≤ z0
     ·rw [if_pos c4] at H
      have z8 : decide (0 ≤ z0) = true:=decide_eq_true c4;clear c4;by_cases c5 : z0 < (l0.length : Int)
      ·rw [if_pos c5] at H
       have z9 : decide (z0 < (l0.length : Int)) = true:=decide_eq_true c5;clear c5;by_cases c6 : a1.toList = (rdOf ByteArray.empty l0 z0).toList
       ·rw [if_pos c6] at H
        have z6 : (a1.toList == (rdOf ByteArray.empty l0 z0).toList) = true:=beq_iff_eq.mpr c6;have z7 : (a1.toList != (rdOf ByteArray.empty l0 z0).toList) = false:=bne_eq_false_iff_eq.mpr c6;clear c6
        obtain rfl:=Option.some.inj H
        have z1 : 0 ≤ (z0 : Int):=of_decide_eq_true as_;have z2 : z0 < (l0.length : Int):=of_decide_eq_true as_;obtain ⟨z4,e247,z3⟩:=Kd.at_string HR0.out z0 z1 z2;cases e247;replace z1:=eq_true z1;replace z2:=eq_true z2;go_wp2;go_ret;exact ⟨es_,by repeat (first | exact Drawn0.refl _ | apply Drawn0.step)⟩
       ·rw [if_neg c6] at H
        have z6 : (a1.toList == (rdOf ByteArray.empty l0 z0).toList) = false:=beq_eq_false_iff_ne.mpr c6;have z7 : (a1.toList != (rdOf ByteArray.empty l0 z0).toList) = true:=bne_iff_ne.mpr c6;have H':=Aside0.mk H;clear H;have z1 : 0 ≤ (z0 : Int):=of_decide_eq_true as_;have z2 : z0 < (l0.length : Int):=of_decide_eq_true as_;obtain ⟨z4,e247,z3⟩:=Kd.at_string HR0.out z0 z1 z2;cases e247;replace z1:=eq_true z1;replace z2:=eq_true z2;go_wp2;go_roundg k1
        case measure => have:=HK1.out;omega
        case rel => exact ⟨(wrap64 (z0 + 1)),es_,H',⟨by have:=HK1.out;omega⟩,by repeat (first | exact Drawn0.refl _ | apply Drawn0.step)⟩
      ·rw [if_neg c5] at H
       exact absurd H (by simp)
     ·rw [if_neg c4] at H
      exact absurd H (by simp)
    ·rw [if_neg c3] at H
     have z5 : decide (z0 < (l0.length : Int)) = false:=decide_eq_false c3;clear c3
     obtain rfl:=Option.some.inj H
     go_wp2;go_ret;exact ⟨es_,by repeat (first | exact Drawn0.refl _ | apply Drawn0.step)⟩

set_option maxHeartbeats 8000000 in
set_option maxRecDepth 100000 in
theorem slices_Contains_string_string.calls (k : Nat) (A0 : Option Addr) (c0 : Nat) (l0 : List ByteArray) (a1 : ByteArray) (r : Bool) (w : World) (hr0 : Kd.C Kd.string w A0 l0.length l0) (hc0 : l0.length ≤ c0) (h : slices_Contains_string_string.f k l0 a1 = some r) :
   Calls Tryd.prog 73 #[.slice A0 l0.length c0,.string a1] w fun e w' => e = .returned (.bool r) ∧ Drawn0 w w':=by
  have HR0:=Aside0.mk hr0;have HC0:=Aside0.mk hc0;clear hr0 hc0;have H : ((slices_Index_string_string.f k l0 a1).bind fun z0 => (some (decide (z0 ≥ 0)))) = some r:=h;clear h;replace H:=Option.bind_eq_some_iff.mp H;obtain ⟨z0,A30,H⟩:=H;replace H : (some (decide (z0 ≥ 0))) = some r:=H;have A3:=Aside0.mk A30;clear A30
  obtain rfl:=Option.some.inj H
  go_enter Tryd.func73,Tryd.ntmps73;go_wp2_with (first | ((with_reducible refine gate_callee (f:=94) rfl ?_);refine goesL_ (some 7) rfl rfl Tryd.func94 (by kernel_rfl) rfl #[.slice A0 l0.length c0,.string a1] rfl ls_ ?_;(with_reducible refine (slices_Index_string_string.calls k _ _ l0 a1 z0 _ ?z1 ?z2 A3.out).mono ?_);(case z1 => repeat (first | exact HR0.out | (with_reducible refine Kd.C_alloc ?_ _) | (with_reducible refine Kd.C_drewN ?_ _) | (with_reducible refine Kd.C_drew ?_)));(case z2 => exact HC0.out);rintro e w' ⟨rfl,⟨nd,rfl⟩⟩;refine ⟨_,rfl,?_⟩));go_ret;exact ⟨es_,by repeat (first | exact Drawn0.refl _ | apply Drawn0.step)⟩

end Go.Proofs.YtdihodboopeakaaDoor.Pr
/- impl.goodWish by hand: what it computes. -/
namespace Go.Proofs.YtdihodboopeakaaDoor.Pr
open Go.RowKit Go.Proofs.YtdihodboopeakaaDoorW.PrintWords
def nameB (s : ByteArray) : Bool:=decide (1 ≤ Lib.runeCount s ∧ Lib.runeCount s ≤ 12 ∧ oddOf s < 0)
def inB (l : List ByteArray) (s : ByteArray) : Bool:=l.any fun x => decide (x.toList = s.toList)
def gwFrom (l : List ByteArray) : Nat → Bool
  | 0 => true
  | d + 1 => (nameB (l.getD (l.length - (d + 1)) ByteArray.empty) && !inB (l.take (l.length - (d + 1))) (l.getD (l.length - (d + 1)) ByteArray.empty)) && gwFrom l d
def gwB (l : List ByteArray) : Bool:=decide (l.length ≤ 6) && gwFrom l l.length
def okT (l : List ByteArray) : Bool:=decide (l.length ≤ 1048576) && l.all fun x => decide (x.size ≤ 1048576)
def impl_goodWish.f (l0 l1 : List ByteArray) : Option Bool:=if okT l0 = true then (if okT l1 = true then some (gwB l0 && gwB l1) else none) else none
end Go.Proofs.YtdihodboopeakaaDoor.Pr
namespace Go.Proofs.YtdihodboopeakaaDoor.Pr
open Go.RowKit Go.Proofs.YtdihodboopeakaaDoorW.PrintWords Go.Proofs.YtdihodboopeakaaDoorW.PrintLast Go.Proofs.YtdihodboopeakaaDoorW.PrintMore
attribute [local go_sem] max2_int min2_int max_two min_two max_three min_three max_four min_four
set_option linter.unusedVariables false
set_option linter.unusedSimpArgs false

/-! ### impl_Board_shuns: function 79 -/
def impl_Board_shuns.f (k : Nat) (l0_0 : List ByteArray) (l0_1 : List Bool) (l0_2 : List (List Int)) (l1_0 : List ByteArray) (l1_1 : List ByteArray) (a2 : Int) : Option (Bool):=if 0 ≤ a2 then (if a2 < (l0_0.length : Int) then ((slices_Contains_string_string.f k l1_1 (rdOf ByteArray.empty l0_0 a2)).bind fun t252 => (some t252)) else (none)) else (none)
/-! ### impl_Board_aims: function 63 -/
def impl_Board_aims.f (k : Nat) (l0_0 : List ByteArray) (l0_1 : List Bool) (l0_2 : List (List Int)) (l1_0 : List ByteArray) (l1_1 : List ByteArray) (a2 : Int) : Option (Bool):=if 0 ≤ a2 then (if a2 < (l0_0.length : Int) then ((slices_Contains_string_string.f k l1_0 (rdOf ByteArray.empty l0_0 a2)).bind fun t256 => (if t256 = true then ((impl_Board_shuns.f k l0_0 l0_1 l0_2 l1_0 l1_1 a2).bind fun t257 => (some (!t257))) else (some false))) else (none)) else (none)
/-! ### impl_between: function 77 -/
def impl_between.f (a0 : Int) (a1 : Int) (a2 : Int) : Option (Bool):=if a0 ≥ a1 then (some (decide (a0 ≤ a2))) else (some false)

/-! ### slices_Index_int_int: function 100 -/
def slices_Index_int_int.l0 : Nat → List Int → Int → Int → Int → Option (Int)
  | 0,_,_,_,_ => none
  | k + 1,x0,x1,x7,x8 => if x8 < x7 then (if 0 ≤ x8 then (if x8 < (x0.length : Int) then (if x1 = (rd x0 x8) then (some x8) else (slices_Index_int_int.l0 k x0 x1 x7 (wrap64 (x8 + 1)))) else (none)) else (none)) else (some (-1))
def slices_Index_int_int.f (k : Nat) (l0 : List Int) (a1 : Int) : Option (Int):=slices_Index_int_int.l0 k l0 a1 (l0.length : Int) 0
/-! ### slices_Contains_int_int: function 78 -/
def slices_Contains_int_int.f (k : Nat) (l0 : List Int) (a1 : Int) : Option (Bool):=(slices_Index_int_int.f k l0 a1).bind fun t259 => (some (decide (t259 ≥ 0)))
/-! ### impl_WishMet: function 38 -/
mutual
def impl_WishMet.j0 : Nat → List Int → Bool → List ByteArray → List Bool → List (List Int) → List ByteArray → List ByteArray → Option (Bool × Bool)
  | 0,_,_,_,_,_,_,_ => none
  | k + 1,x2,x29,x261000,x261001,x261002,x262000,x262001 => if x29 = true then (some (false,false)) else (impl_WishMet.l0 k x2 x2 (x2.length : Int) 0 x261000 x261001 x261002 x262000 x262001)
def impl_WishMet.l0 : Nat → List Int → List Int → Int → Int → List ByteArray → List Bool → List (List Int) → List ByteArray → List ByteArray → Option (Bool × Bool)
  | 0,_,_,_,_,_,_,_,_,_ => none
  | k + 1,x2,x30,x31,x32,x261000,x261001,x261002,x262000,x262001 => if x32 < x31 then (if 0 ≤ x32 then (if x32 < (x30.length : Int) then ((impl_between.f (rd x30 x32) 0 (wrap64 ((x261000.length : Int) - 1))).bind fun t265 => (if t265 = true then (if x32 > 0 then (if 0 ≤ (wrap64 (x32 - 1)) then (if (wrap64 (x32 - 1)) < (x2.length : Int) then (if 0 ≤ (rd x2 (wrap64 (x32 - 1))) then (if (rd x2 (wrap64 (x32 - 1))) < (x261002.length : Int) then ((slices_Contains_int_int.f k (rd_L3 x261002 (rd x2 (wrap64 (x32 - 1)))) (rd x30 x32)).bind fun t268 => (if t268 = true then (impl_WishMet.l0 k x2 x30 x31 (wrap64 (x32 + 1)) x261000 x261001 x261002 x262000 x262001) else (some (false,false)))) else (none)) else (none)) else (none)) else (none)) else (impl_WishMet.l0 k x2 x30 x31 (wrap64 (x32 + 1)) x261000 x261001 x261002 x262000 x262001)) else (some (false,false)))) else (none)) else (none)) else (impl_WishMet.l1 k x2 (x2.length : Int) 0 x261000 x261001 x261002 x262000 x262001)
def impl_WishMet.l1 : Nat → List Int → Int → Int → List ByteArray → List Bool → List (List Int) → List ByteArray → List ByteArray → Option (Bool × Bool)
  | 0,_,_,_,_,_,_,_,_ => none
  | k + 1,x63,x64,x65,x261000,x261001,x261002,x262000,x262001 => if x65 < x64 then (if 0 ≤ x65 then (if x65 < (x63.length : Int) then ((impl_Board_shuns.f k x261000 x261001 x261002 x262000 x262001 (rd x63 x65)).bind fun t270 => (if t270 = true then (some (false,true)) else ((impl_Board_aims.f k x261000 x261001 x261002 x262000 x262001 (rd x63 x65)).bind fun t271 => (if t271 = true then (some (true,true)) else (impl_WishMet.l1 k x63 x64 (wrap64 (x65 + 1)) x261000 x261001 x261002 x262000 x262001))))) else (none)) else (none)) else (some (((x262000.length : Int) == 0),true))
end
def impl_WishMet.f (k : Nat) (l0_0 : List ByteArray) (l0_1 : List Bool) (l0_2 : List (List Int)) (l1_0 : List ByteArray) (l1_1 : List ByteArray) (l2 : List Int) : Option (Bool × Bool):=(impl_GoodBoard.f k l0_0 l0_1 l0_2).bind fun t262 => (if t262 = true then ((impl_goodWish.f l1_0 l1_1).bind fun t263 => (if t263 = true then (if (l2.length : Int) < 1 then (impl_WishMet.j0 k l2 true l0_0 l0_1 l0_2 l1_0 l1_1) else (impl_WishMet.j0 k l2 (decide ((l2.length : Int) > 60)) l0_0 l0_1 l0_2 l1_0 l1_1)) else (impl_WishMet.j0 k l2 true l0_0 l0_1 l0_2 l1_0 l1_1))) else (impl_WishMet.j0 k l2 true l0_0 l0_1 l0_2 l1_0 l1_1))
/-! ### laws_FnExactWishMet: function 8 -/
/-! ### spec_l22Safe: function 88 -/
mutual
def spec_l22Safe.l0 : Nat → List Int → List ByteArray → Int → Int → List ByteArray → List Bool → List (List Int) → List ByteArray → List ByteArray → Option (List Int)
  | 0,_,_,_,_,_,_,_,_,_ => none
  | k + 1,x2,x15,x16,x17,x340000,x340001,x340002,x341000,x341001 => if x17 < x16 then (if 0 ≤ x17 then (if x17 < (x15.length : Int) then ((spec_l22In.f k x341001 (rdOf ByteArray.empty x15 x17)).bind fun t342 => (if t342 = true then (if x17 < (x2.length : Int) then (spec_l22Safe.l0 k (x2.set (x17 : Int).toNat (-1)) x15 x16 (wrap64 (x17 + 1)) x340000 x340001 x340002 x341000 x341001) else (none)) else (spec_l22Safe.l0 k x2 x15 x16 (wrap64 (x17 + 1)) x340000 x340001 x340002 x341000 x341001))) else (none)) else (none)) else (spec_l22Safe.l1 k x2 (x2.length : Int) 0 x340000 x340001 x340002)
def spec_l22Safe.l1 : Nat → List Int → Int → Int → List ByteArray → List Bool → List (List Int) → Option (List Int)
  | 0,_,_,_,_,_,_ => none
  | k + 1,x2,x31,x32,x340000,x340001,x340002 => if x32 < x31 then (spec_l22Safe.l2 k x2 x31 x32 (x2.length : Int) 0 x340000 x340001 x340002) else (some x2)
def spec_l22Safe.l2 : Nat → List Int → Int → Int → Int → Int → List ByteArray → List Bool → List (List Int) → Option (List Int)
  | 0,_,_,_,_,_,_,_,_ => none
  | k + 1,x2,x31,x32,x37,x38,x340000,x340001,x340002 => if x38 < x37 then (if 0 ≤ x38 then (if x38 < (x2.length : Int) then (if (rd x2 x38) < 0 then (spec_l22Safe.j3 k x2 x38 x31 x32 x37 x38 true x340000 x340001 x340002) else (if x38 < (x340002.length : Int) then (spec_l22Safe.j3 k x2 x38 x31 x32 x37 x38 (((rd_L3 x340002 x38).length : Int) == 0) x340000 x340001 x340002) else (none))) else (none)) else (none)) else (spec_l22Safe.l1 k x2 x31 (wrap64 (x32 + 1)) x340000 x340001 x340002)
def spec_l22Safe.j3 : Nat → List Int → Int → Int → Int → Int → Int → Bool → List ByteArray → List Bool → List (List Int) → Option (List Int)
  | 0,_,_,_,_,_,_,_,_,_,_ => none
  | k + 1,x2,x9,x31,x32,x37,x38,x54,x340000,x340001,x340002 => if x54 = true then (spec_l22Safe.l2 k x2 x31 x32 x37 (wrap64 (x38 + 1)) x340000 x340001 x340002) else (if 0 ≤ x9 then (if x9 < (x340002.length : Int) then (spec_l22Safe.l3 k x2 x9 false true x31 x32 x37 x38 (rd_L3 x340002 x9) ((rd_L3 x340002 x9).length : Int) 0 x340000 x340001 x340002) else (none)) else (none))
def spec_l22Safe.l3 : Nat → List Int → Int → Bool → Bool → Int → Int → Int → Int → List Int → Int → Int → List ByteArray → List Bool → List (List Int) → Option (List Int)
  | 0,_,_,_,_,_,_,_,_,_,_,_,_,_,_ => none
  | k + 1,x2,x9,x10,x11,x31,x32,x37,x38,x59,x60,x61,x340000,x340001,x340002 => if x61 < x60 then (if 0 ≤ x61 then (if x61 < (x59.length : Int) then (if x10 = true then (if x11 = true then (if 0 ≤ (rd x59 x61) then (if (rd x59 x61) < (x2.length : Int) then (spec_l22Safe.l3 k x2 x9 true (decide ((rd x2 (rd x59 x61)) ≥ 0)) x31 x32 x37 x38 x59 x60 (wrap64 (x61 + 1)) x340000 x340001 x340002) else (none)) else (none)) else (spec_l22Safe.l3 k x2 x9 true false x31 x32 x37 x38 x59 x60 (wrap64 (x61 + 1)) x340000 x340001 x340002)) else (if 0 ≤ (rd x59 x61) then (if (rd x59 x61) < (x2.length : Int) then (if x11 = true then (spec_l22Safe.l3 k x2 x9 (decide ((rd x2 (rd x59 x61)) ≥ 0)) (decide ((rd x2 (rd x59 x61)) ≥ 0)) x31 x32 x37 x38 x59 x60 (wrap64 (x61 + 1)) x340000 x340001 x340002) else (spec_l22Safe.l3 k x2 x9 (decide ((rd x2 (rd x59 x61)) ≥ 0)) false x31 x32 x37 x38 x59 x60 (wrap64 (x61 + 1)) x340000 x340001 x340002)) else (none)) else (none))) else (none)) else (none)) else (if 0 ≤ x9 then (if x9 < (x340001.length : Int) then (if rdOf false x340001 x9 = true then (if x10 = true then (spec_l22Safe.l2 k x2 x31 x32 x37 (wrap64 (x38 + 1)) x340000 x340001 x340002) else (if x9 < (x2.length : Int) then (spec_l22Safe.l2 k (x2.set (x9 : Int).toNat (-1)) x31 x32 x37 (wrap64 (x38 + 1)) x340000 x340001 x340002) else (none))) else (if x11 = true then (spec_l22Safe.l2 k x2 x31 x32 x37 (wrap64 (x38 + 1)) x340000 x340001 x340002) else (if x9 < (x2.length : Int) then (spec_l22Safe.l2 k (x2.set (x9 : Int).toNat (-1)) x31 x32 x37 (wrap64 (x38 + 1)) x340000 x340001 x340002) else (none)))) else (none)) else (none))
end
def spec_l22Safe.f (k : Nat) (l0_0 : List ByteArray) (l0_1 : List Bool) (l0_2 : List (List Int)) (l1_0 : List ByteArray) (l1_1 : List ByteArray) (l2 : List Int) : Option (List Int):=spec_l22Safe.l0 k l2 l0_0 (l0_0.length : Int) 0 l0_0 l0_1 l0_2 l1_0 l1_1
/-! ### spec_l22Ranks: function 51 -/
mutual
def spec_l22Ranks.l0 : Nat → Int → List Int → List ByteArray → Int → Int → List ByteArray → List Bool → List (List Int) → List ByteArray → List ByteArray → Option (List Int)
  | 0,_,_,_,_,_,_,_,_,_,_ => none
  | k + 1,x5,x6,x34,x35,x36,x357000,x357001,x357002,x358000,x358001 => if x36 < x35 then (if 0 ≤ x36 then (if x36 < (x34.length : Int) then (if x36 < (x6.length : Int) then ((some (x6.set (x36 : Int).toNat (-1) : List Int)).bind fun y363 => ((spec_l22In.f k x358000 (rdOf ByteArray.empty x34 x36)).bind fun t364 => (if t364 = true then ((spec_l22In.f k x358001 (rdOf ByteArray.empty x34 x36)).bind fun t365 => (if t365 = true then (spec_l22Ranks.l0 k x5 y363 x34 x35 (wrap64 (x36 + 1)) x357000 x357001 x357002 x358000 x358001) else (spec_l22Ranks.l0 k x5 (y363.set (x36 : Int).toNat 0) x34 x35 (wrap64 (x36 + 1)) x357000 x357001 x357002 x358000 x358001))) else (spec_l22Ranks.l0 k x5 y363 x34 x35 (wrap64 (x36 + 1)) x357000 x357001 x357002 x358000 x358001)))) else (none)) else (none)) else (none)) else (spec_l22Ranks.l1 k x5 x6 1 x357000 x357001 x357002 x358000 x358001)
def spec_l22Ranks.l1 : Nat → Int → List Int → Int → List ByteArray → List Bool → List (List Int) → List ByteArray → List ByteArray → Option (List Int)
  | 0,_,_,_,_,_,_,_,_ => none
  | k + 1,x5,x6,x9,x357000,x357001,x357002,x358000,x358001 => if x9 ≤ x5 then (spec_l22Ranks.l2 k x5 x6 x9 ([] : List Int) (x6.length : Int) 0 x357000 x357001 x357002 x358000 x358001) else (some x6)
def spec_l22Ranks.l2 : Nat → Int → List Int → Int → List Int → Int → Int → List ByteArray → List Bool → List (List Int) → List ByteArray → List ByteArray → Option (List Int)
  | 0,_,_,_,_,_,_,_,_,_,_,_ => none
  | k + 1,x5,x6,x9,x10,x65,x66,x357000,x357001,x357002,x358000,x358001 => if x66 < x65 then (if 0 ≤ x66 then (if x66 < (x6.length : Int) then (if (rd x6 x66) ≥ 0 then (spec_l22Ranks.j3 k x5 x6 x9 x10 x66 x65 x66 true x357000 x357001 x357002 x358000 x358001) else (if x66 < (x357000.length : Int) then ((spec_l22In.f k x358001 (rdOf ByteArray.empty x357000 x66)).bind fun t369 => (if t369 = true then (spec_l22Ranks.j3 k x5 x6 x9 x10 x66 x65 x66 true x357000 x357001 x357002 x358000 x358001) else (if x66 < (x357002.length : Int) then (spec_l22Ranks.j3 k x5 x6 x9 x10 x66 x65 x66 (((rd_L3 x357002 x66).length : Int) == 0) x357000 x357001 x357002 x358000 x358001) else (none)))) else (none))) else (none)) else (none)) else (spec_l22Ranks.l4 k x5 x6 x9 x10 (x10.length : Int) 0 x357000 x357001 x357002 x358000 x358001)
def spec_l22Ranks.j3 : Nat → Int → List Int → Int → List Int → Int → Int → Int → Bool → List ByteArray → List Bool → List (List Int) → List ByteArray → List ByteArray → Option (List Int)
  | 0,_,_,_,_,_,_,_,_,_,_,_,_,_ => none
  | k + 1,x5,x6,x9,x10,x11,x65,x66,x92,x357000,x357001,x357002,x358000,x358001 => if x92 = true then (spec_l22Ranks.l2 k x5 x6 x9 x10 x65 (wrap64 (x66 + 1)) x357000 x357001 x357002 x358000 x358001) else (if 0 ≤ x11 then (if x11 < (x357002.length : Int) then (spec_l22Ranks.l3 k x5 x6 x9 x10 x11 false true x65 x66 (rd_L3 x357002 x11) ((rd_L3 x357002 x11).length : Int) 0 x357000 x357001 x357002 x358000 x358001) else (none)) else (none))
def spec_l22Ranks.l3 : Nat → Int → List Int → Int → List Int → Int → Bool → Bool → Int → Int → List Int → Int → Int → List ByteArray → List Bool → List (List Int) → List ByteArray → List ByteArray → Option (List Int)
  | 0,_,_,_,_,_,_,_,_,_,_,_,_,_,_,_,_,_ => none
  | k + 1,x5,x6,x9,x10,x11,x12,x13,x65,x66,x97,x98,x99,x357000,x357001,x357002,x358000,x358001 => if x99 < x98 then (if 0 ≤ x99 then (if x99 < (x97.length : Int) then (if 0 ≤ (rd x97 x99) then (if (rd x97 x99) < (x6.length : Int) then (if x12 = true then (if x13 = true then (spec_l22Ranks.l3 k x5 x6 x9 x10 x11 true (decide ((rd x6 (rd x97 x99)) ≥ 0)) x65 x66 x97 x98 (wrap64 (x99 + 1)) x357000 x357001 x357002 x358000 x358001) else (spec_l22Ranks.l3 k x5 x6 x9 x10 x11 true false x65 x66 x97 x98 (wrap64 (x99 + 1)) x357000 x357001 x357002 x358000 x358001)) else (if x13 = true then (spec_l22Ranks.l3 k x5 x6 x9 x10 x11 (decide ((rd x6 (rd x97 x99)) ≥ 0)) (decide ((rd x6 (rd x97 x99)) ≥ 0)) x65 x66 x97 x98 (wrap64 (x99 + 1)) x357000 x357001 x357002 x358000 x358001) else (spec_l22Ranks.l3 k x5 x6 x9 x10 x11 (decide ((rd x6 (rd x97 x99)) ≥ 0)) false x65 x66 x97 x98 (wrap64 (x99 + 1)) x357000 x357001 x357002 x358000 x358001))) else (none)) else (none)) else (none)) else (none)) else (if 0 ≤ x11 then (if x11 < (x357001.length : Int) then (if rdOf false x357001 x11 = true then (if x12 = true then (if x10.length < 17592186044416 then (spec_l22Ranks.l2 k x5 x6 x9 (x10 ++ [x11]) x65 (wrap64 (x66 + 1)) x357000 x357001 x357002 x358000 x358001) else (none)) else (spec_l22Ranks.l2 k x5 x6 x9 x10 x65 (wrap64 (x66 + 1)) x357000 x357001 x357002 x358000 x358001)) else (if x13 = true then (if x10.length < 17592186044416 then (spec_l22Ranks.l2 k x5 x6 x9 (x10 ++ [x11]) x65 (wrap64 (x66 + 1)) x357000 x357001 x357002 x358000 x358001) else (none)) else (spec_l22Ranks.l2 k x5 x6 x9 x10 x65 (wrap64 (x66 + 1)) x357000 x357001 x357002 x358000 x358001))) else (none)) else (none))
def spec_l22Ranks.l4 : Nat → Int → List Int → Int → List Int → Int → Int → List ByteArray → List Bool → List (List Int) → List ByteArray → List ByteArray → Option (List Int)
  | 0,_,_,_,_,_,_,_,_,_,_,_ => none
  | k + 1,x5,x6,x9,x141,x142,x143,x357000,x357001,x357002,x358000,x358001 => if x143 < x142 then (if 0 ≤ x143 then (if x143 < (x141.length : Int) then (if 0 ≤ (rd x141 x143) then (if (rd x141 x143) < (x6.length : Int) then (spec_l22Ranks.l4 k x5 (x6.set ((rd x141 x143) : Int).toNat x9) x9 x141 x142 (wrap64 (x143 + 1)) x357000 x357001 x357002 x358000 x358001) else (none)) else (none)) else (none)) else (none)) else (spec_l22Ranks.l1 k x5 x6 (wrap64 (x9 + 1)) x357000 x357001 x357002 x358000 x358001)
end
def spec_l22Ranks.f (k : Nat) (l0_0 : List ByteArray) (l0_1 : List Bool) (l0_2 : List (List Int)) (l1_0 : List ByteArray) (l1_1 : List ByteArray) : Option (List Int):=if 0 ≤ (l0_0.length : Int) then (if ((l0_0.length : Int) : Int).toNat ≤ 35184372088832 then ((some (List.replicate ((l0_0.length : Int) : Int).toNat 0 : List Int)).bind fun y358 => (if (l1_0.length : Int) = 0 then ((spec_l22Safe.f k l0_0 l0_1 l0_2 l1_0 l1_1 y358).bind fun t361 => (some t361)) else (spec_l22Ranks.l0 k (l0_0.length : Int) y358 l0_0 (l0_0.length : Int) 0 l0_0 l0_1 l0_2 l1_0 l1_1))) else (none)) else (none)
/-! ### spec_WinningPlaces: function 14 -/
mutual
def spec_WinningPlaces.j0 : Nat → Bool → List ByteArray → List Bool → List (List Int) → List ByteArray → List ByteArray → Option (List Int × Bool)
  | 0,_,_,_,_,_,_ => none
  | k + 1,x16,x386000,x386001,x386002,x387000,x387001 => if x16 = true then (some (([] : List Int),false)) else ((spec_l22Ranks.f k x386000 x386001 x386002 x387000 x387001).bind fun t389 => (spec_WinningPlaces.l0 k ([] : List Int) t389 (t389.length : Int) 0))
def spec_WinningPlaces.l0 : Nat → List Int → List Int → Int → Int → Option (List Int × Bool)
  | 0,_,_,_,_ => none
  | k + 1,x6,x19,x20,x21 => if x21 < x20 then (if 0 ≤ x21 then (if x21 < (x19.length : Int) then (if (rd x19 x21) ≥ 0 then (if x6.length < 17592186044416 then (spec_WinningPlaces.l0 k (x6 ++ [x21]) x19 x20 (wrap64 (x21 + 1))) else (none)) else (spec_WinningPlaces.l0 k x6 x19 x20 (wrap64 (x21 + 1)))) else (none)) else (none)) else (some (x6,true))
end
def spec_WinningPlaces.f (k : Nat) (l0_0 : List ByteArray) (l0_1 : List Bool) (l0_2 : List (List Int)) (l1_0 : List ByteArray) (l1_1 : List ByteArray) : Option (List Int × Bool):=(spec_GoodBoard.f k l0_0 l0_1 l0_2).bind fun t387 => (if t387 = true then ((spec_l22Good.f k l1_0 l1_1).bind fun t388 => (spec_WinningPlaces.j0 k (!t388) l0_0 l0_1 l0_2 l1_0 l1_1)) else (spec_WinningPlaces.j0 k true l0_0 l0_1 l0_2 l1_0 l1_1))
end Go.Proofs.YtdihodboopeakaaDoor.Pr
namespace Go.Proofs.YtdihodboopeakaaDoor.Pr
open Go.RowKit Go.Proofs.YtdihodboopeakaaDoorW.PrintWords Go.Proofs.YtdihodboopeakaaDoorW.PrintLast Go.Proofs.YtdihodboopeakaaDoorW.PrintMore
attribute [local go_sem] max2_int min2_int max_two min_two max_three min_three max_four min_four
set_option linter.unusedVariables false
set_option linter.unusedSimpArgs false

set_option maxHeartbeats 8000000 in
set_option maxRecDepth 100000 in
theorem impl_Board_shuns.calls (k : Nat) (z9 : Option Addr) (c0_0 : Nat) (z2 : List ByteArray) (j0 : Option Addr) (c0_1 : Nat) (z5 : List Bool) (j1 : Option Addr) (c0_2 : Nat) (z6 : List (List Int)) (j7 : Option Addr) (c1_0 : Nat) (j4 : List ByteArray) (j8 : Option Addr) (c1_1 : Nat) (z7 : List ByteArray) (a2 : Int) (r : Bool) (w : World) (hr0_0 : Kd.C Kd.string w z9 z2.length z2) (hc0_0 : z2.length ≤ c0_0) (hr0_1 : Kd.C Kd.bool w j0 z5.length z5) (hc0_1 : z5.length ≤ c0_1) (hr0_2 : Kd.C (Kd.slice 3 (Kd.int .i64)) w j1 z6.length z6) (hc0_2 : z6.length ≤ c0_2) (hr1_0 : Kd.C Kd.string w j7 j4.length j4) (hc1_0 : j4.length ≤ c1_0) (hr1_1 : Kd.C Kd.string w j8 z7.length z7) (hc1_1 : z7.length ≤ c1_1) (h : impl_Board_shuns.f k z2 z5 z6 j4 z7 a2 = some r) :
   Calls Tryd.prog 79 #[.agg #[.slice z9 z2.length c0_0,.slice j0 z5.length c0_1,.slice j1 z6.length c0_2],.agg #[.slice j7 j4.length c1_0,.slice j8 z7.length c1_1],.int .i64 a2] w fun e w' => e = .returned (.bool r) ∧ Below w.heap.size w w':=by
  have za9:=Tryd.underlying34;have zb0:=Tryd.underlying36;have m2:=Aside0.mk hr0_0;have za2:=Aside0.mk hc0_0;clear hr0_0 hc0_0;have za3:=Aside0.mk hr0_1;have za4:=Aside0.mk hc0_1;clear hr0_1 hc0_1;have za5:=Aside0.mk hr0_2;have za6:=Aside0.mk hc0_2;clear hr0_2 hc0_2;have za7:=Aside0.mk hr1_0;have za8:=Aside0.mk hc1_0;clear hr1_0 hc1_0;have m3:=Aside0.mk hr1_1;have m4:=Aside0.mk hc1_1;clear hr1_1 hc1_1;have HB:=ak (Below.refl w.heap.size w);have H : (if 0 ≤ a2 then (if a2 < (z2.length : Int) then ((slices_Contains_string_string.f k z7 (rdOf ByteArray.empty z2 a2)).bind fun r1 => (some r1)) else (none)) else (none)) = some r:=h;clear h;by_cases c4 : 0 ≤ a2
  ·rw [if_pos c4] at H
   have zb1 : decide (0 ≤ a2) = true:=decide_eq_true c4;clear c4;by_cases c5 : a2 < (z2.length : Int)
   ·rw [if_pos c5] at H
    have zb2 : decide (a2 < (z2.length : Int)) = true:=decide_eq_true c5;clear c5;replace H:=Option.bind_eq_some_iff.mp H;obtain ⟨r1,A60,H⟩:=H;replace H : (some r1) = some r:=H;have A6:=Aside0.mk A60;clear A60
    obtain rfl:=Option.some.inj H
    go_enter Tryd.func79,Tryd.ntmps79;go_wp2_with (first | ((with_reducible refine gate_dst (N:=3) rfl ?_);refine box_event ?hg (N:=3) ?hd (cs:=#[.slice z9 z2.length c0_0,.slice j0 z5.length c0_1,.slice j1 z6.length c0_2]) (t:=34) ?hr ?_;(case hd => rfl);(case hg => rfl);(case hr => first | (go_simp;done) | (go_simp;rfl));intro z1 hg w7 hbox hb;have z0:=ak (hbox);have m5 : Aside0 (w.heap.size ≤ z1):=gz_;have m6 : Aside0 (w.heap.size ≤ z1):=gz_;replace HB:=ak (below_step hb_ hb);clear hb hbox hg) | ((with_reducible refine gate_dst (N:=4) rfl ?_);refine box_event ?hg (N:=4) ?hd (cs:=#[.slice j7 j4.length c1_0,.slice j8 z7.length c1_1]) (t:=36) ?hr ?_;(case hd => rfl);(case hg => rfl);(case hr => first | (go_simp;done) | (go_simp;rfl));intro z3 hg w8 hbox hb;have z4:=ak (hbox);have m7 : Aside0 (w.heap.size ≤ z3):=gz_;have m8 : Aside0 (w.heap.size ≤ z3):=gz_;have j2:=ak ((by rw [hg];exact Nat.ne_of_lt (blk_lt (g:=z1) (o:=.cells #[.slice z9 z2.length c0_0,.slice j0 z5.length c0_1,.slice j1 z6.length c0_2] 34 (0,0)) (bk_ z0.out)) : z1 ≠ z3));have j3:=ak ((by rw [hg];exact Nat.ne_of_gt (blk_lt (g:=z1) (o:=.cells #[.slice z9 z2.length c0_0,.slice j0 z5.length c0_1,.slice j1 z6.length c0_2] 34 (0,0)) (bk_ z0.out)) : z3 ≠ z1));replace z0:=bb_ z0 hb;replace HB:=ak (below_step hb_ hb);clear hb hbox hg;have za0:=j3.out;have za1:=j2.out;have r2:=b20 z4;have r3:=b21 z4;have r4:=blk_frozen z4.out 0;have r5:=blk_frozen z4.out 1;have r6:=b30 z0;have r7:=b31 z0;have r8:=b32 z0;have r9:=blk_frozen z0.out 0;have m0:=blk_frozen z0.out 1;have m1:=blk_frozen z0.out 2;have j5 : 0 ≤ (a2 : Int):=of_decide_eq_true as_;have j6 : a2 < (z2.length : Int):=of_decide_eq_true as_;obtain ⟨m9,e251,z8⟩:=Kd.at_string m2.out a2 j5 j6;cases e251;replace z8:=hc_ HB z8;replace j5:=eq_true j5;replace j6:=eq_true j6) | (go_at_call 73;(with_reducible refine (slices_Contains_string_string.calls k _ _ z7 (rdOf ByteArray.empty z2 a2) r1 _ ?j9 ?r0 A6.out).mono ?_);(case j9 => exact cb_ m3.out);(case r0 => exact m4.out);rintro e w' ⟨rfl,⟨nd,rfl⟩⟩;(try first | exact ⟨rfl,_,World.drewN_drewN _ _ _⟩ | exact ⟨rfl,_,Eq.trans (World.drewN_drewN _ _ _) (congrArg (World.drewN _) (Nat.add_assoc _ _ _))⟩)));(repeat (go_quiet (first | ((with_reducible refine gate_dst (N:=3) rfl ?_);refine box_event ?hg (N:=3) ?hd (cs:=#[.slice z9 z2.length c0_0,.slice j0 z5.length c0_1,.slice j1 z6.length c0_2]) (t:=34) ?hr ?_;(case hd => rfl);(case hg => rfl);(case hr => first | (go_simp;done) | (go_simp;rfl));intro z1 hg w7 hbox hb;have z0:=ak (hbox);have m5 : Aside0 (w.heap.size ≤ z1):=gz_;have m6 : Aside0 (w.heap.size ≤ z1):=gz_;replace HB:=ak (below_step hb_ hb);clear hb hbox hg) | ((with_reducible refine gate_dst (N:=4) rfl ?_);refine box_event ?hg (N:=4) ?hd (cs:=#[.slice j7 j4.length c1_0,.slice j8 z7.length c1_1]) (t:=36) ?hr ?_;(case hd => rfl);(case hg => rfl);(case hr => first | (go_simp;done) | (go_simp;rfl));intro z3 hg w8 hbox hb;have z4:=ak (hbox);have m7 : Aside0 (w.heap.size ≤ z3):=gz_;have m8 : Aside0 (w.heap.size ≤ z3):=gz_;have j2:=ak ((by rw [hg];exact Nat.ne_of_lt (blk_lt (g:=z1) (o:=.cells #[.slice z9 z2.length c0_0,.slice j0 z5.length c0_1,.slice j1 z6.length c0_2] 34 (0,0)) (bk_ z0.out)) : z1 ≠ z3));have j3:=ak ((by rw [hg];exact Nat.ne_of_gt (blk_lt (g:=z1) (o:=.cells #[.slice z9 z2.length c0_0,.slice j0 z5.length c0_1,.slice j1 z6.length c0_2] 34 (0,0)) (bk_ z0.out)) : z3 ≠ z1));replace z0:=bb_ z0 hb;replace HB:=ak (below_step hb_ hb);clear hb hbox hg;have za0:=j3.out;have za1:=j2.out;have r2:=b20 z4;have r3:=b21 z4;have r4:=blk_frozen z4.out 0;have r5:=blk_frozen z4.out 1;have r6:=b30 z0;have r7:=b31 z0;have r8:=b32 z0;have r9:=blk_frozen z0.out 0;have m0:=blk_frozen z0.out 1;have m1:=blk_frozen z0.out 2;have j5 : 0 ≤ (a2 : Int):=of_decide_eq_true as_;have j6 : a2 < (z2.length : Int):=of_decide_eq_true as_;obtain ⟨m9,e251,z8⟩:=Kd.at_string m2.out a2 j5 j6;cases e251;replace z8:=hc_ HB z8;replace j5:=eq_true j5;replace j6:=eq_true j6) | (go_at_call 73;(with_reducible refine (slices_Contains_string_string.calls k _ _ z7 (rdOf ByteArray.empty z2 a2) r1 _ ?j9 ?r0 A6.out).mono ?_);(case j9 => exact cb_ m3.out);(case r0 => exact m4.out);rintro e w' ⟨rfl,⟨nd,rfl⟩⟩;(try first | exact ⟨rfl,_,World.drewN_drewN _ _ _⟩ | exact ⟨rfl,_,Eq.trans (World.drewN_drewN _ _ _) (congrArg (World.drewN _) (Nat.add_assoc _ _ _))⟩)));try go_wp2_with (first | ((with_reducible refine gate_dst (N:=3) rfl ?_);refine box_event ?hg (N:=3) ?hd (cs:=#[.slice z9 z2.length c0_0,.slice j0 z5.length c0_1,.slice j1 z6.length c0_2]) (t:=34) ?hr ?_;(case hd => rfl);(case hg => rfl);(case hr => first | (go_simp;done) | (go_simp;rfl));intro z1 hg w7 hbox hb;have z0:=ak (hbox);have m5 : Aside0 (w.heap.size ≤ z1):=gz_;have m6 : Aside0 (w.heap.size ≤ z1):=gz_;replace HB:=ak (below_step hb_ hb);clear hb hbox hg) | ((with_reducible refine gate_dst (N:=4) rfl ?_);refine box_event ?hg (N:=4) ?hd (cs:=#[.slice j7 j4.length c1_0,.slice j8 z7.length c1_1]) (t:=36) ?hr ?_;(case hd => rfl);(case hg => rfl);(case hr => first | (go_simp;done) | (go_simp;rfl));intro z3 hg w8 hbox hb;have z4:=ak (hbox);have m7 : Aside0 (w.heap.size ≤ z3):=gz_;have m8 : Aside0 (w.heap.size ≤ z3):=gz_;have j2:=ak ((by rw [hg];exact Nat.ne_of_lt (blk_lt (g:=z1) (o:=.cells #[.slice z9 z2.length c0_0,.slice j0 z5.length c0_1,.slice j1 z6.length c0_2] 34 (0,0)) (bk_ z0.out)) : z1 ≠ z3));have j3:=ak ((by rw [hg];exact Nat.ne_of_gt (blk_lt (g:=z1) (o:=.cells #[.slice z9 z2.length c0_0,.slice j0 z5.length c0_1,.slice j1 z6.length c0_2] 34 (0,0)) (bk_ z0.out)) : z3 ≠ z1));replace z0:=bb_ z0 hb;replace HB:=ak (below_step hb_ hb);clear hb hbox hg;have za0:=j3.out;have za1:=j2.out;have r2:=b20 z4;have r3:=b21 z4;have r4:=blk_frozen z4.out 0;have r5:=blk_frozen z4.out 1;have r6:=b30 z0;have r7:=b31 z0;have r8:=b32 z0;have r9:=blk_frozen z0.out 0;have m0:=blk_frozen z0.out 1;have m1:=blk_frozen z0.out 2;have j5 : 0 ≤ (a2 : Int):=of_decide_eq_true as_;have j6 : a2 < (z2.length : Int):=of_decide_eq_true as_;obtain ⟨m9,e251,z8⟩:=Kd.at_string m2.out a2 j5 j6;cases e251;replace z8:=hc_ HB z8;replace j5:=eq_true j5;replace j6:=eq_true j6) | (go_at_call 73;(with_reducible refine (slices_Contains_string_string.calls k _ _ z7 (rdOf ByteArray.empty z2 a2) r1 _ ?j9 ?r0 A6.out).mono ?_);(case j9 => exact cb_ m3.out);(case r0 => exact m4.out);rintro e w' ⟨rfl,⟨nd,rfl⟩⟩;(try first | exact ⟨rfl,_,World.drewN_drewN _ _ _⟩ | exact ⟨rfl,_,Eq.trans (World.drewN_drewN _ _ _) (congrArg (World.drewN _) (Nat.add_assoc _ _ _))⟩)))))
    go_ret;exact ⟨er_,hb_⟩
   ·rw [if_neg c5] at H
    exact absurd H (by simp)
  ·rw [if_neg c4] at H
   exact absurd H (by simp)

end Go.Proofs.YtdihodboopeakaaDoor.Pr
