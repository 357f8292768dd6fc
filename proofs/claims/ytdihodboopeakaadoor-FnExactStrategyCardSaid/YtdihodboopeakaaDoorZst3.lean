-- Joined and pruned by wip/tools/prune.py out of this session's own texts (Pr0, Odd, Prd1, Prd2, Sla, Ow, Pr10, Pr15, Gwd, Prd3, Pr16)
import Derived.Test.YtdihodboopeakaaDoorZst2
import Derived.Test.YtdihodboopeakaaDoorProg
import Derived.Below
import Derived.Deep.Draws
import Derived.Deep.AppendLies
import Derived.Maps.AppendAt
import Derived.OwnWalk
import Derived.Laws.BytesArg
import Derived.Laws.MakeOwn
import Derived.Laws.OwnMore
import Derived.Deep.OwnRows
import Derived.Tactics
import Derived.Lib.ConvBytes
import Derived.Laws.Slices
import Derived.WalkKit
import Derived.KernelRfl
import Derived.RowKit3
import Derived.Deep.LoopGhost
import Derived.Deep.QuietTactic
import Derived.BigQuiet
import Derived.WideLaws
import Derived.Deep.DeepCutAuto
import Derived.Deep.CutBlock
import Derived.Deep.RegionHeld3
import Derived.Laws.Rows
import Derived.Lib.AppendStr
import Derived.ArgAppend
import Derived.Laws.IdiomCopy
import Derived.OrdersHeld
import Derived.Laws.BitsLemmas
import Derived.RowKit
import Derived.Lib.RuneCount
import GoSem.Core.Utf8
import Derived.Ground.NamesProg
import Derived.Shelf.Utf8.RuneCount
import Derived.Shelf.Unicode.DecodeSlow
import Derived.Shelf.Unicode.DecodeAny
import Derived.Lib.TrimUEq
import Derived.Lib.DecodeN
import Derived.Outline
-- Written by this session's own print (wip/tools/mkmp.py) out of the translation. Lean checks it.
namespace Go.Proofs.YtdihodboopeakaaDoor.Pr
open Go.RowKit Go.Proofs.YtdihodboopeakaaDoorW.PrintWords Go.Proofs.YtdihodboopeakaaDoorW.PrintLast Go.Proofs.YtdihodboopeakaaDoorW.PrintMore
attribute [local go_sem] max2_int min2_int max_two min_two max_three min_three max_four min_four   -- for this text's walks alone
set_option linter.unusedVariables false
set_option linter.unusedSimpArgs false



def errW : Option Int → Value
  | none => .nilIface
  | some c => .iface 0 (.int .i64 c)
theorem errW_none : errW none = .nilIface := rfl
theorem errW_some (c : Int) : errW (some c) = .iface 0 (.int .i64 c) := rfl

theorem info3 : (Tryd.prog.info? 3).map (fun i => (i.zero, i.size, i.bytes)) = some (some (.int .i64 0), 1, 8) := by kernel_rfl
theorem info4 : (Tryd.prog.info? 4).map (fun i => (i.zero, i.size, i.bytes)) = some (some (.bool false), 1, 1) := by kernel_rfl
theorem info9 : (Tryd.prog.info? 9).map (fun i => (i.zero, i.size, i.bytes)) = some (some (.string ⟨#[]⟩), 1, 16) := by kernel_rfl
theorem info31 : (Tryd.prog.info? 31).map (fun i => (i.zero, i.size, i.bytes)) = some (some (.slice none 0 0), 1, 24) := by kernel_rfl
-- the values' own types
def rd_L3 (xs : List (List Int)) (i : Int) : (List Int) := xs.getD i.toNat ([] : List Int)
theorem at_L3 {w : World} {A : Option Addr} {n : Nat} {xs : List (List Int)} (h : Kd.C (Kd.slice 3 (Kd.int .i64)) w A n xs) (i : Int) (h0 : 0 ≤ i) (h1 : i < n) : ∃ ad A0 c0, A = some ad ∧ w.cell? (ad.add i.toNat) = some (.slice A0 (rd_L3 xs i).length c0) ∧ (rd_L3 xs i).length ≤ c0 ∧ (Kd.int .i64).C w A0 (rd_L3 xs i).length (rd_L3 xs i) := by
  obtain ⟨ad, c, e, _, hK, hc0⟩ := Kd.C_get h ([] : List Int) i h0 h1; have hc : ∀ j u, c[j]? = some u → w.cell? (ad.add (i.toNat * 1 + j)) = some u := hc0; obtain ⟨A0, c0, rfl, l0, g0⟩ := hK; exact ⟨ad, A0, c0, e, by have hq := hc 0 _ rfl; rwa [Nat.mul_one, Nat.add_zero] at hq, l0, g0⟩

end Go.Proofs.YtdihodboopeakaaDoor.Pr
/- impl.oddRune and impl.goodName by hand: what they compute. -/
namespace Go.Proofs.YtdihodboopeakaaDoor.Pr
open Go.RowKit Go.Proofs.YtdihodboopeakaaDoorW.PrintWords
/-- A rune (with its width) that no name has. -/
def badRune (d : Nat × Nat) : Bool := decide ((d.1 = 65533 ∧ d.2 = 1) ∨ (d.1 < 128 ∧ ¬ ((97 ≤ d.1 ∧ d.1 ≤ 122) ∨ (65 ≤ d.1 ∧ d.1 ≤ 90))))
def oddFrom (s : ByteArray) : Nat → Nat → Int
  | 0, _ => -1
  | f + 1, pos => if pos < s.size then (if badRune (Utf8.decode s pos) = true then (pos : Int) else oddFrom s f (pos + (Utf8.decode s pos).2)) else -1
def oddOf (s : ByteArray) : Int := oddFrom s s.size 0
def impl_oddRune.f (s : ByteArray) : Option Int := if s.size ≤ 140737488355328 then some (oddOf s) else none
def impl_goodName.f (s : ByteArray) : Option Bool := if s.size ≤ 140737488355328 then some (decide (1 ≤ Lib.runeCount s ∧ Lib.runeCount s ≤ 12 ∧ oddOf s < 0)) else none
end Go.Proofs.YtdihodboopeakaaDoor.Pr
-- Written by this session's own print (wip/tools/mkmp.py) out of the translation. Lean checks it.
namespace Go.Proofs.YtdihodboopeakaaDoor.Pr
open Go.RowKit Go.Proofs.YtdihodboopeakaaDoorW.PrintWords Go.Proofs.YtdihodboopeakaaDoorW.PrintLast Go.Proofs.YtdihodboopeakaaDoorW.PrintMore
attribute [local go_sem] max2_int min2_int max_two min_two max_three min_three max_four min_four   -- for this text's walks alone
set_option linter.unusedVariables false
set_option linter.unusedSimpArgs false

/-! ### laws_szStringS: function 47 -/
def laws_szStringS.l0 : Nat → List ByteArray → Int → Int → Option (Int)
  | 0, _, _, _ => none
  | k + 1, x0, x1, x5 => if x5 < (x0.length : Int) then (if 0 ≤ x5 then (if (wrap64 (x1 - ((rdOf ByteArray.empty x0 x5).size : Int))) < 0 then (some (-1)) else (laws_szStringS.l0 k x0 (wrap64 (x1 - ((rdOf ByteArray.empty x0 x5).size : Int))) (wrap64 (x5 + 1)))) else (none)) else (some x1)
def laws_szStringS.f (k : Nat) (l0 : List ByteArray) (a1 : Int) : Option (Int) := if (wrap64 (a1 - (l0.length : Int))) < 0 then (some (-1)) else (laws_szStringS.l0 k l0 (wrap64 (a1 - (l0.length : Int))) 0)
/-! ### laws_szBoolS: function 48 -/
def laws_szBoolS.f (l0 : List Bool) (a1 : Int) : Option (Int) := if (wrap64 (a1 - (l0.length : Int))) < 0 then (some (-1)) else (some (wrap64 (a1 - (l0.length : Int))))

/-! ### laws_szIntS: function 86 -/
def laws_szIntS.f (l0 : List Int) (a1 : Int) : Option (Int) := if (wrap64 (a1 - (l0.length : Int))) < 0 then (some (-1)) else (some (wrap64 (a1 - (l0.length : Int))))

/-! ### laws_szIntSS: function 49 -/
def laws_szIntSS.l0 : Nat → List (List Int) → Int → Int → Option (Int)
  | 0, _, _, _ => none
  | k + 1, x0, x1, x5 => if x5 < (x0.length : Int) then (if 0 ≤ x5 then ((laws_szIntS.f (rd_L3 x0 x5) x1).bind fun t103 => (if t103 < 0 then (some (-1)) else (laws_szIntSS.l0 k x0 t103 (wrap64 (x5 + 1))))) else (none)) else (some x1)
def laws_szIntSS.f (k : Nat) (l0 : List (List Int)) (a1 : Int) : Option (Int) := if (wrap64 (a1 - (l0.length : Int))) < 0 then (some (-1)) else (laws_szIntSS.l0 k l0 (wrap64 (a1 - (l0.length : Int))) 0)
/-! ### laws_szBoard: function 12 -/
def laws_szBoard.f (k : Nat) (l0_0 : List ByteArray) (l0_1 : List Bool) (l0_2 : List (List Int)) (a1 : Int) : Option (Int) := (laws_szStringS.f k l0_0 a1).bind fun t105 => (if t105 < 0 then (some (-1)) else ((laws_szBoolS.f l0_1 t105).bind fun t106 => (if t106 < 0 then (some (-1)) else ((laws_szIntSS.f k l0_2 t106).bind fun t107 => (if t107 < 0 then (some (-1)) else (some t107))))))
/-! ### laws_toStringS: function 52 -/
def laws_toStringS.l0 : Nat → List ByteArray → List ByteArray → Int → Option (List ByteArray)
  | 0, _, _, _ => none
  | k + 1, x0, x3, x4 => if x4 < (x0.length : Int) then (if 0 ≤ x4 then (if x4 < (x3.length : Int) then (laws_toStringS.l0 k x0 (x3.set (x4 : Int).toNat (rdOf ByteArray.empty x0 x4)) (wrap64 (x4 + 1))) else (none)) else (none)) else (some x3)
def laws_toStringS.f (k : Nat) (l0 : List ByteArray) : Option (List ByteArray) := if 0 ≤ (l0.length : Int) then (if ((l0.length : Int) : Int).toNat ≤ 17592186044416 then (laws_toStringS.l0 k l0 (List.replicate ((l0.length : Int) : Int).toNat (⟨#[]⟩ : ByteArray)) 0) else (none)) else (none)
/-! ### laws_toBoolS: function 53 -/
def laws_toBoolS.l0 : Nat → List Bool → List Bool → Int → Option (List Bool)
  | 0, _, _, _ => none
  | k + 1, x0, x3, x4 => if x4 < (x0.length : Int) then (if 0 ≤ x4 then (if x4 < (x3.length : Int) then (laws_toBoolS.l0 k x0 (x3.set (x4 : Int).toNat (rdOf false x0 x4)) (wrap64 (x4 + 1))) else (none)) else (none)) else (some x3)
def laws_toBoolS.f (k : Nat) (l0 : List Bool) : Option (List Bool) := if 0 ≤ (l0.length : Int) then (if ((l0.length : Int) : Int).toNat ≤ 281474976710656 then (laws_toBoolS.l0 k l0 (List.replicate ((l0.length : Int) : Int).toNat false) 0) else (none)) else (none)
/-! ### laws_toIntS: function 37 -/
def laws_toIntS.l0 : Nat → List Int → List Int → Int → Option (List Int)
  | 0, _, _, _ => none
  | k + 1, x0, x3, x4 => if x4 < (x0.length : Int) then (if 0 ≤ x4 then (if x4 < (x3.length : Int) then (laws_toIntS.l0 k x0 (x3.set (x4 : Int).toNat (rd x0 x4)) (wrap64 (x4 + 1))) else (none)) else (none)) else (some x3)
def laws_toIntS.f (k : Nat) (l0 : List Int) : Option (List Int) := if 0 ≤ (l0.length : Int) then (if ((l0.length : Int) : Int).toNat ≤ 35184372088832 then (laws_toIntS.l0 k l0 (List.replicate ((l0.length : Int) : Int).toNat 0) 0) else (none)) else (none)
/-! ### laws_toIntSS: function 54 -/
def laws_toIntSS.l0 : Nat → List (List Int) → List (List Int) → Int → Option ((List (List Int)))
  | 0, _, _, _ => none
  | k + 1, x0, x3, x4 => if x4 < (x0.length : Int) then (if 0 ≤ x4 then ((laws_toIntS.f k (rd_L3 x0 x4)).bind fun t127 => (if x4 < (x3.length : Int) then (laws_toIntSS.l0 k x0 (x3.set (x4 : Int).toNat t127) (wrap64 (x4 + 1))) else (none))) else (none)) else (some x3)
def laws_toIntSS.f (k : Nat) (l0 : List (List Int)) : Option ((List (List Int))) := if 0 ≤ (l0.length : Int) then (if ((l0.length : Int) : Int).toNat ≤ 11728124029610 then (laws_toIntSS.l0 k l0 (List.replicate ((l0.length : Int) : Int).toNat []) 0) else (none)) else (none)
/-! ### laws_toBoard: function 15 -/
def laws_toBoard.f (k : Nat) (l0_0 : List ByteArray) (l0_1 : List Bool) (l0_2 : List (List Int)) : Option (List ByteArray × List Bool × (List (List Int))) := (laws_toStringS.f k l0_0).bind fun t134 => ((laws_toBoolS.f k l0_1).bind fun t137 => ((laws_toIntSS.f k l0_2).bind fun t140 => (some (t134, t137, t140))))
/-! ### laws_eqStringS: function 57 -/
def laws_eqStringS.l0 : Nat → List ByteArray → List ByteArray → Int → Option (Bool)
  | 0, _, _, _ => none
  | k + 1, x0, x1, x5 => if x5 < (x0.length : Int) then (if 0 ≤ x5 then (if x5 < (x1.length : Int) then (if (rdOf ByteArray.empty x0 x5).toList = (rdOf ByteArray.empty x1 x5).toList then (laws_eqStringS.l0 k x0 x1 (wrap64 (x5 + 1))) else (some false)) else (none)) else (none)) else (some true)
def laws_eqStringS.f (k : Nat) (l0 : List ByteArray) (l1 : List ByteArray) : Option (Bool) := if (l0.length : Int) = (l1.length : Int) then (laws_eqStringS.l0 k l0 l1 0) else (some false)
/-! ### laws_eqBoolS: function 58 -/
def laws_eqBoolS.l0 : Nat → List Bool → List Bool → Int → Option (Bool)
  | 0, _, _, _ => none
  | k + 1, x0, x1, x5 => if x5 < (x0.length : Int) then (if 0 ≤ x5 then (if x5 < (x1.length : Int) then (if ((rdOf false x0 x5) != (rdOf false x1 x5)) = true then (some false) else (laws_eqBoolS.l0 k x0 x1 (wrap64 (x5 + 1)))) else (none)) else (none)) else (some true)
def laws_eqBoolS.f (k : Nat) (l0 : List Bool) (l1 : List Bool) : Option (Bool) := if (l0.length : Int) = (l1.length : Int) then (laws_eqBoolS.l0 k l0 l1 0) else (some false)
/-! ### laws_eqIntS: function 18 -/
def laws_eqIntS.l0 : Nat → List Int → List Int → Int → Option (Bool)
  | 0, _, _, _ => none
  | k + 1, x0, x1, x5 => if x5 < (x0.length : Int) then (if 0 ≤ x5 then (if x5 < (x1.length : Int) then (if (rd x0 x5) = (rd x1 x5) then (laws_eqIntS.l0 k x0 x1 (wrap64 (x5 + 1))) else (some false)) else (none)) else (none)) else (some true)
def laws_eqIntS.f (k : Nat) (l0 : List Int) (l1 : List Int) : Option (Bool) := if (l0.length : Int) = (l1.length : Int) then (laws_eqIntS.l0 k l0 l1 0) else (some false)
/-! ### laws_eqIntSS: function 59 -/
def laws_eqIntSS.l0 : Nat → List (List Int) → List (List Int) → Int → Option (Bool)
  | 0, _, _, _ => none
  | k + 1, x0, x1, x5 => if x5 < (x0.length : Int) then (if 0 ≤ x5 then (if x5 < (x1.length : Int) then ((laws_eqIntS.f k (rd_L3 x0 x5) (rd_L3 x1 x5)).bind fun t151 => (if t151 = true then (laws_eqIntSS.l0 k x0 x1 (wrap64 (x5 + 1))) else (some false))) else (none)) else (none)) else (some true)
def laws_eqIntSS.f (k : Nat) (l0 : List (List Int)) (l1 : List (List Int)) : Option (Bool) := if (l0.length : Int) = (l1.length : Int) then (laws_eqIntSS.l0 k l0 l1 0) else (some false)
/-! ### laws_eqBoard: function 19 -/
def laws_eqBoard.f (k : Nat) (l0_0 : List ByteArray) (l0_1 : List Bool) (l0_2 : List (List Int)) (l1_0 : List ByteArray) (l1_1 : List Bool) (l1_2 : List (List Int)) : Option (Bool) := (laws_eqStringS.f k l0_0 l1_0).bind fun t154 => (if t154 = true then ((laws_eqBoolS.f k l0_1 l1_1).bind fun t155 => (if t155 = true then ((laws_eqIntSS.f k l0_2 l1_2).bind fun t156 => (if t156 = true then (some true) else (some false))) else (some false))) else (some false))
/-! ### spec_l22Rune: function 91 -/
mutual
def spec_l22Rune.j3 : Nat → ByteArray → Int → Int → Int → Int → Option (Int)
  | 0, _, _, _, _, _ => none
  | k + 1, x0, x1, x6, x7, x8 => spec_l22Rune.l0 k x0 x1 x6 x7 x8 1
def spec_l22Rune.l0 : Nat → ByteArray → Int → Int → Int → Int → Int → Option (Int)
  | 0, _, _, _, _, _, _ => none
  | k + 1, x0, x1, x6, x7, x8, x9 => if x9 < x6 then (if (wrap64 (x1 + x9)) ≥ (x0.size : Int) then (some 0) else (if 0 ≤ (wrap64 (x1 + x9)) then (if (wrap64 (x1 + x9)) < (x0.size : Int) then (if (wrap64 (bt x0 (wrap64 (x1 + x9)))) < x7 then (some 0) else (if (wrap64 (bt x0 (wrap64 (x1 + x9)))) > x8 then (some 0) else (spec_l22Rune.l0 k x0 x1 x6 128 191 (wrap64 (x9 + 1))))) else (none)) else (none))) else (some x6)
def spec_l22Rune.j0 : Nat → ByteArray → Int → Int → Int → Int → Bool → Option (Int)
  | 0, _, _, _, _, _, _ => none
  | k + 1, x0, x1, x5, x7, x8, x18 => if x18 = true then (spec_l22Rune.j3 k x0 x1 2 x7 x8) else (if x5 ≥ 224 then (spec_l22Rune.j1 k x0 x1 x5 x7 x8 (decide (x5 ≤ 239))) else (spec_l22Rune.j1 k x0 x1 x5 x7 x8 false))
def spec_l22Rune.j1 : Nat → ByteArray → Int → Int → Int → Int → Bool → Option (Int)
  | 0, _, _, _, _, _, _ => none
  | k + 1, x0, x1, x5, x7, x8, x25 => if x25 = true then (if x5 = 224 then (if x5 = 237 then (spec_l22Rune.j3 k x0 x1 3 160 159) else (spec_l22Rune.j3 k x0 x1 3 160 x8)) else (if x5 = 237 then (spec_l22Rune.j3 k x0 x1 3 x7 159) else (spec_l22Rune.j3 k x0 x1 3 x7 x8))) else (if x5 ≥ 240 then (spec_l22Rune.j2 k x0 x1 x5 x7 x8 (decide (x5 ≤ 244))) else (spec_l22Rune.j2 k x0 x1 x5 x7 x8 false))
def spec_l22Rune.j2 : Nat → ByteArray → Int → Int → Int → Int → Bool → Option (Int)
  | 0, _, _, _, _, _, _ => none
  | k + 1, x0, x1, x5, x7, x8, x36 => if x36 = true then (if x5 = 240 then (if x5 = 244 then (spec_l22Rune.j3 k x0 x1 4 144 143) else (spec_l22Rune.j3 k x0 x1 4 144 x8)) else (if x5 = 244 then (spec_l22Rune.j3 k x0 x1 4 x7 143) else (spec_l22Rune.j3 k x0 x1 4 x7 x8))) else (some 0)
end
def spec_l22Rune.f (k : Nat) (a0 : ByteArray) (a1 : Int) : Option (Int) := if 0 ≤ a1 then (if a1 < (a0.size : Int) then (if (wrap64 (bt a0 a1)) < 128 then (some 1) else (if (wrap64 (bt a0 a1)) ≥ 194 then (spec_l22Rune.j0 k a0 a1 (wrap64 (bt a0 a1)) 128 191 (decide ((wrap64 (bt a0 a1)) ≤ 223))) else (spec_l22Rune.j0 k a0 a1 (wrap64 (bt a0 a1)) 128 191 false))) else (none)) else (none)
/-! ### spec_l22Letter: function 92 -/
def spec_l22Letter.f (a0 : Int) : Option (Bool) := if a0 ≥ 97 then (if a0 ≤ 122 then (some true) else (if a0 ≥ 65 then (some (decide (a0 ≤ 90))) else (some false))) else (if a0 ≥ 65 then (some (decide (a0 ≤ 90))) else (some false))

/-! ### spec_l22Odd: function 67 -/
def spec_l22Odd.l0 : Nat → ByteArray → Int → Int → Option (Int × Int)
  | 0, _, _, _ => none
  | k + 1, x0, x4, x5 => if x5 < (x0.size : Int) then ((spec_l22Rune.f k x0 x5).bind fun t157 => (if t157 = 0 then (some (x5, 0)) else (if t157 = 1 then (if 0 ≤ x5 then ((spec_l22Letter.f (bt x0 x5)).bind fun t158 => (if t158 = true then (spec_l22Odd.l0 k x0 (wrap64 (x4 + 1)) (wrap64 (x5 + t157))) else (some (x5, 0)))) else (none)) else (spec_l22Odd.l0 k x0 (wrap64 (x4 + 1)) (wrap64 (x5 + t157)))))) else (some ((-1), x4))
def spec_l22Odd.f (k : Nat) (a0 : ByteArray) : Option (Int × Int) := spec_l22Odd.l0 k a0 0 0
/-! ### spec_l22Name: function 64 -/
def spec_l22Name.f (k : Nat) (a0 : ByteArray) : Option (Bool) := (spec_l22Odd.f k a0).bind fun bt159 => (if bt159.1 < 0 then (if bt159.2 ≥ 1 then (some (decide (bt159.2 ≤ 12))) else (some false)) else (some false))
/-! ### spec_GoodBoard: function 27 -/
mutual
def spec_GoodBoard.j0 : Nat → Int → Bool → List ByteArray → List Bool → List (List Int) → Option (Bool)
  | 0, _, _, _, _, _ => none
  | k + 1, x3, x30, x162000, x162001, x162002 => if x30 = true then (some false) else (spec_GoodBoard.l0 k x3 x162000 (x162000.length : Int) 0 x162000 x162001 x162002)
def spec_GoodBoard.l0 : Nat → Int → List ByteArray → Int → Int → List ByteArray → List Bool → List (List Int) → Option (Bool)
  | 0, _, _, _, _, _, _, _ => none
  | k + 1, x3, x32, x33, x34, x162000, x162001, x162002 => if x34 < x33 then (if 0 ≤ x34 then (if x34 < (x32.length : Int) then (if (rdOf ByteArray.empty x32 x34).toList = ([] : List UInt8) then (spec_GoodBoard.j2 k x3 x34 x32 x33 x34 false x162000 x162001 x162002) else ((spec_l22Name.f k (rdOf ByteArray.empty x32 x34)).bind fun t163 => (spec_GoodBoard.j2 k x3 x34 x32 x33 x34 (!t163) x162000 x162001 x162002))) else (none)) else (none)) else (some true)
def spec_GoodBoard.j2 : Nat → Int → Int → List ByteArray → Int → Int → Bool → List ByteArray → List Bool → List (List Int) → Option (Bool)
  | 0, _, _, _, _, _, _, _, _, _ => none
  | k + 1, x3, x4, x32, x33, x34, x45, x162000, x162001, x162002 => if x45 = true then (some false) else (if 0 ≤ x4 then (if x4 < (x162002.length : Int) then (spec_GoodBoard.l1 k x3 x4 x32 x33 x34 (rd_L3 x162002 x4) ((rd_L3 x162002 x4).length : Int) 0 x162000 x162001 x162002) else (none)) else (none))
def spec_GoodBoard.l1 : Nat → Int → Int → List ByteArray → Int → Int → List Int → Int → Int → List ByteArray → List Bool → List (List Int) → Option (Bool)
  | 0, _, _, _, _, _, _, _, _, _, _, _ => none
  | k + 1, x3, x4, x32, x33, x34, x50, x51, x52, x162000, x162001, x162002 => if x52 < x51 then (if 0 ≤ x52 then (if x52 < (x50.length : Int) then (if (rd x50 x52) < 0 then (some false) else (if (rd x50 x52) ≥ x3 then (some false) else (if x52 > 0 then (if 0 ≤ x4 then (if x4 < (x162002.length : Int) then (if 0 ≤ (wrap64 (x52 - 1)) then (if (wrap64 (x52 - 1)) < ((rd_L3 x162002 x4).length : Int) then (if (rd (rd_L3 x162002 x4) (wrap64 (x52 - 1))) ≥ (rd x50 x52) then (some false) else (spec_GoodBoard.l1 k x3 x4 x32 x33 x34 x50 x51 (wrap64 (x52 + 1)) x162000 x162001 x162002)) else (none)) else (none)) else (none)) else (none)) else (spec_GoodBoard.l1 k x3 x4 x32 x33 x34 x50 x51 (wrap64 (x52 + 1)) x162000 x162001 x162002)))) else (none)) else (none)) else (spec_GoodBoard.l0 k x3 x32 x33 (wrap64 (x34 + 1)) x162000 x162001 x162002)
end
def spec_GoodBoard.f (k : Nat) (l0_0 : List ByteArray) (l0_1 : List Bool) (l0_2 : List (List Int)) : Option (Bool) := if (l0_0.length : Int) < 1 then (spec_GoodBoard.j0 k (l0_0.length : Int) true l0_0 l0_1 l0_2) else (if (l0_0.length : Int) > 14 then (spec_GoodBoard.j0 k (l0_0.length : Int) true l0_0 l0_1 l0_2) else (if (l0_1.length : Int) = (l0_0.length : Int) then (spec_GoodBoard.j0 k (l0_0.length : Int) ((l0_2.length : Int) != (l0_0.length : Int)) l0_0 l0_1 l0_2) else (spec_GoodBoard.j0 k (l0_0.length : Int) true l0_0 l0_1 l0_2)))
end Go.Proofs.YtdihodboopeakaaDoor.Pr
-- Written by this session's own print (wip/tools/mkmp.py) out of the translation. Lean checks it.
namespace Go.Proofs.YtdihodboopeakaaDoor.Pr
open Go.RowKit Go.Proofs.YtdihodboopeakaaDoorW.PrintWords Go.Proofs.YtdihodboopeakaaDoorW.PrintLast Go.Proofs.YtdihodboopeakaaDoorW.PrintMore
attribute [local go_sem] max2_int min2_int max_two min_two max_three min_three max_four min_four   -- for this text's walks alone
set_option linter.unusedVariables false
set_option linter.unusedSimpArgs false

/-! ### impl_GoodBoard: function 28 -/
mutual
def impl_GoodBoard.j0 : Nat → Int → Bool → List ByteArray → List Bool → List (List Int) → Option (Bool)
  | 0, _, _, _, _, _ => none
  | k + 1, x3, x30, x169000, x169001, x169002 => if x30 = true then (some false) else (impl_GoodBoard.l0 k x3 x169000 (x169000.length : Int) 0 x169000 x169001 x169002)
def impl_GoodBoard.l0 : Nat → Int → List ByteArray → Int → Int → List ByteArray → List Bool → List (List Int) → Option (Bool)
  | 0, _, _, _, _, _, _, _ => none
  | k + 1, x3, x32, x33, x34, x169000, x169001, x169002 => if x34 < x33 then (if 0 ≤ x34 then (if x34 < (x32.length : Int) then (if (rdOf ByteArray.empty x32 x34).toList = ([] : List UInt8) then (if x34 < (x169002.length : Int) then (impl_GoodBoard.j2 k x3 x34 x32 x33 x34 (decide (((rd_L3 x169002 x34).length : Int) > 14)) x169000 x169001 x169002) else (none)) else ((impl_goodName.f (rdOf ByteArray.empty x32 x34)).bind fun t171 => (if t171 = true then (if x34 < (x169002.length : Int) then (impl_GoodBoard.j2 k x3 x34 x32 x33 x34 (decide (((rd_L3 x169002 x34).length : Int) > 14)) x169000 x169001 x169002) else (none)) else (impl_GoodBoard.j2 k x3 x34 x32 x33 x34 true x169000 x169001 x169002)))) else (none)) else (none)) else (some true)
def impl_GoodBoard.j2 : Nat → Int → Int → List ByteArray → Int → Int → Bool → List ByteArray → List Bool → List (List Int) → Option (Bool)
  | 0, _, _, _, _, _, _, _, _, _ => none
  | k + 1, x3, x4, x32, x33, x34, x54, x169000, x169001, x169002 => if x54 = true then (some false) else (if 0 ≤ x4 then (if x4 < (x169002.length : Int) then (impl_GoodBoard.l1 k x3 x4 x32 x33 x34 (rd_L3 x169002 x4) ((rd_L3 x169002 x4).length : Int) 0 x169000 x169001 x169002) else (none)) else (none))
def impl_GoodBoard.l1 : Nat → Int → Int → List ByteArray → Int → Int → List Int → Int → Int → List ByteArray → List Bool → List (List Int) → Option (Bool)
  | 0, _, _, _, _, _, _, _, _, _, _, _ => none
  | k + 1, x3, x4, x32, x33, x34, x59, x60, x61, x169000, x169001, x169002 => if x61 < x60 then (if 0 ≤ x61 then (if x61 < (x59.length : Int) then (if (rd x59 x61) < 0 then (some false) else (if (rd x59 x61) ≥ x3 then (some false) else (if x61 > 0 then (if 0 ≤ x4 then (if x4 < (x169002.length : Int) then (if 0 ≤ (wrap64 (x61 - 1)) then (if (wrap64 (x61 - 1)) < ((rd_L3 x169002 x4).length : Int) then (if (rd x59 x61) ≤ (rd (rd_L3 x169002 x4) (wrap64 (x61 - 1))) then (some false) else (impl_GoodBoard.l1 k x3 x4 x32 x33 x34 x59 x60 (wrap64 (x61 + 1)) x169000 x169001 x169002)) else (none)) else (none)) else (none)) else (none)) else (impl_GoodBoard.l1 k x3 x4 x32 x33 x34 x59 x60 (wrap64 (x61 + 1)) x169000 x169001 x169002)))) else (none)) else (none)) else (impl_GoodBoard.l0 k x3 x32 x33 (wrap64 (x34 + 1)) x169000 x169001 x169002)
end
def impl_GoodBoard.f (k : Nat) (l0_0 : List ByteArray) (l0_1 : List Bool) (l0_2 : List (List Int)) : Option (Bool) := if (l0_0.length : Int) < 1 then (impl_GoodBoard.j0 k (l0_0.length : Int) true l0_0 l0_1 l0_2) else (if (l0_0.length : Int) > 14 then (impl_GoodBoard.j0 k (l0_0.length : Int) true l0_0 l0_1 l0_2) else (if (l0_1.length : Int) = (l0_0.length : Int) then (impl_GoodBoard.j0 k (l0_0.length : Int) ((l0_2.length : Int) != (l0_0.length : Int)) l0_0 l0_1 l0_2) else (impl_GoodBoard.j0 k (l0_0.length : Int) true l0_0 l0_1 l0_2)))
/-! ### laws_FnExactGoodBoard: function 5 -/
/-! ### laws_szWish: function 13 -/
def laws_szWish.f (k : Nat) (l0_0 : List ByteArray) (l0_1 : List ByteArray) (a1 : Int) : Option (Int) := (laws_szStringS.f k l0_0 a1).bind fun t211 => (if t211 < 0 then (some (-1)) else ((laws_szStringS.f k l0_1 t211).bind fun t212 => (if t212 < 0 then (some (-1)) else (some t212))))
/-! ### laws_toWish: function 16 -/
def laws_toWish.f (k : Nat) (l0_0 : List ByteArray) (l0_1 : List ByteArray) : Option (List ByteArray × List ByteArray) := (laws_toStringS.f k l0_0).bind fun t216 => ((laws_toStringS.f k l0_1).bind fun t219 => (some (t216, t219)))
/-! ### laws_eqWish: function 20 -/
def laws_eqWish.f (k : Nat) (l0_0 : List ByteArray) (l0_1 : List ByteArray) (l1_0 : List ByteArray) (l1_1 : List ByteArray) : Option (Bool) := (laws_eqStringS.f k l0_0 l1_0).bind fun t224 => (if t224 = true then ((laws_eqStringS.f k l0_1 l1_1).bind fun t225 => (if t225 = true then (some true) else (some false))) else (some false))
/-! ### spec_l22In: function 68 -/
def spec_l22In.l0 : Nat → ByteArray → List ByteArray → Int → Int → Option (Bool)
  | 0, _, _, _, _ => none
  | k + 1, x1, x7, x8, x9 => if x9 < x8 then (if 0 ≤ x9 then (if x9 < (x7.length : Int) then (if (rdOf ByteArray.empty x7 x9).toList = x1.toList then (some true) else (spec_l22In.l0 k x1 x7 x8 (wrap64 (x9 + 1)))) else (none)) else (none)) else (some false)
def spec_l22In.f (k : Nat) (l0 : List ByteArray) (a1 : ByteArray) : Option (Bool) := spec_l22In.l0 k a1 l0 (l0.length : Int) 0
/-! ### spec_l22Names: function 87 -/
def spec_l22Names.l0 : Nat → List ByteArray → List ByteArray → Int → Int → Option (Bool)
  | 0, _, _, _, _ => none
  | k + 1, x0, x8, x9, x10 => if x10 < x9 then (if 0 ≤ x10 then (if x10 < (x8.length : Int) then ((spec_l22Name.f k (rdOf ByteArray.empty x8 x10)).bind fun t228 => (if t228 = true then (if x10 ≤ (x0.length : Int) then ((spec_l22In.f k (x0.take (x10 : Int).toNat) (rdOf ByteArray.empty x8 x10)).bind fun t230 => (if t230 = true then (some false) else (spec_l22Names.l0 k x0 x8 x9 (wrap64 (x10 + 1))))) else (none)) else (some false))) else (none)) else (none)) else (some true)
def spec_l22Names.f (k : Nat) (l0 : List ByteArray) : Option (Bool) := if (l0.length : Int) > 6 then (some false) else (spec_l22Names.l0 k l0 l0 (l0.length : Int) 0)
/-! ### spec_l22Good: function 50 -/
def spec_l22Good.f (k : Nat) (l0_0 : List ByteArray) (l0_1 : List ByteArray) : Option (Bool) := (spec_l22Names.f k l0_0).bind fun t232 => (if t232 = true then ((spec_l22Names.f k l0_1).bind fun t233 => (some t233)) else (some false))
/-! ### spec_WishMet: function 36 -/
/-! ### slices_Index_string_string: function 94 -/
def slices_Index_string_string.l0 : Nat → List ByteArray → ByteArray → Int → Int → Option (Int)
  | 0, _, _, _, _ => none
  | k + 1, x0, x1, x7, x8 => if x8 < x7 then (if 0 ≤ x8 then (if x8 < (x0.length : Int) then (if x1.toList = (rdOf ByteArray.empty x0 x8).toList then (some x8) else (slices_Index_string_string.l0 k x0 x1 x7 (wrap64 (x8 + 1)))) else (none)) else (none)) else (some (-1))
def slices_Index_string_string.f (k : Nat) (l0 : List ByteArray) (a1 : ByteArray) : Option (Int) := slices_Index_string_string.l0 k l0 a1 (l0.length : Int) 0
/-! ### slices_Contains_string_string: function 73 -/
def slices_Contains_string_string.f (k : Nat) (l0 : List ByteArray) (a1 : ByteArray) : Option (Bool) := (slices_Index_string_string.f k l0 a1).bind fun t248 => (some (decide (t248 ≥ 0)))
end Go.Proofs.YtdihodboopeakaaDoor.Pr
/-
  DERIVED: THE SHELF's CONTRACTS AT THIS DUMP, IN PLAIN WORDS (tools/lay-plain.mjs out of 'YtdihodboopeakaaDoorSxa.lean', which tools/lay-shelf.mjs wrote): THE SAME DECLARATIONS UNDER THE SAME NAMES: 'import', 'namespace', 'open', 'def', 'theorem' AND NOTHING ELSE: no command of the shelf's: FOR A HAND-IN. Each laying: the table of numbers ('.._ren') and one theorem, a field a fact of the dump's own or the kernel's comparison; each contract: ONE APPLICATION.
-/
namespace Go.Proofs
open Go.Shelf
def Tryd.lays195_ren : Go.Shelf.Ren := ⟨fun | 195 => 72 | n => n, fun | 9 => 9 | 3 => 3 | 0 => 0 | 4 => 4 | n => n, fun | n => n⟩
theorem Tryd.lays195 : Go.Proofs.Lays.n195 Tryd.prog Tryd.lays195_ren := {
  mixed := by kernel_rfl
  f195 := Tryd.func72.trans (congrArg some (by kernel_rfl))
  t0 := Tryd.underlying0
  a0 := Tryd.isAgg0
  z0 := Tryd.sizeOf0
  v0 := Tryd.zeroValue0
  t3 := Tryd.underlying3
  a3 := Tryd.isAgg3
  z3 := Tryd.sizeOf3
  v3 := Tryd.zeroValue3
  t4 := Tryd.underlying4
  a4 := Tryd.isAgg4
  z4 := Tryd.sizeOf4
  v4 := Tryd.zeroValue4
  t9 := Tryd.underlying9
  a9 := Tryd.isAgg9
  z9 := Tryd.sizeOf9
  v9 := Tryd.zeroValue9 }
open Go.RowKit in
theorem Tryd.utf8_RuneCountInString (s : ByteArray) (w : World) (hs : s.size < 9223372036854775807) :
    Calls Tryd.prog 72 #[.string s] w fun e w' => e = .returned (.int .i64 (Lib.runeCount s)) ∧ ∃ pos, w' = w.iter s pos := Any.utf8_RuneCountInString Tryd.lays195 s w hs
def Tryd.lays197_ren : Go.Shelf.Ren := ⟨fun | 197 => 93 | 260 => 104 | n => n, fun | 9 => 9 | 21 => 21 | 3 => 3 | 4 => 4 | 5 => 5 | 105 => 109 | 119 => 128 | 0 => 0 | 46 => 126 | 139 => 131 | 138 => 130 | n => n, fun | 3 => 0 | 4 => 1 | n => n⟩
theorem Tryd.lays197 : Go.Proofs.Lays.n197 Tryd.prog Tryd.lays197_ren := {
  mixed := by kernel_rfl
  f197 := Tryd.func93.trans (congrArg some (by kernel_rfl))
  f260 := Tryd.func104.trans (congrArg some (by kernel_rfl))
  t0 := Tryd.underlying0
  a0 := Tryd.isAgg0
  z0 := Tryd.sizeOf0
  v0 := Tryd.zeroValue0
  t3 := Tryd.underlying3
  a3 := Tryd.isAgg3
  z3 := Tryd.sizeOf3
  v3 := Tryd.zeroValue3
  t4 := Tryd.underlying4
  a4 := Tryd.isAgg4
  z4 := Tryd.sizeOf4
  v4 := Tryd.zeroValue4
  t5 := Tryd.underlying5
  a5 := Tryd.isAgg5
  z5 := Tryd.sizeOf5
  v5 := Tryd.zeroValue5
  t9 := Tryd.underlying9
  a9 := Tryd.isAgg9
  z9 := Tryd.sizeOf9
  v9 := Tryd.zeroValue9
  t21 := Tryd.underlying21
  a21 := Tryd.isAgg21
  z21 := Tryd.sizeOf21
  v21 := Tryd.zeroValue21
  t46 := Tryd.underlying126
  a46 := Tryd.isAgg126
  z46 := Tryd.sizeOf126
  v46 := Tryd.zeroValue126
  t105 := Tryd.underlying109
  a105 := Tryd.isAgg109
  z105 := Tryd.sizeOf109
  v105 := Tryd.zeroValue109
  t119 := Tryd.underlying128
  a119 := Tryd.isAgg128
  z119 := Tryd.sizeOf128
  t138 := Tryd.underlying130
  a138 := Tryd.isAgg130
  z138 := Tryd.sizeOf130
  v138 := Tryd.zeroValue130
  t139 := Tryd.underlying131
  a139 := Tryd.isAgg131
  z139 := Tryd.sizeOf131
  v139 := Tryd.zeroValue131
  g3 := by kernel_rfl
  g4 := by kernel_rfl }
def Tryd.lays260_ren : Go.Shelf.Ren := ⟨fun | 260 => 104 | n => n, fun | 9 => 9 | 21 => 21 | 3 => 3 | 4 => 4 | 5 => 5 | 119 => 128 | 0 => 0 | 46 => 126 | 139 => 131 | 138 => 130 | n => n, fun | 3 => 0 | 4 => 1 | n => n⟩
theorem Tryd.lays260 : Go.Proofs.Lays.n260 Tryd.prog Tryd.lays260_ren := {
  mixed := by kernel_rfl
  f260 := Tryd.func104.trans (congrArg some (by kernel_rfl))
  t0 := Tryd.underlying0
  a0 := Tryd.isAgg0
  z0 := Tryd.sizeOf0
  v0 := Tryd.zeroValue0
  t3 := Tryd.underlying3
  a3 := Tryd.isAgg3
  z3 := Tryd.sizeOf3
  v3 := Tryd.zeroValue3
  t4 := Tryd.underlying4
  a4 := Tryd.isAgg4
  z4 := Tryd.sizeOf4
  v4 := Tryd.zeroValue4
  t5 := Tryd.underlying5
  a5 := Tryd.isAgg5
  z5 := Tryd.sizeOf5
  v5 := Tryd.zeroValue5
  t9 := Tryd.underlying9
  a9 := Tryd.isAgg9
  z9 := Tryd.sizeOf9
  v9 := Tryd.zeroValue9
  t21 := Tryd.underlying21
  a21 := Tryd.isAgg21
  z21 := Tryd.sizeOf21
  v21 := Tryd.zeroValue21
  t46 := Tryd.underlying126
  a46 := Tryd.isAgg126
  z46 := Tryd.sizeOf126
  v46 := Tryd.zeroValue126
  t119 := Tryd.underlying128
  a119 := Tryd.isAgg128
  z119 := Tryd.sizeOf128
  t138 := Tryd.underlying130
  a138 := Tryd.isAgg130
  z138 := Tryd.sizeOf130
  v138 := Tryd.zeroValue130
  t139 := Tryd.underlying131
  a139 := Tryd.isAgg131
  z139 := Tryd.sizeOf131
  v139 := Tryd.zeroValue131
  g3 := by kernel_rfl
  g4 := by kernel_rfl }
open Go.RowKit Go.Lib in
theorem Tryd.utf8_DecodeRuneInString (s : ByteArray) (w : World) (hT : Lib.Utf8Tabs 0 1 w) :
    Calls Tryd.prog 93 #[.string s] w fun e w' => e = .returned (.tuple #[.int .i32 (Lib.decodeGo s).1, .int .i64 (Lib.decodeGo s).2]) ∧ Below w.heap.size w w' := Any.utf8_DecodeRuneInString Tryd.lays197 s w hT
end Go.Proofs
/- impl.oddRune and impl.goodName by hand: the walks, over the library's own functions by their contracts. -/
namespace Go.Proofs.YtdihodboopeakaaDoor.Pr
open Go.RowKit Go.Proofs.YtdihodboopeakaaDoorW.PrintWords Go.Proofs.YtdihodboopeakaaDoorW.PrintLast Go.Proofs.YtdihodboopeakaaDoorW.PrintMore
set_option linter.unusedVariables false
set_option linter.unusedSimpArgs false
/-- Go's two tables of UTF-8 lie as its text lays them. -/
def Tabs (w : World) : Prop := Lib.Utf8Tabs 0 1 w
theorem Tabs.below {w W : World} (h : Tabs w) (hb : Below w.heap.size w W) : Tabs W :=
  ⟨fun c hc => (hb.cell (World.block_lt_of_cell? w _ (h.1 c hc))).trans (h.1 c hc), fun i hi => ⟨(hb.cell (World.block_lt_of_cell? w _ (h.2 i hi).1)).trans (h.2 i hi).1, (hb.cell (World.block_lt_of_cell? w _ (h.2 i hi).2)).trans (h.2 i hi).2⟩⟩
theorem tb_ {w W : World} (h : Aside0 (Tabs w)) (hb : Below w.heap.size w W := by repeat (first | (with_reducible first | exact HB.out | exact Below.refl _ _ | apply below_alloc | apply pw_below_drewN | apply below_drew1 | refine below_set ?_ (Aside0.out (by assumption))) | exact HB.out)) : Tabs W := h.out.below hb
theorem decode_go (s : ByteArray) (i : Nat) (h : i < s.size) : Lib.decodeGo (s.extract i s.size) = Utf8.decode s i := by
  have e : (s.extract i s.size).data.toList = s.data.toList.drop i := by
    have := Lib.extract_toList s i s.size; rw [Lib.toList_data] at this; rw [this, List.take_of_length_le (by rw [List.length_drop, ← Lib.size_eq]; omega)]
  unfold Lib.decodeGo; rw [if_neg (by rw [ByteArray.size_extract]; omega)]; have h2 := Lib.decodeL_drop s i; rw [← e] at h2; rw [← h2]; unfold Lib.decodeL
  rfl
theorem decode_w (s : ByteArray) (i : Nat) : 1 ≤ (Utf8.decode s i).2 ∧ (Utf8.decode s i).2 ≤ 4 := by
  rw [Lib.decode_at]; generalize (s.get! i).toNat = b0; generalize (s.get! (i + 1)).toNat = b1; generalize (s.get! (i + 2)).toNat = b2; generalize (s.get! (i + 3)).toNat = b3; unfold Lib.decodeN
  repeat' split
  all_goals simp
theorem oddFrom_more (s : ByteArray) : ∀ (f g pos : Nat), s.size - pos ≤ f → s.size - pos ≤ g → oddFrom s f pos = oddFrom s g pos := by
  intro f
  induction f with
  | zero =>
    intro g pos hf _
    cases g with
    | zero => rfl
    | succ g => simp only [oddFrom]; rw [if_neg (by omega)]
  | succ f ih =>
    intro g pos hf hg
    cases g with
    | zero => simp only [oddFrom]; rw [if_neg (by omega)]
    | succ g =>
      simp only [oddFrom]; by_cases h : pos < s.size
      · rw [if_pos h, if_pos h]
        have := decode_w s pos; rw [ih g _ (by omega) (by omega)]
      · rw [if_neg h, if_neg h]
theorem odd_step (s : ByteArray) (i : Nat) (hi : i < s.size) (r : Int) (h : oddFrom s (s.size - i) i = r) :
    (badRune (Utf8.decode s i) = true → r = i) ∧ (badRune (Utf8.decode s i) = false → oddFrom s (s.size - (i + (Utf8.decode s i).2)) (i + (Utf8.decode s i).2) = r) := by
  have hw := decode_w s i; have e : oddFrom s (s.size - i) i = oddFrom s ((s.size - (i + 1)) + 1) i := oddFrom_more s _ _ _ (Nat.le_refl _) (by omega); rw [e] at h; simp only [oddFrom] at h; rw [if_pos hi] at h
  constructor
  · intro hb; rw [if_pos hb] at h; exact h.symm
  · intro hb
    rw [if_neg (by rw [hb]; decide)] at h; rw [← h]; exact oddFrom_more s _ _ _ (by omega) (by omega)
set_option maxHeartbeats 2000000 in
set_option maxRecDepth 100000 in
theorem odd_walk (s : ByteArray) (w : World) (hs : s.size ≤ 140737488355328) (ht : Tabs w) :
    Calls Tryd.prog 70 #[.string s] w fun e w' => e = .returned (.int .i64 (oddOf s)) ∧ Below w.heap.size w w' := by
  have HS := Aside0.mk hs; have HT := Aside0.mk ht; clear ht; obtain ⟨r, hr⟩ : ∃ r, oddOf s = r := ⟨_, rfl⟩; rw [hr]; have HR := Aside0.mk hr; clear hr; go_enter Tryd.func70, Tryd.ntmps70; go_wp2_with fail
  go_loopg [3] s.size (fun g v3 w' => ∃ i : Nat, v3 = .int .i64 i ∧ Aside0 (i + g = s.size ∨ (s.size ≤ i ∧ g = 0)) ∧ Aside0 (i ≤ s.size + 4) ∧ Aside0 (oddFrom s (s.size - i) i = r) ∧ Aside0 (Below w.heap.size w w'))
  case atStart => exact ⟨0, rfl, ⟨.inl (Nat.zero_add _)⟩, ⟨Nat.zero_le _⟩, HR, ⟨Below.refl _ _⟩⟩
  case round =>
   obtain ⟨i, rfl, HG, HI, HO, HB⟩ := hrel; by_cases c1 : i < s.size
   ·have hcon := Tryd.utf8_DecodeRuneInString (s.extract i s.size) wr (HT.out.below HB.out)
    rw [decode_go s i c1] at hcon; have hst := odd_step s i c1 r HO.out; have hdw := decode_w s i; generalize Utf8.decode s i = d at hcon hst hdw; obtain ⟨c, n⟩ := d; have ST := Aside0.mk hst; have HC := Aside0.mk hcon; clear hst hcon; obtain ⟨hd1, hd2⟩ := hdw; go_wp2_with (go_at_call 93; refine HC.out.mono ?_; rintro e w1 ⟨rfl, hb⟩)
    all_goals (
     try simp only [Bool.not_eq_true', Bool.not_eq_false', decide_eq_false_iff_not, decide_eq_true_eq, beq_eq_false_iff_ne, ne_eq, Bool.and_eq_true] at *
     first
      | (have hbad : badRune (c, n) = true := decide_eq_true (by omega)
         have e1 := ST.out.1 hbad; go_ret
         exact ⟨by rw [e1]; rfl, below_step HB.out hb⟩)
      | (have hgood : badRune (c, n) = false := decide_eq_false (by omega)
         have e1 := ST.out.2 hgood; go_roundg (gk - n)
         case measure => have := HG.out; omega
         case rel => exact ⟨i + n, by rw [Int.natCast_add], ⟨by have := HG.out; omega⟩, ⟨by omega⟩, ⟨e1⟩, ⟨below_step HB.out hb⟩⟩))
   ·have c1b : decide (i < s.size) = false := decide_eq_false c1
    go_wp2_with fail; go_ret; (have e : oddFrom s (s.size - i) i = -1 := by rw [show s.size - i = 0 by omega]; rfl); exact ⟨by rw [← HO.out, e]; rfl, HB.out⟩
theorem impl_oddRune.calls (s : ByteArray) (r : Int) (w : World) (h : impl_oddRune.f s = some r) (ht : Tabs w := by exact tb_ HTb_) :
    Calls Tryd.prog 70 #[.string s] w fun e w' => e = .returned (.int .i64 r) ∧ Below w.heap.size w w' := by
  unfold impl_oddRune.f at h; by_cases hs : s.size ≤ 140737488355328
  · rw [if_pos hs] at h
    injection h with h
    subst h; exact odd_walk s w hs ht
  · rw [if_neg hs] at h
    cases h
set_option maxHeartbeats 2000000 in
set_option maxRecDepth 100000 in
theorem impl_goodName.calls (s : ByteArray) (r : Bool) (w : World) (h : impl_goodName.f s = some r) (ht : Tabs w := by exact tb_ HTb_) :
    Calls Tryd.prog 65 #[.string s] w fun e w' => e = .returned (.bool r) ∧ Below w.heap.size w w' := by
  unfold impl_goodName.f at h; by_cases hs : s.size ≤ 140737488355328
  case neg => rw [if_neg hs] at h; cases h
  case pos =>
  rw [if_pos hs] at h
  injection h with h
  have hcn := Tryd.utf8_RuneCountInString s w (by omega); have hq : Lib.runeCount s ≤ s.size := Lib.runeCount_le s; obtain ⟨q, hqq⟩ : ∃ q, Lib.runeCount s = q := ⟨_, rfl⟩; obtain ⟨o, hoo⟩ : ∃ o, oddOf s = o := ⟨_, rfl⟩; rw [hqq] at hcn hq h; have HO : Aside0 (impl_oddRune.f s = some o) := ⟨by unfold impl_oddRune.f; rw [if_pos hs, hoo]⟩; rw [hoo] at h; have HR := Aside0.mk h; have HT := Aside0.mk ht; have HC := Aside0.mk hcn; (have HQ : q < 9223372036854775807 := by omega); clear h ht hcn hqq hoo hq; have b1 (pos : Nat) : Below w.heap.size w (w.iter s pos) := below_alloc (Below.refl _ _) _; have B1 := Aside0.mk b1; clear b1; by_cases c1 : 1 ≤ q
  · have c1b : decide ((1 : Int) ≤ (q : Int)) = true := decide_eq_true (by omega)
    have c1c : decide (1 ≤ q) = true := decide_eq_true (by omega); by_cases c2 : q ≤ 12
    · have c2b : decide ((q : Int) ≤ 12) = true := decide_eq_true (by omega)
      have c2c : decide (q ≤ 12) = true := decide_eq_true (by omega); have hr : Aside0 (r = decide (o < 0)) := ⟨by rw [← HR.out]; exact decide_eq_decide.2 ⟨fun h => h.2.2, fun h => ⟨c1, c2, h⟩⟩⟩; clear c1 c2 hs; go_enter Tryd.func65, Tryd.ntmps65; go_wp2_with (first | (go_at_call 72; refine HC.out.mono ?_; rintro e w' ⟨rfl, pos, rfl⟩) | (go_at_call 70; refine (impl_oddRune.calls _ _ _ HO.out (HT.out.below (B1.out _))).mono ?_; rintro e w1 ⟨rfl, hb⟩))
      all_goals (
       go_ret
       exact ⟨by rw [hr.out]; rfl, below_step (B1.out _) hb⟩)
    · have c2b : decide ((q : Int) ≤ 12) = false := decide_eq_false (by omega)
      have c2c : decide (q ≤ 12) = false := decide_eq_false (by omega); have hr : Aside0 (r = false) := ⟨by rw [← HR.out]; exact decide_eq_false (fun h => c2 h.2.1)⟩; clear c1 c2 hs; go_enter Tryd.func65, Tryd.ntmps65; go_wp2_with (first | (go_at_call 72; refine HC.out.mono ?_; rintro e w' ⟨rfl, pos, rfl⟩)); go_ret; exact ⟨by rw [hr.out]; rfl, B1.out _⟩
  · have c1b : decide ((1 : Int) ≤ (q : Int)) = false := decide_eq_false (by omega)
    have c1c : decide (1 ≤ q) = false := decide_eq_false (by omega); have hr : Aside0 (r = false) := ⟨by rw [← HR.out]; exact decide_eq_false (fun h => c1 h.1)⟩; clear c1 hs; go_enter Tryd.func65, Tryd.ntmps65; go_wp2_with (first | (go_at_call 72; refine HC.out.mono ?_; rintro e w' ⟨rfl, pos, rfl⟩)); go_ret; exact ⟨by rw [hr.out]; rfl, B1.out _⟩
end Go.Proofs.YtdihodboopeakaaDoor.Pr
-- Written by this session's own print (wip/tools/mkmp.py) out of the translation. Lean checks it.
namespace Go.Proofs.YtdihodboopeakaaDoor.Pr
open Go.RowKit Go.Proofs.YtdihodboopeakaaDoorW.PrintWords Go.Proofs.YtdihodboopeakaaDoorW.PrintLast Go.Proofs.YtdihodboopeakaaDoorW.PrintMore
attribute [local go_sem] max2_int min2_int max_two min_two max_three min_three max_four min_four   -- for this text's walks alone
set_option linter.unusedVariables false
set_option linter.unusedSimpArgs false

set_option maxHeartbeats 8000000 in
set_option maxRecDepth 100000 in
theorem impl_GoodBoard.calls (k : Nat) (A0_0 : Option Addr) (c0_0 : Nat) (l0_0 : List ByteArray) (A0_1 : Option Addr) (c0_1 : Nat) (l0_1 : List Bool) (A0_2 : Option Addr) (c0_2 : Nat) (l0_2 : List (List Int)) (r : Bool) (w : World) (hr0_0 : Kd.C Kd.string w A0_0 l0_0.length l0_0) (hc0_0 : l0_0.length ≤ c0_0) (hr0_1 : Kd.C Kd.bool w A0_1 l0_1.length l0_1) (hc0_1 : l0_1.length ≤ c0_1) (hr0_2 : Kd.C (Kd.slice 3 (Kd.int .i64)) w A0_2 l0_2.length l0_2) (hc0_2 : l0_2.length ≤ c0_2) (h : impl_GoodBoard.f k l0_0 l0_1 l0_2 = some r) (ht_ : Tabs w := by exact tb_ HTb_) :
   Calls Tryd.prog 28 #[.agg #[.slice A0_0 l0_0.length c0_0, .slice A0_1 l0_1.length c0_1, .slice A0_2 l0_2.length c0_2]] w fun e w' => e = .returned (.bool r) ∧ Below w.heap.size w w' := by
  have HTb_ := Aside0.mk ht_; clear ht_; have hu34 := Tryd.underlying34; have HR0_0 := Aside0.mk hr0_0; have HC0_0 := Aside0.mk hc0_0; clear hr0_0 hc0_0; have HR0_1 := Aside0.mk hr0_1; have HC0_1 := Aside0.mk hc0_1; clear hr0_1 hc0_1; have HR0_2 := Aside0.mk hr0_2; have HC0_2 := Aside0.mk hc0_2; clear hr0_2 hc0_2; have HB := Aside0.mk (Below.refl w.heap.size w); have H : (if (l0_0.length : Int) < 1 then (impl_GoodBoard.j0 k (l0_0.length : Int) true l0_0 l0_1 l0_2) else (if (l0_0.length : Int) > 14 then (impl_GoodBoard.j0 k (l0_0.length : Int) true l0_0 l0_1 l0_2) else (if (l0_1.length : Int) = (l0_0.length : Int) then (impl_GoodBoard.j0 k (l0_0.length : Int) ((l0_2.length : Int) != (l0_0.length : Int)) l0_0 l0_1 l0_2) else (impl_GoodBoard.j0 k (l0_0.length : Int) true l0_0 l0_1 l0_2)))) = some r := h; clear h; have HC2 := Aside0.mk H; clear H; go_enter Tryd.func28, Tryd.ntmps28
  go_upto_region 2 with (first | ((with_reducible refine gate_dst (N := 1) rfl ?_); (try (refine gate_guard (by rfl) ?_; dsimp only)); refine box_event ?hg (N := 1) ?hd (cs := #[.slice A0_0 l0_0.length c0_0, .slice A0_1 l0_1.length c0_1, .slice A0_2 l0_2.length c0_2]) (t := 34) ?hr ?_; (case hd => rfl); (case hg => rfl); (case hr => first | (go_simp; done) | (go_simp; rfl)); intro gb168 hg w3 hbox hb; have BK168 := Aside0.mk (hbox); have GW168 : Aside0 (w.heap.size ≤ gb168) := gz_; have GE168 : Aside0 (w.heap.size ≤ gb168) := gz_; replace HB := Aside0.mk (below_step hb_ hb); clear hb hbox hg; have hcz4_0 : w3.cell? ⟨gb168, 0, none⟩ = some (.slice A0_0 l0_0.length c0_0) := (blk_cell BK168.out 0).trans rfl; have hcz4_1 : w3.cell? ⟨gb168, 1, none⟩ = some (.slice A0_1 l0_1.length c0_1) := (blk_cell BK168.out 1).trans rfl; have hcz4_2 : w3.cell? ⟨gb168, 2, none⟩ = some (.slice A0_2 l0_2.length c0_2) := (blk_cell BK168.out 2).trans rfl; have hfz4_0 := blk_frozen BK168.out 0; have hfz4_1 := blk_frozen BK168.out 1; have hfz4_2 := blk_frozen BK168.out 2))
  (try simp only [Act.put, List.setIfInBounds_toArray, List.set_cons_zero, List.set_cons_succ])
  go_cut [30] (fun v30 wc => ∃ (kq : Nat) (x30_1 : Bool), v30 = .bool x30_1 ∧ Aside0 (impl_GoodBoard.j0 kq (l0_0.length : Int) x30_1 l0_0 l0_1 l0_2 = some r) ∧ Aside0 (kq ≤ k) ∧ Aside0 (wc.heap[gb168]? = some (.cells #[(.slice A0_0 l0_0.length c0_0), (.slice A0_1 l0_1.length c0_1), (.slice A0_2 l0_2.length c0_2)] 34 (0, 0))) ∧ Aside0 (Below w.heap.size w wc))
  case first =>
   have H := HC2.out; clear HC2; by_cases c5 : (l0_0.length : Int) < 1
   ·rw [if_pos c5] at H
    have c5b0 : decide ((l0_0.length : Int) < 1) = true := decide_eq_true c5; have c5b1 : decide (l0_0.length < 1) = true := decide_eq_true (by omega); clear c5; (first | rw [c5b0] | (simp only [i64_w, i32_w]; rw [c5b0]) | skip); have H' := Aside0.mk H; clear H; go_wp2; go_meet
    case rel => exact ⟨_, (true), es_, H', ⟨by first | omega | exact Nat.le_refl _⟩, ⟨bk_ BK168.out⟩, ⟨hb_⟩⟩
   ·rw [if_neg c5] at H
    have c5b0 : decide ((l0_0.length : Int) < 1) = false := decide_eq_false c5; have c5b1 : decide (l0_0.length < 1) = false := decide_eq_false (by omega); clear c5; (first | rw [c5b0] | (simp only [i64_w, i32_w]; rw [c5b0]) | skip); by_cases c6 : (l0_0.length : Int) > 14
    ·rw [if_pos c6] at H
     have c6b0 : decide (14 < (l0_0.length : Int)) = true := decide_eq_true c6; have c6b1 : decide (14 < l0_0.length) = true := decide_eq_true (by omega); clear c6; have H' := Aside0.mk H; clear H; go_wp2; go_meet
     case rel => exact ⟨_, (true), es_, H', ⟨by first | omega | exact Nat.le_refl _⟩, ⟨bk_ BK168.out⟩, ⟨hb_⟩⟩
    ·rw [if_neg c6] at H
     have c6b0 : decide (14 < (l0_0.length : Int)) = false := decide_eq_false c6; have c6b1 : decide (14 < l0_0.length) = false := decide_eq_false (by omega); clear c6; by_cases c7 : (l0_1.length : Int) = (l0_0.length : Int)
     ·rw [if_pos c7] at H
      have c7b0 : ((l0_1.length : Int) == (l0_0.length : Int)) = true := beq_iff_eq.mpr c7; have c7b1 : ((l0_1.length : Int) != (l0_0.length : Int)) = false := bne_eq_false_iff_eq.mpr c7; (have c7b2 : (l0_1.length == l0_0.length) = true := by first | simpa using c7 | (simp at c7 ⊢; omega)); clear c7; have H' := Aside0.mk H; clear H; have hcz8_0 : w3.cell? ⟨gb168, 0, none⟩ = some (.slice A0_0 l0_0.length c0_0) := (blk_cell BK168.out 0).trans rfl; have hcz8_1 : w3.cell? ⟨gb168, 1, none⟩ = some (.slice A0_1 l0_1.length c0_1) := (blk_cell BK168.out 1).trans rfl; have hcz8_2 : w3.cell? ⟨gb168, 2, none⟩ = some (.slice A0_2 l0_2.length c0_2) := (blk_cell BK168.out 2).trans rfl; have hfz8_0 := blk_frozen BK168.out 0; have hfz8_1 := blk_frozen BK168.out 1; have hfz8_2 := blk_frozen BK168.out 2; go_wp2; go_meet
      case rel => exact ⟨_, (((l0_2.length : Int) != (l0_0.length : Int))), es_, H', ⟨by first | omega | exact Nat.le_refl _⟩, ⟨bk_ BK168.out⟩, ⟨hb_⟩⟩
     ·rw [if_neg c7] at H
      have c7b0 : ((l0_1.length : Int) == (l0_0.length : Int)) = false := beq_eq_false_iff_ne.mpr c7; have c7b1 : ((l0_1.length : Int) != (l0_0.length : Int)) = true := bne_iff_ne.mpr c7; (have c7b2 : (l0_1.length == l0_0.length) = false := by first | simpa using c7 | (simp at c7 ⊢; omega)); have H' := Aside0.mk H; clear H; have hcz9_0 : w3.cell? ⟨gb168, 0, none⟩ = some (.slice A0_0 l0_0.length c0_0) := (blk_cell BK168.out 0).trans rfl; have hcz9_1 : w3.cell? ⟨gb168, 1, none⟩ = some (.slice A0_1 l0_1.length c0_1) := (blk_cell BK168.out 1).trans rfl; have hcz9_2 : w3.cell? ⟨gb168, 2, none⟩ = some (.slice A0_2 l0_2.length c0_2) := (blk_cell BK168.out 2).trans rfl; have hfz9_0 := blk_frozen BK168.out 0; have hfz9_1 := blk_frozen BK168.out 1; have hfz9_2 := blk_frozen BK168.out 2; go_wp2; go_meet
      case rel => exact ⟨_, (true), es_, H', ⟨by first | omega | exact Nat.le_refl _⟩, ⟨bk_ BK168.out⟩, ⟨hb_⟩⟩
  case rest =>
   clear HC2; obtain ⟨kq, x30_1, rfl, HA, HJ1, BK168, HB⟩ := hcut
   cases kq with
   | zero => exact absurd HA.out (by simp [impl_GoodBoard.j0])
   | succ kj1 =>
    have H := HA.out; clear HA; simp only [impl_GoodBoard.j0] at H; by_cases c10 : x30_1 = true
    ·subst c10
     rw [if_pos rfl] at H
     obtain rfl := Option.some.inj H
     go_wp2; go_ret; exact ⟨er_, hb_⟩
    ·replace c10 := Bool.eq_false_iff.mpr c10
     subst c10; rw [if_neg (show ¬ (false = true) by decide)] at H; have H' := Aside0.mk H; clear H; have hcz11_0 : wc.cell? ⟨gb168, 0, none⟩ = some (.slice A0_0 l0_0.length c0_0) := (blk_cell BK168.out 0).trans rfl; have hcz11_1 : wc.cell? ⟨gb168, 1, none⟩ = some (.slice A0_1 l0_1.length c0_1) := (blk_cell BK168.out 1).trans rfl; have hcz11_2 : wc.cell? ⟨gb168, 2, none⟩ = some (.slice A0_2 l0_2.length c0_2) := (blk_cell BK168.out 2).trans rfl; have hfz11_0 := blk_frozen BK168.out 0; have hfz11_1 := blk_frozen BK168.out 1; have hfz11_2 := blk_frozen BK168.out 2; go_wp2
     go_loopg [34] kj1 (fun kq v34 w' => ∃ (x34_2 : Int), v34 = .int .i64 x34_2 ∧ Aside0 (impl_GoodBoard.l0 kq (l0_0.length : Int) l0_0 (l0_0.length : Int) x34_2 l0_0 l0_1 l0_2 = some r) ∧ Aside0 (kq ≤ kj1) ∧ Aside0 (w'.heap[gb168]? = some (.cells #[(.slice A0_0 l0_0.length c0_0), (.slice A0_1 l0_1.length c0_1), (.slice A0_2 l0_2.length c0_2)] 34 (0, 0))) ∧ Aside0 (Below w.heap.size w w'))
     case atStart => exact ⟨(0), es_, H', ⟨Nat.le_refl _⟩, ⟨bk_ BK168.out⟩, ⟨hb_⟩⟩
     case round =>
      clear H'; obtain ⟨x34_2, rfl, HA, HK2, BK168, HB⟩ := hrel
      cases gk with
      | zero => exact absurd HA.out (by simp [impl_GoodBoard.l0])
      | succ k2 =>
       have H := HA.out; clear HA; simp only [impl_GoodBoard.l0] at H; by_cases c12 : x34_2 < (l0_0.length : Int)
       ·rw [if_pos c12] at H
        have c12b0 : decide (x34_2 < (l0_0.length : Int)) = true := decide_eq_true c12; clear c12; by_cases c13 : 0 ≤ x34_2
        ·rw [if_pos c13] at H
         have c13b0 : decide (0 ≤ x34_2) = true := decide_eq_true c13; clear c13; by_cases c14 : x34_2 < (l0_0.length : Int)
         ·rw [if_pos c14] at H
          have c14b0 : decide (x34_2 < (l0_0.length : Int)) = true := decide_eq_true c14; clear c14; have HC15 := Aside0.mk H; clear H; have p169 : 0 ≤ (x34_2 : Int) := of_decide_eq_true as_; have q169 : x34_2 < (l0_0.length : Int) := of_decide_eq_true as_; obtain ⟨ad169, e169, hx169_0⟩ := Kd.at_string HR0_0.out x34_2 p169 q169; cases e169; replace hx169_0 := hc_ HB hx169_0; replace p169 := eq_true p169; replace q169 := eq_true q169
          go_upto_region 7 with (fail)
          go_cut [54] (fun v54 wc => ∃ (kq : Nat) (x54_14 : Bool), v54 = .bool x54_14 ∧ Aside0 (impl_GoodBoard.j2 kq (l0_0.length : Int) x34_2 l0_0 (l0_0.length : Int) x34_2 x54_14 l0_0 l0_1 l0_2 = some r) ∧ Aside0 (kq ≤ k2) ∧ Aside0 (wc.heap[gb168]? = some (.cells #[(.slice (some ad169) l0_0.length c0_0), (.slice A0_1 l0_1.length c0_1), (.slice A0_2 l0_2.length c0_2)] 34 (0, 0))) ∧ Aside0 (Below w.heap.size w wc))
          case first =>
           have H := HC15.out; clear HC15; by_cases c16 : (rdOf ByteArray.empty l0_0 x34_2).toList = ([] : List UInt8)
           ·rw [if_pos c16] at H
            have c16b0 : ((rdOf ByteArray.empty l0_0 x34_2).toList == ([] : List UInt8)) = true := beq_iff_eq.mpr c16; have c16b1 : ((rdOf ByteArray.empty l0_0 x34_2).toList != ([] : List UInt8)) = false := bne_eq_false_iff_eq.mpr c16; clear c16; (first | rw [c16b0] | (simp only [i64_w, i32_w]; rw [c16b0]) | skip); by_cases c17 : x34_2 < (l0_2.length : Int)
            ·rw [if_pos c17] at H
             have c17b0 : decide (x34_2 < (l0_2.length : Int)) = true := decide_eq_true c17; clear c17; have H' := Aside0.mk H; clear H; have hcz18_0 : wr.cell? ⟨gb168, 0, none⟩ = some (.slice (some ad169) l0_0.length c0_0) := (blk_cell BK168.out 0).trans rfl; have hcz18_1 : wr.cell? ⟨gb168, 1, none⟩ = some (.slice A0_1 l0_1.length c0_1) := (blk_cell BK168.out 1).trans rfl; have hcz18_2 : wr.cell? ⟨gb168, 2, none⟩ = some (.slice A0_2 l0_2.length c0_2) := (blk_cell BK168.out 2).trans rfl; have hfz18_0 := blk_frozen BK168.out 0; have hfz18_1 := blk_frozen BK168.out 1; have hfz18_2 := blk_frozen BK168.out 2; have p170 : 0 ≤ (x34_2 : Int) := of_decide_eq_true as_; have q170 : x34_2 < (l0_2.length : Int) := of_decide_eq_true as_; obtain ⟨ad170, A170_0, c170_0, e170, hx170_0, hl170_0, hi170_0⟩ := at_L3 HR0_2.out x34_2 p170 q170; cases e170; replace hx170_0 := hc_ HB hx170_0; have HR170_0 := Aside0.mk hi170_0; have HC170_0 := Aside0.mk hl170_0; clear hi170_0 hl170_0; replace p170 := eq_true p170; replace q170 := eq_true q170; go_wp2; go_meet
             case rel => exact ⟨_, (decide (((rd_L3 l0_2 x34_2).length : Int) > 14)), es_, H', ⟨by have := HJ1.out; have := HK2.out; first | omega | exact Nat.le_refl _⟩, ⟨bk_ BK168.out⟩, ⟨hb_⟩⟩
            ·rw [if_neg c17] at H
             exact absurd H (by simp)
           ·rw [if_neg c16] at H
            have c16b0 : ((rdOf ByteArray.empty l0_0 x34_2).toList == ([] : List UInt8)) = false := beq_eq_false_iff_ne.mpr c16; have c16b1 : ((rdOf ByteArray.empty l0_0 x34_2).toList != ([] : List UInt8)) = true := bne_iff_ne.mpr c16; (first | rw [c16b0] | (simp only [i64_w, i32_w]; rw [c16b0]) | skip); replace H := Option.bind_eq_some_iff.mp H; obtain ⟨t171, A190, H⟩ := H; replace H : (if t171 = true then (if x34_2 < (l0_2.length : Int) then (impl_GoodBoard.j2 k2 (l0_0.length : Int) x34_2 l0_0 (l0_0.length : Int) x34_2 (decide (((rd_L3 l0_2 x34_2).length : Int) > 14)) l0_0 l0_1 l0_2) else (none)) else (impl_GoodBoard.j2 k2 (l0_0.length : Int) x34_2 l0_0 (l0_0.length : Int) x34_2 true l0_0 l0_1 l0_2)) = some r := H; have A19 := Aside0.mk A190; clear A190; by_cases c20 : t171 = true
            ·subst c20
             rw [if_pos rfl] at H; by_cases c21 : x34_2 < (l0_2.length : Int)
             ·rw [if_pos c21] at H
              have c21b0 : decide (x34_2 < (l0_2.length : Int)) = true := decide_eq_true c21; clear c21; have H' := Aside0.mk H; clear H; go_wp2_with (first | (go_at_call 65; (with_reducible refine (impl_goodName.calls (rdOf ByteArray.empty l0_0 x34_2) true _ A19.out).mono ?_); rintro e w22 ⟨rfl, hb⟩; replace BK168 := bb_ BK168 hb; replace HB := Aside0.mk (below_step hb_ hb); (try clear hb); (try clear hb2); (try clear hk); (try clear hi); have hcz23_0 : w22.cell? ⟨gb168, 0, none⟩ = some (.slice (some ad169) l0_0.length c0_0) := (blk_cell BK168.out 0).trans rfl; have hcz23_1 : w22.cell? ⟨gb168, 1, none⟩ = some (.slice A0_1 l0_1.length c0_1) := (blk_cell BK168.out 1).trans rfl; have hcz23_2 : w22.cell? ⟨gb168, 2, none⟩ = some (.slice A0_2 l0_2.length c0_2) := (blk_cell BK168.out 2).trans rfl; have hfz23_0 := blk_frozen BK168.out 0; have hfz23_1 := blk_frozen BK168.out 1; have hfz23_2 := blk_frozen BK168.out 2; have p172 : 0 ≤ (x34_2 : Int) := of_decide_eq_true as_; have q172 : x34_2 < (l0_2.length : Int) := of_decide_eq_true as_; obtain ⟨ad172, A172_0, c172_0, e172, hx172_0, hl172_0, hi172_0⟩ := at_L3 HR0_2.out x34_2 p172 q172; cases e172; replace hx172_0 := hc_ HB hx172_0; have HR172_0 := Aside0.mk hi172_0; have HC172_0 := Aside0.mk hl172_0; clear hi172_0 hl172_0; replace p172 := eq_true p172; replace q172 := eq_true q172)); go_meet
              case rel => exact ⟨_, (decide (((rd_L3 l0_2 x34_2).length : Int) > 14)), es_, H', ⟨by have := HJ1.out; have := HK2.out; first | omega | exact Nat.le_refl _⟩, ⟨bk_ BK168.out⟩, ⟨hb_⟩⟩
             ·rw [if_neg c21] at H
              exact absurd H (by simp)
            ·replace c20 := Bool.eq_false_iff.mpr c20
             subst c20; rw [if_neg (show ¬ (false = true) by decide)] at H; have H' := Aside0.mk H; clear H; go_wp2_with (first | (go_at_call 65; (with_reducible refine (impl_goodName.calls (rdOf ByteArray.empty l0_0 x34_2) false _ A19.out).mono ?_); rintro e w24 ⟨rfl, hb⟩; replace BK168 := bb_ BK168 hb; replace HB := Aside0.mk (below_step hb_ hb); (try clear hb); (try clear hb2); (try clear hk); (try clear hi))); go_meet
             case rel => exact ⟨_, (true), es_, H', ⟨by have := HJ1.out; have := HK2.out; first | omega | exact Nat.le_refl _⟩, ⟨bk_ BK168.out⟩, ⟨hb_⟩⟩
          case rest =>
           clear HC15; obtain ⟨kq, x54_14, rfl, HA, HJ14, BK168, HB⟩ := hcut
           cases kq with
           | zero => exact absurd HA.out (by simp [impl_GoodBoard.j2])
           | succ kj14 =>
            have H := HA.out; clear HA; simp only [impl_GoodBoard.j2] at H; by_cases c25 : x54_14 = true
            ·subst c25
             rw [if_pos rfl] at H
             obtain rfl := Option.some.inj H
             go_wp2; go_ret; exact ⟨er_, hb_⟩
            ·replace c25 := Bool.eq_false_iff.mpr c25
             subst c25; rw [if_neg (show ¬ (false = true) by decide)] at H; by_cases c26 : 0 ≤ x34_2
             ·rw [if_pos c26] at H
              have c26b0 : decide (0 ≤ x34_2) = true := decide_eq_true c26; clear c26; by_cases c27 : x34_2 < (l0_2.length : Int)
              ·rw [if_pos c27] at H
               have c27b0 : decide (x34_2 < (l0_2.length : Int)) = true := decide_eq_true c27; clear c27; have H' := Aside0.mk H; clear H; have hcz28_0 : wc.cell? ⟨gb168, 0, none⟩ = some (.slice (some ad169) l0_0.length c0_0) := (blk_cell BK168.out 0).trans rfl; have hcz28_1 : wc.cell? ⟨gb168, 1, none⟩ = some (.slice A0_1 l0_1.length c0_1) := (blk_cell BK168.out 1).trans rfl; have hcz28_2 : wc.cell? ⟨gb168, 2, none⟩ = some (.slice A0_2 l0_2.length c0_2) := (blk_cell BK168.out 2).trans rfl; have hfz28_0 := blk_frozen BK168.out 0; have hfz28_1 := blk_frozen BK168.out 1; have hfz28_2 := blk_frozen BK168.out 2; have p173 : 0 ≤ (x34_2 : Int) := of_decide_eq_true as_; have q173 : x34_2 < (l0_2.length : Int) := of_decide_eq_true as_; obtain ⟨ad173, A173_0, c173_0, e173, hx173_0, hl173_0, hi173_0⟩ := at_L3 HR0_2.out x34_2 p173 q173; cases e173; replace hx173_0 := hc_ HB hx173_0; have HR173_0 := Aside0.mk hi173_0; have HC173_0 := Aside0.mk hl173_0; clear hi173_0 hl173_0; replace p173 := eq_true p173; replace q173 := eq_true q173; go_wp2
               go_loopg [61] kj14 (fun kq v61 w' => ∃ (x61_4 : Int), v61 = .int .i64 x61_4 ∧ Aside0 (impl_GoodBoard.l1 kq (l0_0.length : Int) x34_2 l0_0 (l0_0.length : Int) x34_2 (rd_L3 l0_2 x34_2) ((rd_L3 l0_2 x34_2).length : Int) x61_4 l0_0 l0_1 l0_2 = some r) ∧ Aside0 (kq ≤ kj14) ∧ Aside0 (w'.heap[gb168]? = some (.cells #[(.slice (some ad169) l0_0.length c0_0), (.slice A0_1 l0_1.length c0_1), (.slice (some ad173) l0_2.length c0_2)] 34 (0, 0))) ∧ Aside0 (Below w.heap.size w w'))
               case atStart => exact ⟨(0), es_, H', ⟨Nat.le_refl _⟩, ⟨bk_ BK168.out⟩, ⟨hb_⟩⟩
               case round =>
                clear H'; obtain ⟨x61_4, rfl, HA, HK4, BK168, HB⟩ := hrel
                cases gk with
                | zero => exact absurd HA.out (by simp [impl_GoodBoard.l1])
                | succ k4 =>
                 have H := HA.out; clear HA; simp only [impl_GoodBoard.l1] at H; by_cases c29 : x61_4 < ((rd_L3 l0_2 x34_2).length : Int)
                 ·rw [if_pos c29] at H
                  have c29b0 : decide (x61_4 < ((rd_L3 l0_2 x34_2).length : Int)) = true := decide_eq_true c29; clear c29; by_cases c30 : 0 ≤ x61_4
                  ·rw [if_pos c30] at H
                   have c30b0 : decide (0 ≤ x61_4) = true := decide_eq_true c30; clear c30; by_cases c31 : x61_4 < ((rd_L3 l0_2 x34_2).length : Int)
                   ·rw [if_pos c31] at H
                    have c31b0 : decide (x61_4 < ((rd_L3 l0_2 x34_2).length : Int)) = true := decide_eq_true c31; clear c31; by_cases c32 : (rd (rd_L3 l0_2 x34_2) x61_4) < 0
                    ·rw [if_pos c32] at H
                     have c32b0 : decide ((rd (rd_L3 l0_2 x34_2) x61_4) < 0) = true := decide_eq_true c32; clear c32
                     obtain rfl := Option.some.inj H
                     have p174 : 0 ≤ (x61_4 : Int) := of_decide_eq_true as_; have q174 : x61_4 < ((rd_L3 l0_2 x34_2).length : Int) := of_decide_eq_true as_; obtain ⟨ad174, e174, hx174_0⟩ := Kd.at_int HR173_0.out x61_4 p174 q174; cases e174; replace hx174_0 := hc_ HB hx174_0; replace p174 := eq_true p174; replace q174 := eq_true q174; go_wp2; go_ret; exact ⟨er_, hb_⟩
                    ·rw [if_neg c32] at H
                     have c32b0 : decide ((rd (rd_L3 l0_2 x34_2) x61_4) < 0) = false := decide_eq_false c32; clear c32; by_cases c33 : (rd (rd_L3 l0_2 x34_2) x61_4) ≥ (l0_0.length : Int)
                     ·rw [if_pos c33] at H
                      have c33b0 : decide ((l0_0.length : Int) ≤ (rd (rd_L3 l0_2 x34_2) x61_4)) = true := decide_eq_true c33; clear c33
                      obtain rfl := Option.some.inj H
                      have p174 : 0 ≤ (x61_4 : Int) := of_decide_eq_true as_; have q174 : x61_4 < ((rd_L3 l0_2 x34_2).length : Int) := of_decide_eq_true as_; obtain ⟨ad174, e174, hx174_0⟩ := Kd.at_int HR173_0.out x61_4 p174 q174; cases e174; replace hx174_0 := hc_ HB hx174_0; replace p174 := eq_true p174; replace q174 := eq_true q174; go_wp2; go_ret; exact ⟨er_, hb_⟩
                     ·rw [if_neg c33] at H
                      have c33b0 : decide ((l0_0.length : Int) ≤ (rd (rd_L3 l0_2 x34_2) x61_4)) = false := decide_eq_false c33; clear c33; by_cases c34 : x61_4 > 0
                      ·rw [if_pos c34] at H
                       have c34b0 : decide (0 < x61_4) = true := decide_eq_true c34; clear c34; by_cases c35 : 0 ≤ x34_2
                       ·rw [if_pos c35] at H
                        have c35b0 : decide (0 ≤ x34_2) = true := decide_eq_true c35; clear c35; by_cases c36 : x34_2 < (l0_2.length : Int)
                        ·rw [if_pos c36] at H
                         have c36b0 : decide (x34_2 < (l0_2.length : Int)) = true := decide_eq_true c36; clear c36; obtain ⟨ji37, hji37⟩ : ∃ j_ : Int, (wrap64 (x61_4 - 1)) = j_ := ⟨_, rfl⟩; (replace H : (if 0 ≤ (ji37) then (if (ji37) < ((rd_L3 l0_2 x34_2).length : Int) then (if (rd (rd_L3 l0_2 x34_2) x61_4) ≤ (rd (rd_L3 l0_2 x34_2) (ji37)) then (some false) else (impl_GoodBoard.l1 k4 (l0_0.length : Int) x34_2 l0_0 (l0_0.length : Int) x34_2 (rd_L3 l0_2 x34_2) ((rd_L3 l0_2 x34_2).length : Int) (wrap64 (x61_4 + 1)) l0_0 l0_1 l0_2)) else (none)) else (none)) = some r := by first | (rw [hji37] at H; exact H) | (simp only [hji37] at H ⊢; exact H)); have hji37w : (IntKind.i64.wrap (x61_4 - 1)) = ji37 := (i64_w _).trans hji37; by_cases c38 : 0 ≤ (ji37)
                         ·rw [if_pos c38] at H
                          have c38b0 : decide (0 ≤ (ji37)) = true := decide_eq_true c38; clear c38; by_cases c39 : (ji37) < ((rd_L3 l0_2 x34_2).length : Int)
                          ·rw [if_pos c39] at H
                           have c39b0 : decide ((ji37) < ((rd_L3 l0_2 x34_2).length : Int)) = true := decide_eq_true c39; clear c39; by_cases c40 : (rd (rd_L3 l0_2 x34_2) x61_4) ≤ (rd (rd_L3 l0_2 x34_2) (ji37))
                           ·rw [if_pos c40] at H
                            have c40b0 : decide ((rd (rd_L3 l0_2 x34_2) x61_4) ≤ (rd (rd_L3 l0_2 x34_2) (ji37))) = true := decide_eq_true c40; clear c40
                            obtain rfl := Option.some.inj H
                            have p174 : 0 ≤ (x61_4 : Int) := of_decide_eq_true as_; have q174 : x61_4 < ((rd_L3 l0_2 x34_2).length : Int) := of_decide_eq_true as_; obtain ⟨ad174, e174, hx174_0⟩ := Kd.at_int HR173_0.out x61_4 p174 q174; cases e174; replace hx174_0 := hc_ HB hx174_0; replace p174 := eq_true p174; replace q174 := eq_true q174; have hcz41_0 : wr.cell? ⟨gb168, 0, none⟩ = some (.slice (some ad169) l0_0.length c0_0) := (blk_cell BK168.out 0).trans rfl; have hcz41_1 : wr.cell? ⟨gb168, 1, none⟩ = some (.slice A0_1 l0_1.length c0_1) := (blk_cell BK168.out 1).trans rfl; have hcz41_2 : wr.cell? ⟨gb168, 2, none⟩ = some (.slice (some ad173) l0_2.length c0_2) := (blk_cell BK168.out 2).trans rfl; have hfz41_0 := blk_frozen BK168.out 0; have hfz41_1 := blk_frozen BK168.out 1; have hfz41_2 := blk_frozen BK168.out 2; have p175 : 0 ≤ (x34_2 : Int) := of_decide_eq_true as_; have q175 : x34_2 < (l0_2.length : Int) := of_decide_eq_true as_; obtain ⟨ad175, A175_0, c175_0, e175, hx175_0, hl175_0, hi175_0⟩ := at_L3 HR0_2.out x34_2 p175 q175
                            obtain rfl : ad173 = ad175 := (by injection e175)
                            replace hx175_0 := hc_ HB hx175_0; have HR175_0 := Aside0.mk hi175_0; have HC175_0 := Aside0.mk hl175_0; clear hi175_0 hl175_0; replace p175 := eq_true p175; replace q175 := eq_true q175; have p176 : 0 ≤ ((ji37) : Int) := of_decide_eq_true as_; have q176 : (ji37) < ((rd_L3 l0_2 x34_2).length : Int) := of_decide_eq_true as_; obtain ⟨ad176, e176, hx176_0⟩ := Kd.at_int HR175_0.out (ji37) p176 q176; cases e176; replace hx176_0 := hc_ HB hx176_0; replace p176 := eq_true p176; replace q176 := eq_true q176; go_wp2; go_ret; exact ⟨by first | rfl | (simp [errW_none, errW_some] <;> rfl) | (simp only [← hji37]; first | rfl | (simp [errW_none, errW_some] <;> rfl)) | (simp [*, errW_none, errW_some] <;> rfl), hb_⟩
                           ·rw [if_neg c40] at H
                            have c40b0 : decide ((rd (rd_L3 l0_2 x34_2) x61_4) ≤ (rd (rd_L3 l0_2 x34_2) (ji37))) = false := decide_eq_false c40; clear c40; have H' := Aside0.mk H; clear H; have p174 : 0 ≤ (x61_4 : Int) := of_decide_eq_true as_; have q174 : x61_4 < ((rd_L3 l0_2 x34_2).length : Int) := of_decide_eq_true as_; obtain ⟨ad174, e174, hx174_0⟩ := Kd.at_int HR173_0.out x61_4 p174 q174; cases e174; replace hx174_0 := hc_ HB hx174_0; replace p174 := eq_true p174; replace q174 := eq_true q174; have hcz42_0 : wr.cell? ⟨gb168, 0, none⟩ = some (.slice (some ad169) l0_0.length c0_0) := (blk_cell BK168.out 0).trans rfl; have hcz42_1 : wr.cell? ⟨gb168, 1, none⟩ = some (.slice A0_1 l0_1.length c0_1) := (blk_cell BK168.out 1).trans rfl; have hcz42_2 : wr.cell? ⟨gb168, 2, none⟩ = some (.slice (some ad173) l0_2.length c0_2) := (blk_cell BK168.out 2).trans rfl; have hfz42_0 := blk_frozen BK168.out 0; have hfz42_1 := blk_frozen BK168.out 1; have hfz42_2 := blk_frozen BK168.out 2; have p175 : 0 ≤ (x34_2 : Int) := of_decide_eq_true as_; have q175 : x34_2 < (l0_2.length : Int) := of_decide_eq_true as_; obtain ⟨ad175, A175_0, c175_0, e175, hx175_0, hl175_0, hi175_0⟩ := at_L3 HR0_2.out x34_2 p175 q175
                            obtain rfl : ad173 = ad175 := (by injection e175)
                            replace hx175_0 := hc_ HB hx175_0; have HR175_0 := Aside0.mk hi175_0; have HC175_0 := Aside0.mk hl175_0; clear hi175_0 hl175_0; replace p175 := eq_true p175; replace q175 := eq_true q175; have p176 : 0 ≤ ((ji37) : Int) := of_decide_eq_true as_; have q176 : (ji37) < ((rd_L3 l0_2 x34_2).length : Int) := of_decide_eq_true as_; obtain ⟨ad176, e176, hx176_0⟩ := Kd.at_int HR175_0.out (ji37) p176 q176; cases e176; replace hx176_0 := hc_ HB hx176_0; replace p176 := eq_true p176; replace q176 := eq_true q176; go_wp2; go_roundg k4
                            case measure => have := HJ1.out; have := HK2.out; have := HJ14.out; have := HK4.out; omega
                            case rel => exact ⟨(wrap64 (x61_4 + 1)), es_, H', ⟨by have := HJ1.out; have := HK2.out; have := HJ14.out; have := HK4.out; omega⟩, ⟨bk_ BK168.out⟩, ⟨hb_⟩⟩
                          ·rw [if_neg c39] at H
                           exact absurd H (by simp)
                         ·rw [if_neg c38] at H
                          exact absurd H (by simp)
                        ·rw [if_neg c36] at H
                         exact absurd H (by simp)
                       ·rw [if_neg c35] at H
                        exact absurd H (by simp)
                      ·rw [if_neg c34] at H
                       have c34b0 : decide (0 < x61_4) = false := decide_eq_false c34; clear c34; have H' := Aside0.mk H; clear H; have p174 : 0 ≤ (x61_4 : Int) := of_decide_eq_true as_; have q174 : x61_4 < ((rd_L3 l0_2 x34_2).length : Int) := of_decide_eq_true as_; obtain ⟨ad174, e174, hx174_0⟩ := Kd.at_int HR173_0.out x61_4 p174 q174; cases e174; replace hx174_0 := hc_ HB hx174_0; replace p174 := eq_true p174; replace q174 := eq_true q174; go_wp2; go_roundg k4
                       case measure => have := HJ1.out; have := HK2.out; have := HJ14.out; have := HK4.out; omega
                       case rel => exact ⟨(wrap64 (x61_4 + 1)), es_, H', ⟨by have := HJ1.out; have := HK2.out; have := HJ14.out; have := HK4.out; omega⟩, ⟨bk_ BK168.out⟩, ⟨hb_⟩⟩
                   ·rw [if_neg c31] at H
                    exact absurd H (by simp)
                  ·rw [if_neg c30] at H
                   exact absurd H (by simp)
                 ·rw [if_neg c29] at H
                  have c29b0 : decide (x61_4 < ((rd_L3 l0_2 x34_2).length : Int)) = false := decide_eq_false c29; clear c29; have H' := Aside0.mk H; clear H; go_wp2; go_roundg k4
                  case measure => have := HJ1.out; have := HK2.out; have := HJ14.out; have := HK4.out; omega
                  case rel => exact ⟨(wrap64 (x34_2 + 1)), es_, H', ⟨by have := HJ1.out; have := HK2.out; have := HJ14.out; have := HK4.out; omega⟩, ⟨bk_ BK168.out⟩, ⟨hb_⟩⟩
              ·rw [if_neg c27] at H
               exact absurd H (by simp)
             ·rw [if_neg c26] at H
              exact absurd H (by simp)
         ·rw [if_neg c14] at H
          exact absurd H (by simp)
        ·rw [if_neg c13] at H
         exact absurd H (by simp)
       ·rw [if_neg c12] at H
        have c12b0 : decide (x34_2 < (l0_0.length : Int)) = false := decide_eq_false c12; clear c12
        obtain rfl := Option.some.inj H
        go_wp2; go_ret; exact ⟨er_, hb_⟩

end Go.Proofs.YtdihodboopeakaaDoor.Pr
-- Written by this session's own print (wip/tools/mkmp.py) out of the translation. Lean checks it.
namespace Go.Proofs.YtdihodboopeakaaDoor.Pr
open Go.RowKit Go.Proofs.YtdihodboopeakaaDoorW.PrintWords Go.Proofs.YtdihodboopeakaaDoorW.PrintLast Go.Proofs.YtdihodboopeakaaDoorW.PrintMore
attribute [local go_sem] max2_int min2_int max_two min_two max_three min_three max_four min_four   -- for this text's walks alone
set_option linter.unusedVariables false
set_option linter.unusedSimpArgs false

set_option maxHeartbeats 8000000 in
set_option maxRecDepth 100000 in
theorem slices_Index_string_string.calls (k : Nat) (A0 : Option Addr) (c0 : Nat) (l0 : List ByteArray) (a1 : ByteArray) (r : Int) (w : World) (hr0 : Kd.C Kd.string w A0 l0.length l0) (hc0 : l0.length ≤ c0) (h : slices_Index_string_string.f k l0 a1 = some r) :
   Calls Tryd.prog 94 #[.slice A0 l0.length c0, .string a1] w fun e w' => e = .returned (.int .i64 r) ∧ Drawn0 w w' := by
  have HR0 := Aside0.mk hr0; have HC0 := Aside0.mk hc0; clear hr0 hc0; have H : (slices_Index_string_string.l0 k l0 a1 (l0.length : Int) 0) = some r := h; clear h; have H' := Aside0.mk H; clear H; go_enter Tryd.func94, Tryd.ntmps94; go_wp2
  go_loopg [8] k (fun kq v8 w' => ∃ (x8_1 : Int), v8 = .int .i64 x8_1 ∧ Aside0 (slices_Index_string_string.l0 kq l0 a1 (l0.length : Int) x8_1 = some r) ∧ Aside0 (kq ≤ k) ∧ Drawn0 w w')
  case atStart => exact ⟨(0), es_, H', ⟨Nat.le_refl _⟩, by repeat (first | exact Drawn0.refl _ | apply Drawn0.step)⟩
  case round =>
   clear H'; obtain ⟨x8_1, rfl, HA, HK1, ⟨m1, rfl⟩⟩ := hrel
   cases gk with
   | zero => exact absurd HA.out (by simp [slices_Index_string_string.l0])
   | succ k1 =>
    have H := HA.out; clear HA; simp only [slices_Index_string_string.l0] at H; by_cases c3 : x8_1 < (l0.length : Int)
    ·rw [if_pos c3] at H
     have c3b0 : decide (x8_1 < (l0.length : Int)) = true := decide_eq_true c3; clear c3; by_cases c4 : 0 ≤ x8_1
     ·rw [if_pos c4] at H
      have c4b0 : decide (0 ≤ x8_1) = true := decide_eq_true c4; clear c4; by_cases c5 : x8_1 < (l0.length : Int)
      ·rw [if_pos c5] at H
       have c5b0 : decide (x8_1 < (l0.length : Int)) = true := decide_eq_true c5; clear c5; by_cases c6 : a1.toList = (rdOf ByteArray.empty l0 x8_1).toList
       ·rw [if_pos c6] at H
        have c6b0 : (a1.toList == (rdOf ByteArray.empty l0 x8_1).toList) = true := beq_iff_eq.mpr c6; have c6b1 : (a1.toList != (rdOf ByteArray.empty l0 x8_1).toList) = false := bne_eq_false_iff_eq.mpr c6; clear c6
        obtain rfl := Option.some.inj H
        have p247 : 0 ≤ (x8_1 : Int) := of_decide_eq_true as_; have q247 : x8_1 < (l0.length : Int) := of_decide_eq_true as_; obtain ⟨ad247, e247, hx247_0⟩ := Kd.at_string HR0.out x8_1 p247 q247; cases e247; replace p247 := eq_true p247; replace q247 := eq_true q247; go_wp2; go_ret; exact ⟨es_, by repeat (first | exact Drawn0.refl _ | apply Drawn0.step)⟩
       ·rw [if_neg c6] at H
        have c6b0 : (a1.toList == (rdOf ByteArray.empty l0 x8_1).toList) = false := beq_eq_false_iff_ne.mpr c6; have c6b1 : (a1.toList != (rdOf ByteArray.empty l0 x8_1).toList) = true := bne_iff_ne.mpr c6; have H' := Aside0.mk H; clear H; have p247 : 0 ≤ (x8_1 : Int) := of_decide_eq_true as_; have q247 : x8_1 < (l0.length : Int) := of_decide_eq_true as_; obtain ⟨ad247, e247, hx247_0⟩ := Kd.at_string HR0.out x8_1 p247 q247; cases e247; replace p247 := eq_true p247; replace q247 := eq_true q247; go_wp2; go_roundg k1
        case measure => have := HK1.out; omega
        case rel => exact ⟨(wrap64 (x8_1 + 1)), es_, H', ⟨by have := HK1.out; omega⟩, by repeat (first | exact Drawn0.refl _ | apply Drawn0.step)⟩
      ·rw [if_neg c5] at H
       exact absurd H (by simp)
     ·rw [if_neg c4] at H
      exact absurd H (by simp)
    ·rw [if_neg c3] at H
     have c3b0 : decide (x8_1 < (l0.length : Int)) = false := decide_eq_false c3; clear c3
     obtain rfl := Option.some.inj H
     go_wp2; go_ret; exact ⟨es_, by repeat (first | exact Drawn0.refl _ | apply Drawn0.step)⟩

set_option maxHeartbeats 8000000 in
set_option maxRecDepth 100000 in
theorem slices_Contains_string_string.calls (k : Nat) (A0 : Option Addr) (c0 : Nat) (l0 : List ByteArray) (a1 : ByteArray) (r : Bool) (w : World) (hr0 : Kd.C Kd.string w A0 l0.length l0) (hc0 : l0.length ≤ c0) (h : slices_Contains_string_string.f k l0 a1 = some r) :
   Calls Tryd.prog 73 #[.slice A0 l0.length c0, .string a1] w fun e w' => e = .returned (.bool r) ∧ Drawn0 w w' := by
  have HR0 := Aside0.mk hr0; have HC0 := Aside0.mk hc0; clear hr0 hc0; have H : ((slices_Index_string_string.f k l0 a1).bind fun t248 => (some (decide (t248 ≥ 0)))) = some r := h; clear h; replace H := Option.bind_eq_some_iff.mp H; obtain ⟨t248, A30, H⟩ := H; replace H : (some (decide (t248 ≥ 0))) = some r := H; have A3 := Aside0.mk A30; clear A30
  obtain rfl := Option.some.inj H
  go_enter Tryd.func73, Tryd.ntmps73; go_wp2_with (first | ((with_reducible refine gate_callee (f := 94) rfl ?_); refine goesL_ (some 7) rfl rfl Tryd.func94 (by kernel_rfl) rfl #[.slice A0 l0.length c0, .string a1] rfl ls_ ?_; (with_reducible refine (slices_Index_string_string.calls k _ _ l0 a1 t248 _ ?side1 ?side2 A3.out).mono ?_); (case side1 => repeat (first | exact HR0.out | (with_reducible refine Kd.C_alloc ?_ _) | (with_reducible refine Kd.C_drewN ?_ _) | (with_reducible refine Kd.C_drew ?_))); (case side2 => exact HC0.out); rintro e w' ⟨rfl, ⟨nd, rfl⟩⟩; refine ⟨_, rfl, ?_⟩)); go_ret; exact ⟨es_, by repeat (first | exact Drawn0.refl _ | apply Drawn0.step)⟩

end Go.Proofs.YtdihodboopeakaaDoor.Pr
/- impl.goodWish by hand: what it computes. -/
namespace Go.Proofs.YtdihodboopeakaaDoor.Pr
open Go.RowKit Go.Proofs.YtdihodboopeakaaDoorW.PrintWords
def nameB (s : ByteArray) : Bool := decide (1 ≤ Lib.runeCount s ∧ Lib.runeCount s ≤ 12 ∧ oddOf s < 0)
def inB (l : List ByteArray) (s : ByteArray) : Bool := l.any fun x => decide (x.toList = s.toList)
def gwFrom (l : List ByteArray) : Nat → Bool
  | 0 => true
  | d + 1 => (nameB (l.getD (l.length - (d + 1)) ByteArray.empty) && !inB (l.take (l.length - (d + 1))) (l.getD (l.length - (d + 1)) ByteArray.empty)) && gwFrom l d
def gwB (l : List ByteArray) : Bool := decide (l.length ≤ 6) && gwFrom l l.length
def okT (l : List ByteArray) : Bool := decide (l.length ≤ 1048576) && l.all fun x => decide (x.size ≤ 1048576)
def impl_goodWish.f (l0 l1 : List ByteArray) : Option Bool := if okT l0 = true then (if okT l1 = true then some (gwB l0 && gwB l1) else none) else none
end Go.Proofs.YtdihodboopeakaaDoor.Pr
-- Written by this session's own print (wip/tools/mkmp.py) out of the translation. Lean checks it.
namespace Go.Proofs.YtdihodboopeakaaDoor.Pr
open Go.RowKit Go.Proofs.YtdihodboopeakaaDoorW.PrintWords Go.Proofs.YtdihodboopeakaaDoorW.PrintLast Go.Proofs.YtdihodboopeakaaDoorW.PrintMore
attribute [local go_sem] max2_int min2_int max_two min_two max_three min_three max_four min_four   -- for this text's walks alone
set_option linter.unusedVariables false
set_option linter.unusedSimpArgs false

/-! ### impl_Board_shuns: function 79 -/
def impl_Board_shuns.f (k : Nat) (l0_0 : List ByteArray) (l0_1 : List Bool) (l0_2 : List (List Int)) (l1_0 : List ByteArray) (l1_1 : List ByteArray) (a2 : Int) : Option (Bool) := if 0 ≤ a2 then (if a2 < (l0_0.length : Int) then ((slices_Contains_string_string.f k l1_1 (rdOf ByteArray.empty l0_0 a2)).bind fun t252 => (some t252)) else (none)) else (none)
/-! ### impl_Board_aims: function 63 -/
def impl_Board_aims.f (k : Nat) (l0_0 : List ByteArray) (l0_1 : List Bool) (l0_2 : List (List Int)) (l1_0 : List ByteArray) (l1_1 : List ByteArray) (a2 : Int) : Option (Bool) := if 0 ≤ a2 then (if a2 < (l0_0.length : Int) then ((slices_Contains_string_string.f k l1_0 (rdOf ByteArray.empty l0_0 a2)).bind fun t256 => (if t256 = true then ((impl_Board_shuns.f k l0_0 l0_1 l0_2 l1_0 l1_1 a2).bind fun t257 => (some (!t257))) else (some false))) else (none)) else (none)
/-! ### impl_between: function 77 -/
/-! ### slices_Index_int_int: function 100 -/
/-! ### slices_Contains_int_int: function 78 -/
/-! ### impl_WishMet: function 38 -/
/-! ### laws_FnExactWishMet: function 8 -/
/-! ### spec_l22Safe: function 88 -/
mutual
def spec_l22Safe.l0 : Nat → List Int → List ByteArray → Int → Int → List ByteArray → List Bool → List (List Int) → List ByteArray → List ByteArray → Option (List Int)
  | 0, _, _, _, _, _, _, _, _, _ => none
  | k + 1, x2, x15, x16, x17, x340000, x340001, x340002, x341000, x341001 => if x17 < x16 then (if 0 ≤ x17 then (if x17 < (x15.length : Int) then ((spec_l22In.f k x341001 (rdOf ByteArray.empty x15 x17)).bind fun t342 => (if t342 = true then (if x17 < (x2.length : Int) then (spec_l22Safe.l0 k (x2.set (x17 : Int).toNat (-1)) x15 x16 (wrap64 (x17 + 1)) x340000 x340001 x340002 x341000 x341001) else (none)) else (spec_l22Safe.l0 k x2 x15 x16 (wrap64 (x17 + 1)) x340000 x340001 x340002 x341000 x341001))) else (none)) else (none)) else (spec_l22Safe.l1 k x2 (x2.length : Int) 0 x340000 x340001 x340002)
def spec_l22Safe.l1 : Nat → List Int → Int → Int → List ByteArray → List Bool → List (List Int) → Option (List Int)
  | 0, _, _, _, _, _, _ => none
  | k + 1, x2, x31, x32, x340000, x340001, x340002 => if x32 < x31 then (spec_l22Safe.l2 k x2 x31 x32 (x2.length : Int) 0 x340000 x340001 x340002) else (some x2)
def spec_l22Safe.l2 : Nat → List Int → Int → Int → Int → Int → List ByteArray → List Bool → List (List Int) → Option (List Int)
  | 0, _, _, _, _, _, _, _, _ => none
  | k + 1, x2, x31, x32, x37, x38, x340000, x340001, x340002 => if x38 < x37 then (if 0 ≤ x38 then (if x38 < (x2.length : Int) then (if (rd x2 x38) < 0 then (spec_l22Safe.j3 k x2 x38 x31 x32 x37 x38 true x340000 x340001 x340002) else (if x38 < (x340002.length : Int) then (spec_l22Safe.j3 k x2 x38 x31 x32 x37 x38 (((rd_L3 x340002 x38).length : Int) == 0) x340000 x340001 x340002) else (none))) else (none)) else (none)) else (spec_l22Safe.l1 k x2 x31 (wrap64 (x32 + 1)) x340000 x340001 x340002)
def spec_l22Safe.j3 : Nat → List Int → Int → Int → Int → Int → Int → Bool → List ByteArray → List Bool → List (List Int) → Option (List Int)
  | 0, _, _, _, _, _, _, _, _, _, _ => none
  | k + 1, x2, x9, x31, x32, x37, x38, x54, x340000, x340001, x340002 => if x54 = true then (spec_l22Safe.l2 k x2 x31 x32 x37 (wrap64 (x38 + 1)) x340000 x340001 x340002) else (if 0 ≤ x9 then (if x9 < (x340002.length : Int) then (spec_l22Safe.l3 k x2 x9 false true x31 x32 x37 x38 (rd_L3 x340002 x9) ((rd_L3 x340002 x9).length : Int) 0 x340000 x340001 x340002) else (none)) else (none))
def spec_l22Safe.l3 : Nat → List Int → Int → Bool → Bool → Int → Int → Int → Int → List Int → Int → Int → List ByteArray → List Bool → List (List Int) → Option (List Int)
  | 0, _, _, _, _, _, _, _, _, _, _, _, _, _, _ => none
  | k + 1, x2, x9, x10, x11, x31, x32, x37, x38, x59, x60, x61, x340000, x340001, x340002 => if x61 < x60 then (if 0 ≤ x61 then (if x61 < (x59.length : Int) then (if x10 = true then (if x11 = true then (if 0 ≤ (rd x59 x61) then (if (rd x59 x61) < (x2.length : Int) then (spec_l22Safe.l3 k x2 x9 true (decide ((rd x2 (rd x59 x61)) ≥ 0)) x31 x32 x37 x38 x59 x60 (wrap64 (x61 + 1)) x340000 x340001 x340002) else (none)) else (none)) else (spec_l22Safe.l3 k x2 x9 true false x31 x32 x37 x38 x59 x60 (wrap64 (x61 + 1)) x340000 x340001 x340002)) else (if 0 ≤ (rd x59 x61) then (if (rd x59 x61) < (x2.length : Int) then (if x11 = true then (spec_l22Safe.l3 k x2 x9 (decide ((rd x2 (rd x59 x61)) ≥ 0)) (decide ((rd x2 (rd x59 x61)) ≥ 0)) x31 x32 x37 x38 x59 x60 (wrap64 (x61 + 1)) x340000 x340001 x340002) else (spec_l22Safe.l3 k x2 x9 (decide ((rd x2 (rd x59 x61)) ≥ 0)) false x31 x32 x37 x38 x59 x60 (wrap64 (x61 + 1)) x340000 x340001 x340002)) else (none)) else (none))) else (none)) else (none)) else (if 0 ≤ x9 then (if x9 < (x340001.length : Int) then (if rdOf false x340001 x9 = true then (if x10 = true then (spec_l22Safe.l2 k x2 x31 x32 x37 (wrap64 (x38 + 1)) x340000 x340001 x340002) else (if x9 < (x2.length : Int) then (spec_l22Safe.l2 k (x2.set (x9 : Int).toNat (-1)) x31 x32 x37 (wrap64 (x38 + 1)) x340000 x340001 x340002) else (none))) else (if x11 = true then (spec_l22Safe.l2 k x2 x31 x32 x37 (wrap64 (x38 + 1)) x340000 x340001 x340002) else (if x9 < (x2.length : Int) then (spec_l22Safe.l2 k (x2.set (x9 : Int).toNat (-1)) x31 x32 x37 (wrap64 (x38 + 1)) x340000 x340001 x340002) else (none)))) else (none)) else (none))
end
def spec_l22Safe.f (k : Nat) (l0_0 : List ByteArray) (l0_1 : List Bool) (l0_2 : List (List Int)) (l1_0 : List ByteArray) (l1_1 : List ByteArray) (l2 : List Int) : Option (List Int) := spec_l22Safe.l0 k l2 l0_0 (l0_0.length : Int) 0 l0_0 l0_1 l0_2 l1_0 l1_1
/-! ### spec_l22Ranks: function 51 -/
mutual
def spec_l22Ranks.l0 : Nat → Int → List Int → List ByteArray → Int → Int → List ByteArray → List Bool → List (List Int) → List ByteArray → List ByteArray → Option (List Int)
  | 0, _, _, _, _, _, _, _, _, _, _ => none
  | k + 1, x5, x6, x34, x35, x36, x357000, x357001, x357002, x358000, x358001 => if x36 < x35 then (if 0 ≤ x36 then (if x36 < (x34.length : Int) then (if x36 < (x6.length : Int) then ((some (x6.set (x36 : Int).toNat (-1) : List Int)).bind fun y363 => ((spec_l22In.f k x358000 (rdOf ByteArray.empty x34 x36)).bind fun t364 => (if t364 = true then ((spec_l22In.f k x358001 (rdOf ByteArray.empty x34 x36)).bind fun t365 => (if t365 = true then (spec_l22Ranks.l0 k x5 y363 x34 x35 (wrap64 (x36 + 1)) x357000 x357001 x357002 x358000 x358001) else (spec_l22Ranks.l0 k x5 (y363.set (x36 : Int).toNat 0) x34 x35 (wrap64 (x36 + 1)) x357000 x357001 x357002 x358000 x358001))) else (spec_l22Ranks.l0 k x5 y363 x34 x35 (wrap64 (x36 + 1)) x357000 x357001 x357002 x358000 x358001)))) else (none)) else (none)) else (none)) else (spec_l22Ranks.l1 k x5 x6 1 x357000 x357001 x357002 x358000 x358001)
def spec_l22Ranks.l1 : Nat → Int → List Int → Int → List ByteArray → List Bool → List (List Int) → List ByteArray → List ByteArray → Option (List Int)
  | 0, _, _, _, _, _, _, _, _ => none
  | k + 1, x5, x6, x9, x357000, x357001, x357002, x358000, x358001 => if x9 ≤ x5 then (spec_l22Ranks.l2 k x5 x6 x9 ([] : List Int) (x6.length : Int) 0 x357000 x357001 x357002 x358000 x358001) else (some x6)
def spec_l22Ranks.l2 : Nat → Int → List Int → Int → List Int → Int → Int → List ByteArray → List Bool → List (List Int) → List ByteArray → List ByteArray → Option (List Int)
  | 0, _, _, _, _, _, _, _, _, _, _, _ => none
  | k + 1, x5, x6, x9, x10, x65, x66, x357000, x357001, x357002, x358000, x358001 => if x66 < x65 then (if 0 ≤ x66 then (if x66 < (x6.length : Int) then (if (rd x6 x66) ≥ 0 then (spec_l22Ranks.j3 k x5 x6 x9 x10 x66 x65 x66 true x357000 x357001 x357002 x358000 x358001) else (if x66 < (x357000.length : Int) then ((spec_l22In.f k x358001 (rdOf ByteArray.empty x357000 x66)).bind fun t369 => (if t369 = true then (spec_l22Ranks.j3 k x5 x6 x9 x10 x66 x65 x66 true x357000 x357001 x357002 x358000 x358001) else (if x66 < (x357002.length : Int) then (spec_l22Ranks.j3 k x5 x6 x9 x10 x66 x65 x66 (((rd_L3 x357002 x66).length : Int) == 0) x357000 x357001 x357002 x358000 x358001) else (none)))) else (none))) else (none)) else (none)) else (spec_l22Ranks.l4 k x5 x6 x9 x10 (x10.length : Int) 0 x357000 x357001 x357002 x358000 x358001)
def spec_l22Ranks.j3 : Nat → Int → List Int → Int → List Int → Int → Int → Int → Bool → List ByteArray → List Bool → List (List Int) → List ByteArray → List ByteArray → Option (List Int)
  | 0, _, _, _, _, _, _, _, _, _, _, _, _, _ => none
  | k + 1, x5, x6, x9, x10, x11, x65, x66, x92, x357000, x357001, x357002, x358000, x358001 => if x92 = true then (spec_l22Ranks.l2 k x5 x6 x9 x10 x65 (wrap64 (x66 + 1)) x357000 x357001 x357002 x358000 x358001) else (if 0 ≤ x11 then (if x11 < (x357002.length : Int) then (spec_l22Ranks.l3 k x5 x6 x9 x10 x11 false true x65 x66 (rd_L3 x357002 x11) ((rd_L3 x357002 x11).length : Int) 0 x357000 x357001 x357002 x358000 x358001) else (none)) else (none))
def spec_l22Ranks.l3 : Nat → Int → List Int → Int → List Int → Int → Bool → Bool → Int → Int → List Int → Int → Int → List ByteArray → List Bool → List (List Int) → List ByteArray → List ByteArray → Option (List Int)
  | 0, _, _, _, _, _, _, _, _, _, _, _, _, _, _, _, _, _ => none
  | k + 1, x5, x6, x9, x10, x11, x12, x13, x65, x66, x97, x98, x99, x357000, x357001, x357002, x358000, x358001 => if x99 < x98 then (if 0 ≤ x99 then (if x99 < (x97.length : Int) then (if 0 ≤ (rd x97 x99) then (if (rd x97 x99) < (x6.length : Int) then (if x12 = true then (if x13 = true then (spec_l22Ranks.l3 k x5 x6 x9 x10 x11 true (decide ((rd x6 (rd x97 x99)) ≥ 0)) x65 x66 x97 x98 (wrap64 (x99 + 1)) x357000 x357001 x357002 x358000 x358001) else (spec_l22Ranks.l3 k x5 x6 x9 x10 x11 true false x65 x66 x97 x98 (wrap64 (x99 + 1)) x357000 x357001 x357002 x358000 x358001)) else (if x13 = true then (spec_l22Ranks.l3 k x5 x6 x9 x10 x11 (decide ((rd x6 (rd x97 x99)) ≥ 0)) (decide ((rd x6 (rd x97 x99)) ≥ 0)) x65 x66 x97 x98 (wrap64 (x99 + 1)) x357000 x357001 x357002 x358000 x358001) else (spec_l22Ranks.l3 k x5 x6 x9 x10 x11 (decide ((rd x6 (rd x97 x99)) ≥ 0)) false x65 x66 x97 x98 (wrap64 (x99 + 1)) x357000 x357001 x357002 x358000 x358001))) else (none)) else (none)) else (none)) else (none)) else (if 0 ≤ x11 then (if x11 < (x357001.length : Int) then (if rdOf false x357001 x11 = true then (if x12 = true then (if x10.length < 17592186044416 then (spec_l22Ranks.l2 k x5 x6 x9 (x10 ++ [x11]) x65 (wrap64 (x66 + 1)) x357000 x357001 x357002 x358000 x358001) else (none)) else (spec_l22Ranks.l2 k x5 x6 x9 x10 x65 (wrap64 (x66 + 1)) x357000 x357001 x357002 x358000 x358001)) else (if x13 = true then (if x10.length < 17592186044416 then (spec_l22Ranks.l2 k x5 x6 x9 (x10 ++ [x11]) x65 (wrap64 (x66 + 1)) x357000 x357001 x357002 x358000 x358001) else (none)) else (spec_l22Ranks.l2 k x5 x6 x9 x10 x65 (wrap64 (x66 + 1)) x357000 x357001 x357002 x358000 x358001))) else (none)) else (none))
def spec_l22Ranks.l4 : Nat → Int → List Int → Int → List Int → Int → Int → List ByteArray → List Bool → List (List Int) → List ByteArray → List ByteArray → Option (List Int)
  | 0, _, _, _, _, _, _, _, _, _, _, _ => none
  | k + 1, x5, x6, x9, x141, x142, x143, x357000, x357001, x357002, x358000, x358001 => if x143 < x142 then (if 0 ≤ x143 then (if x143 < (x141.length : Int) then (if 0 ≤ (rd x141 x143) then (if (rd x141 x143) < (x6.length : Int) then (spec_l22Ranks.l4 k x5 (x6.set ((rd x141 x143) : Int).toNat x9) x9 x141 x142 (wrap64 (x143 + 1)) x357000 x357001 x357002 x358000 x358001) else (none)) else (none)) else (none)) else (none)) else (spec_l22Ranks.l1 k x5 x6 (wrap64 (x9 + 1)) x357000 x357001 x357002 x358000 x358001)
end
def spec_l22Ranks.f (k : Nat) (l0_0 : List ByteArray) (l0_1 : List Bool) (l0_2 : List (List Int)) (l1_0 : List ByteArray) (l1_1 : List ByteArray) : Option (List Int) := if 0 ≤ (l0_0.length : Int) then (if ((l0_0.length : Int) : Int).toNat ≤ 35184372088832 then ((some (List.replicate ((l0_0.length : Int) : Int).toNat 0 : List Int)).bind fun y358 => (if (l1_0.length : Int) = 0 then ((spec_l22Safe.f k l0_0 l0_1 l0_2 l1_0 l1_1 y358).bind fun t361 => (some t361)) else (spec_l22Ranks.l0 k (l0_0.length : Int) y358 l0_0 (l0_0.length : Int) 0 l0_0 l0_1 l0_2 l1_0 l1_1))) else (none)) else (none)
/-! ### spec_WinningPlaces: function 14 -/
end Go.Proofs.YtdihodboopeakaaDoor.Pr
-- Written by this session's own print (wip/tools/mkmp.py) out of the translation. Lean checks it.
namespace Go.Proofs.YtdihodboopeakaaDoor.Pr
open Go.RowKit Go.Proofs.YtdihodboopeakaaDoorW.PrintWords Go.Proofs.YtdihodboopeakaaDoorW.PrintLast Go.Proofs.YtdihodboopeakaaDoorW.PrintMore
attribute [local go_sem] max2_int min2_int max_two min_two max_three min_three max_four min_four   -- for this text's walks alone
set_option linter.unusedVariables false
set_option linter.unusedSimpArgs false

set_option maxHeartbeats 8000000 in
set_option maxRecDepth 100000 in
theorem impl_Board_shuns.calls (k : Nat) (A0_0 : Option Addr) (c0_0 : Nat) (l0_0 : List ByteArray) (A0_1 : Option Addr) (c0_1 : Nat) (l0_1 : List Bool) (A0_2 : Option Addr) (c0_2 : Nat) (l0_2 : List (List Int)) (A1_0 : Option Addr) (c1_0 : Nat) (l1_0 : List ByteArray) (A1_1 : Option Addr) (c1_1 : Nat) (l1_1 : List ByteArray) (a2 : Int) (r : Bool) (w : World) (hr0_0 : Kd.C Kd.string w A0_0 l0_0.length l0_0) (hc0_0 : l0_0.length ≤ c0_0) (hr0_1 : Kd.C Kd.bool w A0_1 l0_1.length l0_1) (hc0_1 : l0_1.length ≤ c0_1) (hr0_2 : Kd.C (Kd.slice 3 (Kd.int .i64)) w A0_2 l0_2.length l0_2) (hc0_2 : l0_2.length ≤ c0_2) (hr1_0 : Kd.C Kd.string w A1_0 l1_0.length l1_0) (hc1_0 : l1_0.length ≤ c1_0) (hr1_1 : Kd.C Kd.string w A1_1 l1_1.length l1_1) (hc1_1 : l1_1.length ≤ c1_1) (h : impl_Board_shuns.f k l0_0 l0_1 l0_2 l1_0 l1_1 a2 = some r) :
   Calls Tryd.prog 79 #[.agg #[.slice A0_0 l0_0.length c0_0, .slice A0_1 l0_1.length c0_1, .slice A0_2 l0_2.length c0_2], .agg #[.slice A1_0 l1_0.length c1_0, .slice A1_1 l1_1.length c1_1], .int .i64 a2] w fun e w' => e = .returned (.bool r) ∧ Below w.heap.size w w' := by
  have hu34 := Tryd.underlying34; have hu36 := Tryd.underlying36; have HR0_0 := Aside0.mk hr0_0; have HC0_0 := Aside0.mk hc0_0; clear hr0_0 hc0_0; have HR0_1 := Aside0.mk hr0_1; have HC0_1 := Aside0.mk hc0_1; clear hr0_1 hc0_1; have HR0_2 := Aside0.mk hr0_2; have HC0_2 := Aside0.mk hc0_2; clear hr0_2 hc0_2; have HR1_0 := Aside0.mk hr1_0; have HC1_0 := Aside0.mk hc1_0; clear hr1_0 hc1_0; have HR1_1 := Aside0.mk hr1_1; have HC1_1 := Aside0.mk hc1_1; clear hr1_1 hc1_1; have HB := Aside0.mk (Below.refl w.heap.size w); have H : (if 0 ≤ a2 then (if a2 < (l0_0.length : Int) then ((slices_Contains_string_string.f k l1_1 (rdOf ByteArray.empty l0_0 a2)).bind fun t252 => (some t252)) else (none)) else (none)) = some r := h; clear h; by_cases c4 : 0 ≤ a2
  ·rw [if_pos c4] at H
   have c4b0 : decide (0 ≤ a2) = true := decide_eq_true c4; clear c4; by_cases c5 : a2 < (l0_0.length : Int)
   ·rw [if_pos c5] at H
    have c5b0 : decide (a2 < (l0_0.length : Int)) = true := decide_eq_true c5; clear c5; replace H := Option.bind_eq_some_iff.mp H; obtain ⟨t252, A60, H⟩ := H; replace H : (some t252) = some r := H; have A6 := Aside0.mk A60; clear A60
    obtain rfl := Option.some.inj H
    go_enter Tryd.func79, Tryd.ntmps79; go_wp2_with (first | ((with_reducible refine gate_dst (N := 3) rfl ?_); refine box_event ?hg (N := 3) ?hd (cs := #[.slice A0_0 l0_0.length c0_0, .slice A0_1 l0_1.length c0_1, .slice A0_2 l0_2.length c0_2]) (t := 34) ?hr ?_; (case hd => rfl); (case hg => rfl); (case hr => first | (go_simp; done) | (go_simp; rfl)); intro gb249 hg w7 hbox hb; have BK249 := Aside0.mk (hbox); have GW249 : Aside0 (w.heap.size ≤ gb249) := gz_; have GE249 : Aside0 (w.heap.size ≤ gb249) := gz_; replace HB := Aside0.mk (below_step hb_ hb); clear hb hbox hg) | ((with_reducible refine gate_dst (N := 4) rfl ?_); refine box_event ?hg (N := 4) ?hd (cs := #[.slice A1_0 l1_0.length c1_0, .slice A1_1 l1_1.length c1_1]) (t := 36) ?hr ?_; (case hd => rfl); (case hg => rfl); (case hr => first | (go_simp; done) | (go_simp; rfl)); intro gb250 hg w8 hbox hb; have BK250 := Aside0.mk (hbox); have GW250 : Aside0 (w.heap.size ≤ gb250) := gz_; have GE250 : Aside0 (w.heap.size ≤ gb250) := gz_; have NB249_250 := Aside0.mk ((by rw [hg]; exact Nat.ne_of_lt (blk_lt (g := gb249) (o := .cells #[.slice A0_0 l0_0.length c0_0, .slice A0_1 l0_1.length c0_1, .slice A0_2 l0_2.length c0_2] 34 (0, 0)) (bk_ BK249.out)) : gb249 ≠ gb250)); have NB250_249 := Aside0.mk ((by rw [hg]; exact Nat.ne_of_gt (blk_lt (g := gb249) (o := .cells #[.slice A0_0 l0_0.length c0_0, .slice A0_1 l0_1.length c0_1, .slice A0_2 l0_2.length c0_2] 34 (0, 0)) (bk_ BK249.out)) : gb250 ≠ gb249)); replace BK249 := bb_ BK249 hb; replace HB := Aside0.mk (below_step hb_ hb); clear hb hbox hg; have hnb9 := NB250_249.out; have hnc9 := NB249_250.out; have hcz10_0 : w8.cell? ⟨gb250, 0, none⟩ = some (.slice A1_0 l1_0.length c1_0) := (blk_cell BK250.out 0).trans rfl; have hcz10_1 : w8.cell? ⟨gb250, 1, none⟩ = some (.slice A1_1 l1_1.length c1_1) := (blk_cell BK250.out 1).trans rfl; have hfz10_0 := blk_frozen BK250.out 0; have hfz10_1 := blk_frozen BK250.out 1; have hcz11_0 : w8.cell? ⟨gb249, 0, none⟩ = some (.slice A0_0 l0_0.length c0_0) := (blk_cell BK249.out 0).trans rfl; have hcz11_1 : w8.cell? ⟨gb249, 1, none⟩ = some (.slice A0_1 l0_1.length c0_1) := (blk_cell BK249.out 1).trans rfl; have hcz11_2 : w8.cell? ⟨gb249, 2, none⟩ = some (.slice A0_2 l0_2.length c0_2) := (blk_cell BK249.out 2).trans rfl; have hfz11_0 := blk_frozen BK249.out 0; have hfz11_1 := blk_frozen BK249.out 1; have hfz11_2 := blk_frozen BK249.out 2; have p251 : 0 ≤ (a2 : Int) := of_decide_eq_true as_; have q251 : a2 < (l0_0.length : Int) := of_decide_eq_true as_; obtain ⟨ad251, e251, hx251_0⟩ := Kd.at_string HR0_0.out a2 p251 q251; cases e251; replace hx251_0 := hc_ HB hx251_0; replace p251 := eq_true p251; replace q251 := eq_true q251) | (go_at_call 73; (with_reducible refine (slices_Contains_string_string.calls k _ _ l1_1 (rdOf ByteArray.empty l0_0 a2) t252 _ ?side1 ?side2 A6.out).mono ?_); (case side1 => exact cb_ HR1_1.out); (case side2 => exact HC1_1.out); rintro e w' ⟨rfl, ⟨nd, rfl⟩⟩; (try first | exact ⟨rfl, _, World.drewN_drewN _ _ _⟩ | exact ⟨rfl, _, Eq.trans (World.drewN_drewN _ _ _) (congrArg (World.drewN _) (Nat.add_assoc _ _ _))⟩))); (repeat (go_quiet (first | ((with_reducible refine gate_dst (N := 3) rfl ?_); refine box_event ?hg (N := 3) ?hd (cs := #[.slice A0_0 l0_0.length c0_0, .slice A0_1 l0_1.length c0_1, .slice A0_2 l0_2.length c0_2]) (t := 34) ?hr ?_; (case hd => rfl); (case hg => rfl); (case hr => first | (go_simp; done) | (go_simp; rfl)); intro gb249 hg w7 hbox hb; have BK249 := Aside0.mk (hbox); have GW249 : Aside0 (w.heap.size ≤ gb249) := gz_; have GE249 : Aside0 (w.heap.size ≤ gb249) := gz_; replace HB := Aside0.mk (below_step hb_ hb); clear hb hbox hg) | ((with_reducible refine gate_dst (N := 4) rfl ?_); refine box_event ?hg (N := 4) ?hd (cs := #[.slice A1_0 l1_0.length c1_0, .slice A1_1 l1_1.length c1_1]) (t := 36) ?hr ?_; (case hd => rfl); (case hg => rfl); (case hr => first | (go_simp; done) | (go_simp; rfl)); intro gb250 hg w8 hbox hb; have BK250 := Aside0.mk (hbox); have GW250 : Aside0 (w.heap.size ≤ gb250) := gz_; have GE250 : Aside0 (w.heap.size ≤ gb250) := gz_; have NB249_250 := Aside0.mk ((by rw [hg]; exact Nat.ne_of_lt (blk_lt (g := gb249) (o := .cells #[.slice A0_0 l0_0.length c0_0, .slice A0_1 l0_1.length c0_1, .slice A0_2 l0_2.length c0_2] 34 (0, 0)) (bk_ BK249.out)) : gb249 ≠ gb250)); have NB250_249 := Aside0.mk ((by rw [hg]; exact Nat.ne_of_gt (blk_lt (g := gb249) (o := .cells #[.slice A0_0 l0_0.length c0_0, .slice A0_1 l0_1.length c0_1, .slice A0_2 l0_2.length c0_2] 34 (0, 0)) (bk_ BK249.out)) : gb250 ≠ gb249)); replace BK249 := bb_ BK249 hb; replace HB := Aside0.mk (below_step hb_ hb); clear hb hbox hg; have hnb9 := NB250_249.out; have hnc9 := NB249_250.out; have hcz10_0 : w8.cell? ⟨gb250, 0, none⟩ = some (.slice A1_0 l1_0.length c1_0) := (blk_cell BK250.out 0).trans rfl; have hcz10_1 : w8.cell? ⟨gb250, 1, none⟩ = some (.slice A1_1 l1_1.length c1_1) := (blk_cell BK250.out 1).trans rfl; have hfz10_0 := blk_frozen BK250.out 0; have hfz10_1 := blk_frozen BK250.out 1; have hcz11_0 : w8.cell? ⟨gb249, 0, none⟩ = some (.slice A0_0 l0_0.length c0_0) := (blk_cell BK249.out 0).trans rfl; have hcz11_1 : w8.cell? ⟨gb249, 1, none⟩ = some (.slice A0_1 l0_1.length c0_1) := (blk_cell BK249.out 1).trans rfl; have hcz11_2 : w8.cell? ⟨gb249, 2, none⟩ = some (.slice A0_2 l0_2.length c0_2) := (blk_cell BK249.out 2).trans rfl; have hfz11_0 := blk_frozen BK249.out 0; have hfz11_1 := blk_frozen BK249.out 1; have hfz11_2 := blk_frozen BK249.out 2; have p251 : 0 ≤ (a2 : Int) := of_decide_eq_true as_; have q251 : a2 < (l0_0.length : Int) := of_decide_eq_true as_; obtain ⟨ad251, e251, hx251_0⟩ := Kd.at_string HR0_0.out a2 p251 q251; cases e251; replace hx251_0 := hc_ HB hx251_0; replace p251 := eq_true p251; replace q251 := eq_true q251) | (go_at_call 73; (with_reducible refine (slices_Contains_string_string.calls k _ _ l1_1 (rdOf ByteArray.empty l0_0 a2) t252 _ ?side1 ?side2 A6.out).mono ?_); (case side1 => exact cb_ HR1_1.out); (case side2 => exact HC1_1.out); rintro e w' ⟨rfl, ⟨nd, rfl⟩⟩; (try first | exact ⟨rfl, _, World.drewN_drewN _ _ _⟩ | exact ⟨rfl, _, Eq.trans (World.drewN_drewN _ _ _) (congrArg (World.drewN _) (Nat.add_assoc _ _ _))⟩))); try go_wp2_with (first | ((with_reducible refine gate_dst (N := 3) rfl ?_); refine box_event ?hg (N := 3) ?hd (cs := #[.slice A0_0 l0_0.length c0_0, .slice A0_1 l0_1.length c0_1, .slice A0_2 l0_2.length c0_2]) (t := 34) ?hr ?_; (case hd => rfl); (case hg => rfl); (case hr => first | (go_simp; done) | (go_simp; rfl)); intro gb249 hg w7 hbox hb; have BK249 := Aside0.mk (hbox); have GW249 : Aside0 (w.heap.size ≤ gb249) := gz_; have GE249 : Aside0 (w.heap.size ≤ gb249) := gz_; replace HB := Aside0.mk (below_step hb_ hb); clear hb hbox hg) | ((with_reducible refine gate_dst (N := 4) rfl ?_); refine box_event ?hg (N := 4) ?hd (cs := #[.slice A1_0 l1_0.length c1_0, .slice A1_1 l1_1.length c1_1]) (t := 36) ?hr ?_; (case hd => rfl); (case hg => rfl); (case hr => first | (go_simp; done) | (go_simp; rfl)); intro gb250 hg w8 hbox hb; have BK250 := Aside0.mk (hbox); have GW250 : Aside0 (w.heap.size ≤ gb250) := gz_; have GE250 : Aside0 (w.heap.size ≤ gb250) := gz_; have NB249_250 := Aside0.mk ((by rw [hg]; exact Nat.ne_of_lt (blk_lt (g := gb249) (o := .cells #[.slice A0_0 l0_0.length c0_0, .slice A0_1 l0_1.length c0_1, .slice A0_2 l0_2.length c0_2] 34 (0, 0)) (bk_ BK249.out)) : gb249 ≠ gb250)); have NB250_249 := Aside0.mk ((by rw [hg]; exact Nat.ne_of_gt (blk_lt (g := gb249) (o := .cells #[.slice A0_0 l0_0.length c0_0, .slice A0_1 l0_1.length c0_1, .slice A0_2 l0_2.length c0_2] 34 (0, 0)) (bk_ BK249.out)) : gb250 ≠ gb249)); replace BK249 := bb_ BK249 hb; replace HB := Aside0.mk (below_step hb_ hb); clear hb hbox hg; have hnb9 := NB250_249.out; have hnc9 := NB249_250.out; have hcz10_0 : w8.cell? ⟨gb250, 0, none⟩ = some (.slice A1_0 l1_0.length c1_0) := (blk_cell BK250.out 0).trans rfl; have hcz10_1 : w8.cell? ⟨gb250, 1, none⟩ = some (.slice A1_1 l1_1.length c1_1) := (blk_cell BK250.out 1).trans rfl; have hfz10_0 := blk_frozen BK250.out 0; have hfz10_1 := blk_frozen BK250.out 1; have hcz11_0 : w8.cell? ⟨gb249, 0, none⟩ = some (.slice A0_0 l0_0.length c0_0) := (blk_cell BK249.out 0).trans rfl; have hcz11_1 : w8.cell? ⟨gb249, 1, none⟩ = some (.slice A0_1 l0_1.length c0_1) := (blk_cell BK249.out 1).trans rfl; have hcz11_2 : w8.cell? ⟨gb249, 2, none⟩ = some (.slice A0_2 l0_2.length c0_2) := (blk_cell BK249.out 2).trans rfl; have hfz11_0 := blk_frozen BK249.out 0; have hfz11_1 := blk_frozen BK249.out 1; have hfz11_2 := blk_frozen BK249.out 2; have p251 : 0 ≤ (a2 : Int) := of_decide_eq_true as_; have q251 : a2 < (l0_0.length : Int) := of_decide_eq_true as_; obtain ⟨ad251, e251, hx251_0⟩ := Kd.at_string HR0_0.out a2 p251 q251; cases e251; replace hx251_0 := hc_ HB hx251_0; replace p251 := eq_true p251; replace q251 := eq_true q251) | (go_at_call 73; (with_reducible refine (slices_Contains_string_string.calls k _ _ l1_1 (rdOf ByteArray.empty l0_0 a2) t252 _ ?side1 ?side2 A6.out).mono ?_); (case side1 => exact cb_ HR1_1.out); (case side2 => exact HC1_1.out); rintro e w' ⟨rfl, ⟨nd, rfl⟩⟩; (try first | exact ⟨rfl, _, World.drewN_drewN _ _ _⟩ | exact ⟨rfl, _, Eq.trans (World.drewN_drewN _ _ _) (congrArg (World.drewN _) (Nat.add_assoc _ _ _))⟩)))))
    go_ret; exact ⟨er_, hb_⟩
   ·rw [if_neg c5] at H
    exact absurd H (by simp)
  ·rw [if_neg c4] at H
   exact absurd H (by simp)

end Go.Proofs.YtdihodboopeakaaDoor.Pr
