-- Joined and pruned by wip/tools/prune.py out of this session's own texts (Pr0, Prd1, Pr6, Pr1, Pr2)
import Derived.Test.YtbdonoeellmeoaaZbs3
import Derived.Test.YtbdonoeellmeoaaProg
import Derived.Below
import Derived.Deep.Draws
import Derived.Deep.AppendLies
import Derived.Maps.AppendAt
import Derived.OwnWalk
import Derived.Laws.BytesArg
import Derived.Laws.MakeOwn
import Derived.Laws.OwnMore
import Derived.Deep.OwnRows
import Derived.Tactics
import Derived.Lib.ConvBytes
import Derived.Laws.Slices
import Derived.WalkKit
import Derived.KernelRfl
import Derived.RowKit3
import Derived.Deep.LoopGhost
import Derived.Deep.QuietTactic
import Derived.BigQuiet
import Derived.WideLaws
import Derived.Deep.DeepCutAuto
import Derived.Deep.CutBlock
import Derived.Deep.RegionHeld3
import Derived.Laws.Rows
import Derived.Lib.AppendStr
import Derived.ArgAppend
import Derived.Laws.IdiomCopy
import Derived.OrdersHeld
import Derived.Laws.BitsLemmas
import Derived.RowKit
-- Written by this session's own print (wip/tools/mkmp.py) out of the translation. Lean checks it.
namespace Go.Proofs.Ytbdonoeellmeoaa.Pr
open Go.RowKit Go.Proofs.YtbdonoeellmeoaaW.PrintWords Go.Proofs.YtbdonoeellmeoaaW.PrintLast Go.Proofs.YtbdonoeellmeoaaW.PrintMore
attribute [local go_sem] max2_int min2_int max_two min_two max_three min_three max_four min_four   -- for this text's walks alone
set_option linter.unusedVariables false
set_option linter.unusedSimpArgs false



def errW : Option Int → Value
  | none => .nilIface
  | some c => .iface 0 (.int .i64 c)
theorem errW_none : errW none = .nilIface := rfl
theorem errW_some (c : Int) : errW (some c) = .iface 0 (.int .i64 c) := rfl

theorem info3 : (Try.prog.info? 3).map (fun i => (i.zero, i.size, i.bytes)) = some (some (.int .i64 0), 1, 8) := by kernel_rfl
theorem info5 : (Try.prog.info? 5).map (fun i => (i.zero, i.size, i.bytes)) = some (some (.int .u8 0), 1, 1) := by kernel_rfl
theorem info27 : (Try.prog.info? 27).map (fun i => (i.zero, i.size, i.bytes)) = some (some (.agg #[(.int .i64 0), (.slice none 0 0)]), 2, 32) := by kernel_rfl
theorem info66 : (Try.prog.info? 66).map (fun i => (i.zero, i.size, i.bytes)) = some (some (.agg #[(.slice none 0 0), (.int .i64 0), (.int .i64 0), (.bool false)]), 4, 48) := by kernel_rfl
-- the values' own types
/-! #### struct type 27 -/
structure S27 where
  f0 : Int
  f1 : (List Int)
def z27 : S27 := ⟨(0 : Int), ([] : List Int)⟩
def k27 : Kd S27 := Kd.iso (Kd.pair (Kd.int .i64) (Kd.slice 5 (Kd.int .u8))) (fun x : S27 => (x.f0, x.f1))
theorem k27_open {w : World} {x : S27} {cs : List Value} (h : k27.K w x cs) : ∃ A1 c1, cs = [.int .i64 x.f0, .slice A1 x.f1.length c1] ∧ x.f1.length ≤ c1 ∧ (Kd.int .u8).C w A1 x.f1.length x.f1 := by
  obtain ⟨_, _, rfl, rfl, ⟨A1, c1, rfl, l1, g1⟩⟩ := h
  exact ⟨A1, c1, rfl, l1, g1⟩
theorem k27_mk (w : World) (x : S27) {A1 : Option Addr} {c1 : Nat} (l1 : x.f1.length ≤ c1) (g1 : (Kd.int .u8).C w A1 x.f1.length x.f1) : k27.K w x [.int .i64 x.f0, .slice A1 x.f1.length c1] := ⟨[.int .i64 x.f0], [.slice A1 x.f1.length c1], rfl, rfl, ⟨A1, c1, rfl, l1, g1⟩⟩
theorem k27_mkM (w : World) (base : Nat) (ok : Nat → Prop) (x : S27) {v1 : Value} (g1 : (Kd.int .u8).R 5 w base ok v1 x.f1) : k27.M w base ok x [.int .i64 x.f0, v1] := ⟨[.int .i64 x.f0], [v1], rfl, rfl, ⟨v1, rfl, g1⟩⟩
def rd_T27 (xs : List S27) (i : Int) : S27 := xs.getD i.toNat z27
theorem at_T27 {w : World} {A : Option Addr} {n : Nat} {xs : List S27} (h : Kd.C k27 w A n xs) (i : Int) (h0 : 0 ≤ i) (h1 : i < n) : ∃ ad A1 c1, A = some ad ∧ w.cell? (ad.add (i.toNat * 2)) = some (.int .i64 (rd_T27 xs i).f0) ∧ w.cell? ⟨(ad.add (i.toNat * 2)).block, (ad.add (i.toNat * 2)).off + 1, none⟩ = some (.slice A1 (rd_T27 xs i).f1.length c1) ∧ (rd_T27 xs i).f1.length ≤ c1 ∧ (Kd.int .u8).C w A1 (rd_T27 xs i).f1.length (rd_T27 xs i).f1 := by
  obtain ⟨ad, c, e, _, hK, hc0⟩ := Kd.C_get h z27 i h0 h1
  have hc : ∀ j u, c[j]? = some u → w.cell? (ad.add (i.toNat * 2 + j)) = some u := hc0
  obtain ⟨A1, c1, rfl, l1, g1⟩ := k27_open hK
  exact ⟨ad, A1, c1, e, hc 0 _ rfl, by rw [← add_field _ _ 1 (by omega)]; exact hc 1 _ rfl, l1, g1⟩

/-! #### struct type 66 -/
structure S66 where
  f0 : (List S27)
  f1 : Int
  f2 : Int
  f3 : Bool
def z66 : S66 := ⟨([] : List S27), (0 : Int), (0 : Int), false⟩
def k66 : Kd S66 := Kd.iso (Kd.pair (Kd.slice 27 k27) (Kd.pair (Kd.int .i64) (Kd.pair (Kd.int .i64) Kd.bool))) (fun x : S66 => (x.f0, x.f1, x.f2, x.f3))
theorem k66_open {w : World} {x : S66} {cs : List Value} (h : k66.K w x cs) : ∃ A0 c0, cs = [.slice A0 x.f0.length c0, .int .i64 x.f1, .int .i64 x.f2, .bool x.f3] ∧ x.f0.length ≤ c0 ∧ k27.C w A0 x.f0.length x.f0 := by
  obtain ⟨_, _, rfl, ⟨A0, c0, rfl, l0, g0⟩, ⟨_, _, rfl, rfl, ⟨_, _, rfl, rfl, rfl⟩⟩⟩ := h
  exact ⟨A0, c0, rfl, l0, g0⟩
theorem k66_mk (w : World) (x : S66) {A0 : Option Addr} {c0 : Nat} (l0 : x.f0.length ≤ c0) (g0 : k27.C w A0 x.f0.length x.f0) : k66.K w x [.slice A0 x.f0.length c0, .int .i64 x.f1, .int .i64 x.f2, .bool x.f3] := ⟨[.slice A0 x.f0.length c0], [.int .i64 x.f1, .int .i64 x.f2, .bool x.f3], rfl, ⟨A0, c0, rfl, l0, g0⟩, ⟨[.int .i64 x.f1], [.int .i64 x.f2, .bool x.f3], rfl, rfl, ⟨[.int .i64 x.f2], [.bool x.f3], rfl, rfl, rfl⟩⟩⟩
theorem k66_mkM (w : World) (base : Nat) (ok : Nat → Prop) (x : S66) {v0 : Value} (g0 : k27.R 27 w base ok v0 x.f0) : k66.M w base ok x [v0, .int .i64 x.f1, .int .i64 x.f2, .bool x.f3] := ⟨[v0], [.int .i64 x.f1, .int .i64 x.f2, .bool x.f3], rfl, ⟨v0, rfl, g0⟩, ⟨[.int .i64 x.f1], [.int .i64 x.f2, .bool x.f3], rfl, rfl, ⟨[.int .i64 x.f2], [.bool x.f3], rfl, rfl, rfl⟩⟩⟩
def rd_T66 (xs : List S66) (i : Int) : S66 := xs.getD i.toNat z66
theorem at_T66 {w : World} {A : Option Addr} {n : Nat} {xs : List S66} (h : Kd.C k66 w A n xs) (i : Int) (h0 : 0 ≤ i) (h1 : i < n) : ∃ ad A0 c0, A = some ad ∧ w.cell? (ad.add (i.toNat * 4)) = some (.slice A0 (rd_T66 xs i).f0.length c0) ∧ w.cell? ⟨(ad.add (i.toNat * 4)).block, (ad.add (i.toNat * 4)).off + 1, none⟩ = some (.int .i64 (rd_T66 xs i).f1) ∧ w.cell? ⟨(ad.add (i.toNat * 4)).block, (ad.add (i.toNat * 4)).off + 2, none⟩ = some (.int .i64 (rd_T66 xs i).f2) ∧ w.cell? ⟨(ad.add (i.toNat * 4)).block, (ad.add (i.toNat * 4)).off + 3, none⟩ = some (.bool (rd_T66 xs i).f3) ∧ (rd_T66 xs i).f0.length ≤ c0 ∧ k27.C w A0 (rd_T66 xs i).f0.length (rd_T66 xs i).f0 := by
  obtain ⟨ad, c, e, _, hK, hc0⟩ := Kd.C_get h z66 i h0 h1
  have hc : ∀ j u, c[j]? = some u → w.cell? (ad.add (i.toNat * 4 + j)) = some u := hc0
  obtain ⟨A0, c0, rfl, l0, g0⟩ := k66_open hK
  exact ⟨ad, A0, c0, e, hc 0 _ rfl, by rw [← add_field _ _ 1 (by omega)]; exact hc 1 _ rfl, by rw [← add_field _ _ 2 (by omega)]; exact hc 2 _ rfl, by rw [← add_field _ _ 3 (by omega)]; exact hc 3 _ rfl, l0, g0⟩

/-! #### struct type 73 -/
structure S73 where
  f0 : Int
  f1 : Int
  f2 : Int
  f3 : Bool
def z73 : S73 := ⟨(0 : Int), (0 : Int), (0 : Int), false⟩
def k73 : Kd S73 := Kd.iso (Kd.pair (Kd.int .i64) (Kd.pair (Kd.int .i64) (Kd.pair (Kd.int .i64) Kd.bool))) (fun x : S73 => (x.f0, x.f1, x.f2, x.f3))
theorem k73_open {w : World} {x : S73} {cs : List Value} (h : k73.K w x cs) : cs = [.int .i64 x.f0, .int .i64 x.f1, .int .i64 x.f2, .bool x.f3] := by
  obtain ⟨_, _, rfl, rfl, ⟨_, _, rfl, rfl, ⟨_, _, rfl, rfl, rfl⟩⟩⟩ := h
  exact rfl
theorem k73_mkM (w : World) (base : Nat) (ok : Nat → Prop) (x : S73)  : k73.M w base ok x [.int .i64 x.f0, .int .i64 x.f1, .int .i64 x.f2, .bool x.f3] := ⟨[.int .i64 x.f0], [.int .i64 x.f1, .int .i64 x.f2, .bool x.f3], rfl, rfl, ⟨[.int .i64 x.f1], [.int .i64 x.f2, .bool x.f3], rfl, rfl, ⟨[.int .i64 x.f2], [.bool x.f3], rfl, rfl, rfl⟩⟩⟩
def rd_T73 (xs : List S73) (i : Int) : S73 := xs.getD i.toNat z73
theorem at_T73 {w : World} {A : Option Addr} {n : Nat} {xs : List S73} (h : Kd.C k73 w A n xs) (i : Int) (h0 : 0 ≤ i) (h1 : i < n) : ∃ ad , A = some ad ∧ w.cell? (ad.add (i.toNat * 4)) = some (.int .i64 (rd_T73 xs i).f0) ∧ w.cell? ⟨(ad.add (i.toNat * 4)).block, (ad.add (i.toNat * 4)).off + 1, none⟩ = some (.int .i64 (rd_T73 xs i).f1) ∧ w.cell? ⟨(ad.add (i.toNat * 4)).block, (ad.add (i.toNat * 4)).off + 2, none⟩ = some (.int .i64 (rd_T73 xs i).f2) ∧ w.cell? ⟨(ad.add (i.toNat * 4)).block, (ad.add (i.toNat * 4)).off + 3, none⟩ = some (.bool (rd_T73 xs i).f3) := by
  obtain ⟨ad, c, e, _, hK, hc0⟩ := Kd.C_get h z73 i h0 h1
  have hc : ∀ j u, c[j]? = some u → w.cell? (ad.add (i.toNat * 4 + j)) = some u := hc0
  obtain rfl := k73_open hK
  exact ⟨ad, e, hc 0 _ rfl, by rw [← add_field _ _ 1 (by omega)]; exact hc 1 _ rfl, by rw [← add_field _ _ 2 (by omega)]; exact hc 2 _ rfl, by rw [← add_field _ _ 3 (by omega)]; exact hc 3 _ rfl⟩

end Go.Proofs.Ytbdonoeellmeoaa.Pr
-- Written by this session's own print (wip/tools/mkmp.py) out of the translation. Lean checks it.
namespace Go.Proofs.Ytbdonoeellmeoaa.Pr
open Go.RowKit Go.Proofs.YtbdonoeellmeoaaW.PrintWords Go.Proofs.YtbdonoeellmeoaaW.PrintLast Go.Proofs.YtbdonoeellmeoaaW.PrintMore
attribute [local go_sem] max2_int min2_int max_two min_two max_three min_three max_four min_four   -- for this text's walks alone
set_option linter.unusedVariables false
set_option linter.unusedSimpArgs false

/-! ### spec_Arbitrate: function 13 -/
mutual
def spec_Arbitrate.j0 : Nat → List Int → Bool → Option (Int × List Int × Bool)
  | 0, _, _ => none
  | k + 1, x0, x23 => if x23 = true then (some (0, ([] : List Int), false)) else (spec_Arbitrate.l0 k x0 x0 (x0.length : Int) 0)
def spec_Arbitrate.l0 : Nat → List Int → List Int → Int → Int → Option (Int × List Int × Bool)
  | 0, _, _, _, _ => none
  | k + 1, x0, x24, x25, x26 => if x26 < x25 then (if 0 ≤ x26 then (if x26 < (x24.length : Int) then (if (rd x24 x26) < 0 then (some (0, ([] : List Int), false)) else (if (rd x24 x26) > 2047 then (some (0, ([] : List Int), false)) else (spec_Arbitrate.l0 k x0 x24 x25 (wrap64 (x26 + 1))))) else (none)) else (none)) else (if 0 ≤ (x0.length : Int) then (if ((x0.length : Int) : Int).toNat ≤ 35184372088832 then ((some (List.replicate ((x0.length : Int) : Int).toNat 0 : List Int)).bind fun y102 => (spec_Arbitrate.l1 k x0 y102 (y102.length : Int) 0)) else (none)) else (none))
def spec_Arbitrate.l1 : Nat → List Int → List Int → Int → Int → Option (Int × List Int × Bool)
  | 0, _, _, _, _ => none
  | k + 1, x0, x7, x41, x42 => if x42 < x41 then (if 0 ≤ x42 then (if x42 < (x7.length : Int) then (spec_Arbitrate.l1 k x0 (x7.set (x42 : Int).toNat (-1)) x41 (wrap64 (x42 + 1))) else (none)) else (none)) else (spec_Arbitrate.l2 k x0 x7 0)
def spec_Arbitrate.l2 : Nat → List Int → List Int → Int → Option (Int × List Int × Bool)
  | 0, _, _, _ => none
  | k + 1, x0, x7, x9 => if x9 < 11 then (spec_Arbitrate.l3 k x0 x7 x9 false x0 (x0.length : Int) 0) else (spec_Arbitrate.l5 k x7 0)
def spec_Arbitrate.l3 : Nat → List Int → List Int → Int → Bool → List Int → Int → Int → Option (Int × List Int × Bool)
  | 0, _, _, _, _, _, _, _ => none
  | k + 1, x0, x7, x9, x10, x53, x54, x55 => if x55 < x54 then (if 0 ≤ x55 then (if x55 < (x53.length : Int) then (if x10 = true then (spec_Arbitrate.l3 k x0 x7 x9 true x53 x54 (wrap64 (x55 + 1))) else (if x55 < (x7.length : Int) then (if (rd x7 x55) < 0 then (if 0 ≤ (IntKind.u64.wrap (wrap64 (10 - x9))) then (spec_Arbitrate.l3 k x0 x7 x9 ((Go.bits .and .i64 (shr .i64 (rd x53 x55) (IntKind.u64.wrap (wrap64 (10 - x9)))) 1) == 0) x53 x54 (wrap64 (x55 + 1))) else (none)) else (spec_Arbitrate.l3 k x0 x7 x9 false x53 x54 (wrap64 (x55 + 1)))) else (none))) else (none)) else (none)) else (spec_Arbitrate.l4 k x0 x7 x9 x10 x0 (x0.length : Int) 0)
def spec_Arbitrate.l4 : Nat → List Int → List Int → Int → Bool → List Int → Int → Int → Option (Int × List Int × Bool)
  | 0, _, _, _, _, _, _, _ => none
  | k + 1, x0, x7, x9, x10, x78, x79, x80 => if x80 < x79 then (if 0 ≤ x80 then (if x80 < (x78.length : Int) then (if x10 = true then (if x80 < (x7.length : Int) then (if (rd x7 x80) < 0 then (if 0 ≤ (IntKind.u64.wrap (wrap64 (10 - x9))) then (if (Go.bits .and .i64 (shr .i64 (rd x78 x80) (IntKind.u64.wrap (wrap64 (10 - x9)))) 1) = 1 then (spec_Arbitrate.l4 k x0 (x7.set (x80 : Int).toNat x9) x9 x10 x78 x79 (wrap64 (x80 + 1))) else (spec_Arbitrate.l4 k x0 x7 x9 x10 x78 x79 (wrap64 (x80 + 1)))) else (none)) else (spec_Arbitrate.l4 k x0 x7 x9 x10 x78 x79 (wrap64 (x80 + 1)))) else (none)) else (spec_Arbitrate.l4 k x0 x7 x9 x10 x78 x79 (wrap64 (x80 + 1)))) else (none)) else (none)) else (spec_Arbitrate.l2 k x0 x7 (wrap64 (x9 + 1)))
def spec_Arbitrate.l5 : Nat → List Int → Int → Option (Int × List Int × Bool)
  | 0, _, _ => none
  | k + 1, x7, x15 => if 0 ≤ x15 then (if x15 < (x7.length : Int) then (if (rd x7 x15) ≥ 0 then (spec_Arbitrate.l5 k x7 (wrap64 (x15 + 1))) else (some (x15, x7, true))) else (none)) else (none)
end
def spec_Arbitrate.f (k : Nat) (l0 : List Int) : Option (Int × List Int × Bool) := if (l0.length : Int) < 1 then (spec_Arbitrate.j0 k l0 true) else (spec_Arbitrate.j0 k l0 (decide ((l0.length : Int) > 6)))
/-! ### laws_toIntS: function 14 -/
/-! ### impl_between: function 29 -/
def impl_between.f (a0 : Int) (a1 : Int) (a2 : Int) : Option (Bool) := if a0 ≥ a1 then (some (decide (a0 ≤ a2))) else (some false)

/-! ### slices_Index_int_int: function 31 -/
def slices_Index_int_int.l0 : Nat → List Int → Int → Int → Int → Option (Int)
  | 0, _, _, _, _ => none
  | k + 1, x0, x1, x7, x8 => if x8 < x7 then (if 0 ≤ x8 then (if x8 < (x0.length : Int) then (if x1 = (rd x0 x8) then (some x8) else (slices_Index_int_int.l0 k x0 x1 x7 (wrap64 (x8 + 1)))) else (none)) else (none)) else (some (-1))
def slices_Index_int_int.f (k : Nat) (l0 : List Int) (a1 : Int) : Option (Int) := slices_Index_int_int.l0 k l0 a1 (l0.length : Int) 0
/-! ### impl_Arbitrate: function 15 -/
mutual
def impl_Arbitrate.j0 : Nat → List Int → Bool → Option (Int × List Int × Bool)
  | 0, _, _ => none
  | k + 1, x0, x21 => if x21 = true then (some (0, ([] : List Int), false)) else (if 0 ≤ (x0.length : Int) then (if ((x0.length : Int) : Int).toNat ≤ 35184372088832 then (impl_Arbitrate.l0 k x0 (List.replicate ((x0.length : Int) : Int).toNat 0) x0 (x0.length : Int) 0) else (none)) else (none))
def impl_Arbitrate.l0 : Nat → List Int → List Int → List Int → Int → Int → Option (Int × List Int × Bool)
  | 0, _, _, _, _, _ => none
  | k + 1, x0, x5, x25, x26, x27 => if x27 < x26 then (if 0 ≤ x27 then (if x27 < (x25.length : Int) then ((impl_between.f (rd x25 x27) 0 2047).bind fun t122 => (if t122 = true then (if x27 < (x5.length : Int) then (impl_Arbitrate.l0 k x0 (x5.set (x27 : Int).toNat (-1)) x25 x26 (wrap64 (x27 + 1))) else (none)) else (some (0, ([] : List Int), false)))) else (none)) else (none)) else (impl_Arbitrate.l1 k x0 x5 0)
def impl_Arbitrate.l1 : Nat → List Int → List Int → Int → Option (Int × List Int × Bool)
  | 0, _, _, _ => none
  | k + 1, x0, x5, x39 => if x39 < 11 then (impl_Arbitrate.l2 k x0 x5 x39 1 x39 x0 (x0.length : Int) 0) else ((slices_Index_int_int.f k x5 (-1)).bind fun t124 => (some (t124, x5, true)))
def impl_Arbitrate.l2 : Nat → List Int → List Int → Int → Int → Int → List Int → Int → Int → Option (Int × List Int × Bool)
  | 0, _, _, _, _, _, _, _, _ => none
  | k + 1, x0, x5, x8, x9, x39, x42, x43, x44 => if x44 < x43 then (if 0 ≤ x44 then (if x44 < (x42.length : Int) then (if x44 < (x5.length : Int) then (if (rd x5 x44) < 0 then (if 0 ≤ (wrap64 (10 - x8)) then (impl_Arbitrate.l2 k x0 x5 x8 (Go.bits .and .i64 x9 (Go.bits .and .i64 (shr .i64 (rd x42 x44) (wrap64 (10 - x8))) 1)) x39 x42 x43 (wrap64 (x44 + 1))) else (none)) else (impl_Arbitrate.l2 k x0 x5 x8 x9 x39 x42 x43 (wrap64 (x44 + 1)))) else (none)) else (none)) else (none)) else (impl_Arbitrate.l3 k x0 x5 x8 x9 x39 x0 (x0.length : Int) 0)
def impl_Arbitrate.l3 : Nat → List Int → List Int → Int → Int → Int → List Int → Int → Int → Option (Int × List Int × Bool)
  | 0, _, _, _, _, _, _, _, _ => none
  | k + 1, x0, x5, x8, x9, x39, x62, x63, x64 => if x64 < x63 then (if 0 ≤ x64 then (if x64 < (x62.length : Int) then (if x64 < (x5.length : Int) then (if (rd x5 x64) < 0 then (if 0 ≤ (wrap64 (10 - x8)) then (if (Go.bits .and .i64 (shr .i64 (rd x62 x64) (wrap64 (10 - x8))) 1) > x9 then (impl_Arbitrate.l3 k x0 (x5.set (x64 : Int).toNat x8) x8 x9 x39 x62 x63 (wrap64 (x64 + 1))) else (impl_Arbitrate.l3 k x0 x5 x8 x9 x39 x62 x63 (wrap64 (x64 + 1)))) else (none)) else (impl_Arbitrate.l3 k x0 x5 x8 x9 x39 x62 x63 (wrap64 (x64 + 1)))) else (none)) else (none)) else (none)) else (impl_Arbitrate.l1 k x0 x5 (wrap64 (x39 + 1)))
end
def impl_Arbitrate.f (k : Nat) (l0 : List Int) : Option (Int × List Int × Bool) := if (l0.length : Int) < 1 then (impl_Arbitrate.j0 k l0 true) else (impl_Arbitrate.j0 k l0 (decide ((l0.length : Int) > 6)))
/-! ### laws_eqIntS: function 16 -/
/-! ### laws_markIntS: function 17 -/
/-! ### laws_heldIntS: function 18 -/
/-! ### laws_FnExactArbitrate: function 4 -/
/-- A state of type 57 at block g of W; what its slices lead to came in by w0. -/
def IsS57 (w0 W : World) (g : Nat) (f0 : List Int) (f1 : Int) (f2 : Int) : Prop := ∃ A0 c0, W.heap[g]? = some (.cells #[.slice A0 f0.length c0, .int .i64 f1, .int .u64 f2] 57 (0, 0)) ∧ w0.heap.size ≤ g ∧ Kd.C (Kd.int .u8) w0 A0 f0.length f0
theorem IsS57.grown {w0 W : World} {g : Nat} {f0 : List Int} {f1 : Int} {f2 : Int} {W1 : World} {row : Option Nat} (h : IsS57 w0 W g f0 f1 f2) (hw : W.grownBy W1 row) (hne : some g ≠ row) : IsS57 w0 W1 g f0 f1 f2 := by
  obtain ⟨A0, c0, hb, hg, hr0⟩ := h
  exact ⟨A0, c0, blk_grown hb hw hne, hg, hr0⟩
theorem IsS57.kept {w0 W : World} {g : Nat} {f0 : List Int} {f1 : Int} {f2 : Int} {W1 : World} {S : Nat → Prop} (h : IsS57 w0 W g f0 f1 f2) (hk : Kept W W1 S) (hne : ¬ S g) : IsS57 w0 W1 g f0 f1 f2 := by
  obtain ⟨A0, c0, hb, hg, hr0⟩ := h
  exact ⟨A0, c0, blk_kept hb hk hne, hg, hr0⟩
theorem IsS57.below {w0 W : World} {g : Nat} {f0 : List Int} {f1 : Int} {f2 : Int} {W1 : World} (h : IsS57 w0 W g f0 f1 f2) (hw : Below W.heap.size W W1) : IsS57 w0 W1 g f0 f1 f2 := h.grown (grown_of_below hw none) (by simp)
theorem IsS57.alloc {w0 W : World} {g : Nat} {f0 : List Int} {f1 : Int} {f2 : Int} (h : IsS57 w0 W g f0 f1 f2) (o : Obj) : IsS57 w0 (W.alloc o) g f0 f1 f2 := h.below (below_alloc (Below.refl _ _) o)
theorem IsS57.drewN {w0 W : World} {g : Nat} {f0 : List Int} {f1 : Int} {f2 : Int} (h : IsS57 w0 W g f0 f1 f2) (m : Nat) : IsS57 w0 (W.drewN m) g f0 f1 f2 := h
theorem IsS57.drew {w0 W : World} {g : Nat} {f0 : List Int} {f1 : Int} {f2 : Int} (h : IsS57 w0 W g f0 f1 f2) : IsS57 w0 W.drew g f0 f1 f2 := h
theorem IsS57.at_ {w0 W : World} {g : Nat} {f0 : List Int} {f1 : Int} {f2 : Int} {w' : World} {m : Nat} (hq : W.drewN m = w') (h : IsS57 w0 W g f0 f1 f2) : IsS57 w0 w' g f0 f1 f2 := by subst hq; exact IsS57.drewN h m
theorem IsS57.apart {w0 W : World} {g : Nat} {f0 : List Int} {f1 : Int} {f2 : Int} {α : Type} {d : Kd α} {e : Nat} {base : Nat} {ok : Nat → Prop} {v : Value} {xs : List α} (h : IsS57 w0 W g f0 f1 f2) (ho : d.R e W base ok v xs) (ht : ∀ q, q ∈ e :: d.E → q ≠ 57) : d.R e W base (fun k => ok k ∧ k ≠ g) v xs := by
  obtain ⟨A0, c0, hb, hg, hr0⟩ := h
  exact Kd.R_types ho hb ht
theorem IsS57.own_ne {w0 W : World} {g : Nat} {f0 : List Int} {f1 : Int} {f2 : Int} {α : Type} {d : Kd α} {e : Nat} {base : Nat} {ok : Nat → Prop} {v : Value} {xs : List α} (h : IsS57 w0 W g f0 f1 f2) (ho : d.R e W base ok v xs) (ht : e ≠ 57) : some g ≠ v.ownBlock := by
  obtain ⟨A0, c0, hb, hg, hr0⟩ := h
  exact Kd.R_ne ho hb ht
theorem IsS57.apartS {w0 W : World} {g : Nat} {f0 : List Int} {f1 : Int} {f2 : Int} {α : Type} {d : Kd α} {e : Nat} {base : Nat} {ok : Nat → Prop} {v : Value} {xs : List α} (h : IsS57 w0 W g f0 f1 f2) (ho : d.S e W base ok v xs) (ht : ∀ q, q ∈ e :: d.E → q ≠ 57) : d.S e W base (fun k => ok k ∧ k ≠ g) v xs := by
  obtain ⟨A0, c0, hb, hg, hr0⟩ := h
  exact Kd.S_types ho hb ht
theorem IsS57.own_neS {w0 W : World} {g : Nat} {f0 : List Int} {f1 : Int} {f2 : Int} {α : Type} {d : Kd α} {e : Nat} {base : Nat} {ok : Nat → Prop} {v : Value} {xs : List α} (h : IsS57 w0 W g f0 f1 f2) (ho : d.S e W base ok v xs) (ht : e ≠ 57) : some g ≠ v.ownBlock := by
  obtain ⟨A0, c0, hb, hg, hr0⟩ := h
  exact Kd.S_ne ho hb ht
theorem IsS57.lt {w0 W : World} {g : Nat} {f0 : List Int} {f1 : Int} {f2 : Int} (h : IsS57 w0 W g f0 f1 f2) : g < W.heap.size := by
  obtain ⟨A0, c0, hb, hg, hr0⟩ := h
  exact blk_lt hb
theorem IsS57.ge {w0 W : World} {g : Nat} {f0 : List Int} {f1 : Int} {f2 : Int} (h : IsS57 w0 W g f0 f1 f2) : w0.heap.size ≤ g := by
  obtain ⟨A0, c0, hb, hg, hr0⟩ := h
  exact hg
theorem IsS57.far {w0 W : World} {g : Nat} {f0 : List Int} {f1 : Int} {f2 : Int} {p : Addr} (h : IsS57 w0 W g f0 f1 f2) (hne : g ≠ p.block) (u : Value) : IsS57 w0 (W.setCell p u) g f0 f1 f2 := by
  obtain ⟨A0, c0, hb, hg, hr0⟩ := h
  exact ⟨A0, c0, blk_far hb hne u, hg, hr0⟩
theorem cellS57_0 {W : World} {g : Nat} {A0 : Option Addr} {c0 : Nat} {f0 : List Int} {f1 : Int} {f2 : Int} (h : W.heap[g]? = some (.cells #[.slice A0 f0.length c0, .int .i64 f1, .int .u64 f2] 57 (0, 0))) : W.cell? ⟨g, 0, none⟩ = some (.slice A0 f0.length c0) := (blk_cell h 0).trans rfl
theorem cellS57_1 {W : World} {g : Nat} {A0 : Option Addr} {c0 : Nat} {f0 : List Int} {f1 : Int} {f2 : Int} (h : W.heap[g]? = some (.cells #[.slice A0 f0.length c0, .int .i64 f1, .int .u64 f2] 57 (0, 0))) : W.cell? ⟨g, 1, none⟩ = some (.int .i64 f1) := (blk_cell h 1).trans rfl
theorem IsS57.set_1 {w0 W : World} {g : Nat} {f0 : List Int} {f1 : Int} {f2 : Int} (h : IsS57 w0 W g f0 f1 f2) (x : Int) : IsS57 w0 (W.setCell ⟨g, 1, none⟩ (.int .i64 x)) g f0 x f2 := by
  obtain ⟨A0, c0, hb, hg, hr0⟩ := h
  exact ⟨A0, c0, by simpa using blk_set hb 1 (.int .i64 x), hg, hr0⟩
theorem cellS57_2 {W : World} {g : Nat} {A0 : Option Addr} {c0 : Nat} {f0 : List Int} {f1 : Int} {f2 : Int} (h : W.heap[g]? = some (.cells #[.slice A0 f0.length c0, .int .i64 f1, .int .u64 f2] 57 (0, 0))) : W.cell? ⟨g, 2, none⟩ = some (.int .u64 f2) := (blk_cell h 2).trans rfl
theorem IsS57.set_2 {w0 W : World} {g : Nat} {f0 : List Int} {f1 : Int} {f2 : Int} (h : IsS57 w0 W g f0 f1 f2) (x : Int) : IsS57 w0 (W.setCell ⟨g, 2, none⟩ (.int .u64 x)) g f0 f1 x := by
  obtain ⟨A0, c0, hb, hg, hr0⟩ := h
  exact ⟨A0, c0, by simpa using blk_set hb 2 (.int .u64 x), hg, hr0⟩
theorem IsS57.new (w0 W : World) (A0 : Option Addr) (c0 : Nat) (f0 : List Int) (f1 : Int) (f2 : Int) (hB : Below w0.heap.size w0 W) (hr0 : Kd.C (Kd.int .u8) w0 A0 f0.length f0) : IsS57 w0 (W.alloc (.cells #[.slice A0 f0.length c0, .int .i64 f1, .int .u64 f2] 57)) W.heap.size f0 f1 f2 := ⟨A0, c0, by simpa using heap_alloc_new W _, hB.size, hr0⟩

/-! ### spec_l1Cur_next: function 49 -/
def spec_l1Cur_next.f (s0_0 : List Int) (s0_1 : Int) (s0_2 : Int) : Option (Int × Int × Int) := if s0_1 < (s0_0.length : Int) then (if 0 ≤ s0_1 then (if (wrap64 (s0_1 + 1)) ≤ (s0_0.length : Int) then (some (wrap64 (rd s0_0 s0_1), wrap64 (s0_1 + 1), IntKind.u64.wrap ((IntKind.u64.wrap ((IntKind.u64.wrap (s0_2 * 6364136223846793005)) + (IntKind.u64.wrap (wrap64 (rd s0_0 s0_1))))) + 1442695040888963407))) else (some (wrap64 (Go.bits .and .u64 ((IntKind.u64.wrap ((IntKind.u64.wrap ((IntKind.u64.wrap (s0_2 * 6364136223846793005)) + (IntKind.u64.wrap (wrap64 (rd s0_0 s0_1))))) + 1442695040888963407)) / 1099511627776) 255), wrap64 (s0_1 + 1), IntKind.u64.wrap ((IntKind.u64.wrap ((IntKind.u64.wrap (s0_2 * 6364136223846793005)) + (IntKind.u64.wrap (wrap64 (rd s0_0 s0_1))))) + 1442695040888963407)))) else (none)) else (if (wrap64 (s0_1 + 1)) ≤ (s0_0.length : Int) then (some (0, wrap64 (s0_1 + 1), IntKind.u64.wrap ((IntKind.u64.wrap ((IntKind.u64.wrap (s0_2 * 6364136223846793005)) + 0)) + 1442695040888963407))) else (some (wrap64 (Go.bits .and .u64 ((IntKind.u64.wrap ((IntKind.u64.wrap ((IntKind.u64.wrap (s0_2 * 6364136223846793005)) + 0)) + 1442695040888963407)) / 1099511627776) 255), wrap64 (s0_1 + 1), IntKind.u64.wrap ((IntKind.u64.wrap ((IntKind.u64.wrap (s0_2 * 6364136223846793005)) + 0)) + 1442695040888963407))))

/-! ### spec_l1Cur_pick: function 32 -/
def spec_l1Cur_pick.f (s0_0 : List Int) (s0_1 : Int) (s0_2 : Int) (a1 : Int) : Option (Int × Int × Int) := if a1 ≤ 1 then (some (0, s0_1, s0_2)) else ((spec_l1Cur_next.f s0_0 s0_1 s0_2).bind fun bt172 => (if a1 > 200 then ((spec_l1Cur_next.f s0_0 bt172.2.1 bt172.2.2).bind fun bt175 => (if a1 = 0 then (none) else (some (Int.tmod (wrap64 ((wrap64 (bt172.1 * 256)) + bt175.1)) a1, bt175.2.1, bt175.2.2)))) else (if a1 = 0 then (none) else (some (Int.tmod bt172.1 a1, bt172.2.1, bt172.2.2)))))

/-! ### spec_l1Cur_one: function 33 -/
def spec_l1Cur_one.f (s0_0 : List Int) (s0_1 : Int) (s0_2 : Int) (a1 : Int) : Option (Bool × Int × Int) := (spec_l1Cur_pick.f s0_0 s0_1 s0_2 a1).bind fun bt178 => (some ((bt178.1 == 0), bt178.2.1, bt178.2.2))

/-! ### spec_l1Cur_among: function 34 -/
def spec_l1Cur_among.f (s0_0 : List Int) (s0_1 : Int) (s0_2 : Int) (l1 : List Int) : Option (Int × Int × Int) := (spec_l1Cur_pick.f s0_0 s0_1 s0_2 (l1.length : Int)).bind fun bt181 => (if 0 ≤ bt181.1 then (if bt181.1 < (l1.length : Int) then (some (rd l1 bt181.1, bt181.2.1, bt181.2.2)) else (none)) else (none))

/-! ### spec_DrawArbitrate: function 19 -/
/-! ### spec_LeastFirst: function 20 -/
/-! ### laws_FnArbitrate: function 5 -/
/-! ### spec_l1Cur_bytes: function 40 -/
def spec_l1Cur_bytes.l0 : Nat → List Int → Int → List Int → Int → Int → Option (List Int × Int × Int)
  | 0, _, _, _, _, _ => none
  | k + 1, x5, x6, x1000, x1001, x1002 => if x6 > 0 then ((spec_l1Cur_next.f x1000 x1001 x1002).bind fun bt246 => (if x5.length < 140737488355328 then (spec_l1Cur_bytes.l0 k (x5 ++ [(bt246.1) % 256]) (wrap64 (x6 - 1)) x1000 bt246.2.1 bt246.2.2) else (none))) else (some (x5, x1001, x1002))
def spec_l1Cur_bytes.f (k : Nat) (s0_0 : List Int) (s0_1 : Int) (s0_2 : Int) (a1 : Int) : Option (List Int × Int × Int) := (spec_l1Cur_pick.f s0_0 s0_1 s0_2 (wrap64 (a1 + 1))).bind fun bt243 => (spec_l1Cur_bytes.l0 k ([] : List Int) bt243.1 s0_0 bt243.2.1 bt243.2.2)
/-! ### spec_l1Cur_frame: function 41 -/
def spec_l1Cur_frame.f (k : Nat) (s0_0 : List Int) (s0_1 : Int) (s0_2 : Int) : Option (Int × List Int × Int × Int) := (spec_l1Cur_pick.f s0_0 s0_1 s0_2 40).bind fun bt253 => ((spec_l1Cur_bytes.f k s0_0 bt253.2.1 bt253.2.2 4).bind fun bt256 => ((spec_l1Cur_pick.f s0_0 bt256.2.1 bt256.2.2 12).bind fun bt262 => (if bt262.1 = 0 then ((spec_l1Cur_among.f s0_0 bt262.2.1 bt262.2.2 (([(-1), 0, 2047, 2048] : List Int))).bind fun bt268 => (some (bt268.1, bt256.1, bt268.2.1, bt268.2.2))) else (if bt262.1 = 1 then ((spec_l1Cur_bytes.f k s0_0 bt262.2.1 bt262.2.2 9).bind fun bt271 => (some (bt253.1, bt271.1, bt271.2.1, bt271.2.2))) else (if bt262.1 = 2 then ((spec_l1Cur_pick.f s0_0 bt262.2.1 bt262.2.2 2048).bind fun bt276 => (some (bt276.1, bt256.1, bt276.2.1, bt276.2.2))) else (if bt262.1 = 3 then ((spec_l1Cur_pick.f s0_0 bt262.2.1 bt262.2.2 9).bind fun bt279 => (if 0 ≤ bt279.1 then (if (bt279.1 : Int).toNat ≤ 281474976710656 then (some (bt253.1, (List.replicate (bt279.1 : Int).toNat 0), bt279.2.1, bt279.2.2)) else (none)) else (none))) else (some (bt253.1, bt256.1, bt262.2.1, bt262.2.2))))))))
/-! ### spec_DrawRunBus: function 23 -/
mutual
def spec_DrawRunBus.j0 : Nat → List (S66) → Int → List Int → Int → Int → Option ((List (S66)) × Int × Int × List Int)
  | 0, _, _, _, _, _ => none
  | k + 1, x7, x8, x286000, x286001, x286002 => spec_DrawRunBus.l0 k x7 x8 x286000 x286001 x286002
def spec_DrawRunBus.l0 : Nat → List (S66) → Int → List Int → Int → Int → Option ((List (S66)) × Int × Int × List Int)
  | 0, _, _, _, _, _ => none
  | k + 1, x7, x8, x286000, x286001, x286002 => if x8 > 0 then ((spec_l1Cur_pick.f x286000 x286001 x286002 3).bind fun bt295 => ((spec_l1Cur_pick.f x286000 bt295.2.1 bt295.2.2 20).bind fun bt298 => ((spec_l1Cur_pick.f x286000 bt298.2.1 bt298.2.2 5).bind fun bt302 => (spec_DrawRunBus.l1 k x7 x8 bt302.1 x286000 bt302.2.1 bt302.2.2 ([] : List (S27)) (wrap64 (1 + bt295.1)) bt298.1 false)))) else ((spec_l1Cur_pick.f x286000 x286001 x286002 16).bind fun bt362 => ((spec_l1Cur_one.f x286000 bt362.2.1 bt362.2.2 16).bind fun bt365 => (if bt365.1 = true then ((spec_l1Cur_among.f x286000 bt365.2.1 bt365.2.2 (([(-1), 40, 41] : List Int))).bind fun bt371 => (spec_DrawRunBus.j3 k x7 bt371.1 x286000 bt371.2.1 bt371.2.2)) else (spec_DrawRunBus.j3 k x7 bt362.1 x286000 bt365.2.1 bt365.2.2))))
def spec_DrawRunBus.l1 : Nat → List (S66) → Int → Int → List Int → Int → Int → List (S27) → Int → Int → Bool → Option ((List (S66)) × Int × Int × List Int)
  | 0, _, _, _, _, _, _, _, _, _, _ => none
  | k + 1, x7, x8, x10, x286000, x286001, x286002, x302000, x302001, x302002, x302003 => if x10 > 0 then ((spec_l1Cur_pick.f x286000 x286001 x286002 9).bind fun bt305 => ((spec_l1Cur_bytes.f k x286000 bt305.2.1 bt305.2.2 2).bind fun bt308 => ((spec_l1Cur_one.f x286000 bt308.2.1 bt308.2.2 60).bind fun bt314 => (if bt314.1 = true then ((spec_l1Cur_frame.f k x286000 bt314.2.1 bt314.2.2).bind fun bt317 => (if x302000.length < 4398046511104 then (spec_DrawRunBus.l1 k x7 x8 (wrap64 (x10 - 1)) x286000 bt317.2.2.1 bt317.2.2.2 (x302000 ++ [(⟨bt317.1, bt317.2.1⟩ : S27)]) x302001 x302002 x302003) else (none))) else (if x302000.length < 4398046511104 then (spec_DrawRunBus.l1 k x7 x8 (wrap64 (x10 - 1)) x286000 bt314.2.1 bt314.2.2 (x302000 ++ [(⟨bt305.1, bt308.1⟩ : S27)]) x302001 x302002 x302003) else (none)))))) else ((spec_l1Cur_pick.f x286000 x286001 x286002 12).bind fun bt329 => (if bt329.1 = 0 then ((spec_l1Cur_pick.f x286000 bt329.2.1 bt329.2.2 15).bind fun bt332 => ((spec_l1Cur_one.f x286000 bt332.2.1 bt332.2.2 60).bind fun bt335 => (if bt335.1 = true then (if x7.length < 2932031007402 then (spec_DrawRunBus.l0 k (x7 ++ [(⟨x302000, x302001, wrap64 (240 + bt332.1), !x302003⟩ : S66)]) (wrap64 (x8 - 1)) x286000 bt335.2.1 bt335.2.2) else (none)) else (if x7.length < 2932031007402 then (spec_DrawRunBus.l0 k (x7 ++ [(⟨x302000, x302001, wrap64 (240 + bt332.1), x302003⟩ : S66)]) (wrap64 (x8 - 1)) x286000 bt335.2.1 bt335.2.2) else (none))))) else (if bt329.1 = 1 then ((spec_l1Cur_one.f x286000 bt329.2.1 bt329.2.2 60).bind fun bt344 => (if bt344.1 = true then (if x7.length < 2932031007402 then (spec_DrawRunBus.l0 k (x7 ++ [(⟨x302000, x302001, 255, !true⟩ : S66)]) (wrap64 (x8 - 1)) x286000 bt344.2.1 bt344.2.2) else (none)) else (if x7.length < 2932031007402 then (spec_DrawRunBus.l0 k (x7 ++ [(⟨x302000, x302001, 255, true⟩ : S66)]) (wrap64 (x8 - 1)) x286000 bt344.2.1 bt344.2.2) else (none)))) else ((spec_l1Cur_one.f x286000 bt329.2.1 bt329.2.2 60).bind fun bt353 => (if bt353.1 = true then (if x7.length < 2932031007402 then (spec_DrawRunBus.l0 k (x7 ++ [(⟨x302000, x302001, x302002, !x302003⟩ : S66)]) (wrap64 (x8 - 1)) x286000 bt353.2.1 bt353.2.2) else (none)) else (if x7.length < 2932031007402 then (spec_DrawRunBus.l0 k (x7 ++ [(⟨x302000, x302001, x302002, x302003⟩ : S66)]) (wrap64 (x8 - 1)) x286000 bt353.2.1 bt353.2.2) else (none)))))))
def spec_DrawRunBus.j3 : Nat → List (S66) → Int → List Int → Int → Int → Option ((List (S66)) × Int × Int × List Int)
  | 0, _, _, _, _, _ => none
  | k + 1, x7, x12, x286000, x286001, x286002 => (spec_l1Cur_pick.f x286000 x286001 x286002 6).bind fun bt374 => (spec_DrawRunBus.l2 k x7 x12 ([] : List Int) bt374.1 x286000 bt374.2.1 bt374.2.2)
def spec_DrawRunBus.l2 : Nat → List (S66) → Int → List Int → Int → List Int → Int → Int → Option ((List (S66)) × Int × Int × List Int)
  | 0, _, _, _, _, _, _, _ => none
  | k + 1, x7, x12, x13, x14, x286000, x286001, x286002 => if x14 > 0 then ((spec_l1Cur_pick.f x286000 x286001 x286002 16).bind fun bt377 => (if x13.length < 17592186044416 then (spec_DrawRunBus.l2 k x7 x12 (x13 ++ [bt377.1]) (wrap64 (x14 - 1)) x286000 bt377.2.1 bt377.2.2) else (none))) else ((spec_l1Cur_pick.f x286000 x286001 x286002 8).bind fun bt383 => (some (x7, x12, wrap64 (1 + bt383.1), x13)))
end
def spec_DrawRunBus.f (k : Nat) (l0 : List Int) : Option ((List (S66)) × Int × Int × List Int) := (spec_l1Cur_pick.f l0 0 0 4).bind fun bt286 => ((spec_l1Cur_one.f l0 bt286.2.1 bt286.2.2 16).bind fun bt289 => (if bt289.1 = true then ((spec_l1Cur_pick.f l0 bt289.2.1 bt289.2.2 3).bind fun bt292 => (spec_DrawRunBus.j0 k ([] : List (S66)) (wrap64 (5 + bt292.1)) l0 bt292.2.1 bt292.2.2)) else (spec_DrawRunBus.j0 k ([] : List (S66)) bt286.1 l0 bt289.2.1 bt289.2.2)))
/-! ### impl_GoodFrame: function 11 -/
def impl_GoodFrame.f (a0_0 : Int) (l0_1 : List Int) : Option (Bool) := (impl_between.f a0_0 0 2047).bind fun t387 => (if t387 = true then (some (decide ((l0_1.length : Int) ≤ 8))) else (some false))

/-! ### impl_goodTalker: function 42 -/
def impl_goodTalker.l0 : Nat → List (S27) → Int → Int → List (S27) → Int → Int → Bool → Option (Bool)
  | 0, _, _, _, _, _, _, _ => none
  | k + 1, x6, x7, x8, x389000, x389001, x389002, x389003 => if x8 < x7 then (if 0 ≤ x8 then (if x8 < (x6.length : Int) then ((impl_GoodFrame.f ((rd_T27 x6 x8).f0) ((rd_T27 x6 x8).f1)).bind fun t391 => (if t391 = true then (impl_goodTalker.l0 k x6 x7 (wrap64 (x8 + 1)) x389000 x389001 x389002 x389003) else (some false))) else (none)) else (none)) else (if (x389000.length : Int) ≤ 8 then ((impl_between.f x389001 1 10).bind fun t392 => (if t392 = true then ((impl_between.f x389002 0 255).bind fun t393 => (if t393 = true then (some (x389003 == (x389002 == 255))) else (some false))) else (some false))) else (some false))
def impl_goodTalker.f (k : Nat) (l0_0 : List (S27)) (a0_1 : Int) (a0_2 : Int) (a0_3 : Bool) : Option (Bool) := impl_goodTalker.l0 k l0_0 (l0_0.length : Int) 0 l0_0 a0_1 a0_2 a0_3
/-! ### slices_Contains_int_int: function 44 -/
def slices_Contains_int_int.f (k : Nat) (l0 : List Int) (a1 : Int) : Option (Bool) := (slices_Index_int_int.f k l0 a1).bind fun t394 => (some (decide (t394 ≥ 0)))
end Go.Proofs.Ytbdonoeellmeoaa.Pr
-- Written by this session's own print (wip/tools/mkmp.py) out of the translation. Lean checks it.
namespace Go.Proofs.Ytbdonoeellmeoaa.Pr
open Go.RowKit Go.Proofs.YtbdonoeellmeoaaW.PrintWords Go.Proofs.YtbdonoeellmeoaaW.PrintLast Go.Proofs.YtbdonoeellmeoaaW.PrintMore
attribute [local go_sem] max2_int min2_int max_two min_two max_three min_three max_four min_four   -- for this text's walks alone
set_option linter.unusedVariables false
set_option linter.unusedSimpArgs false

set_option maxHeartbeats 8000000 in
set_option maxRecDepth 100000 in
theorem spec_l1Cur_next.calls (g : Nat) (s0_0 : List Int) (s0_1 : Int) (s0_2 : Int) (r1 : Int) (r2 : Int) (r3 : Int) (w0 w : World) (hI : IsS57 w0 w g s0_0 s0_1 s0_2) (hB : Below w0.heap.size w0 w) (h : spec_l1Cur_next.f s0_0 s0_1 s0_2 = some (r1, r2, r3)) :
   Calls Try.prog 49 #[.pointer (some ⟨g, 0, none⟩)] w fun e w' => e = .returned (.int .i64 r1) ∧ IsS57 w0 w' g s0_0 r2 r3 ∧ Below w0.heap.size w0 w' ∧ KeepBut w w' g none := by
  have HI0 := Aside0.mk hI
  have HK := Aside0.mk (KeepBut.refl w g none)
  have HL := Aside0.mk hB.size
  clear hI
  have HW0 := Aside0.mk hB.size
  have HB := Aside0.mk hB
  clear hB
  have H : (if s0_1 < (s0_0.length : Int) then (if 0 ≤ s0_1 then (if (wrap64 (s0_1 + 1)) ≤ (s0_0.length : Int) then (some (wrap64 (rd s0_0 s0_1), wrap64 (s0_1 + 1), IntKind.u64.wrap ((IntKind.u64.wrap ((IntKind.u64.wrap (s0_2 * 6364136223846793005)) + (IntKind.u64.wrap (wrap64 (rd s0_0 s0_1))))) + 1442695040888963407))) else (some (wrap64 (Go.bits .and .u64 ((IntKind.u64.wrap ((IntKind.u64.wrap ((IntKind.u64.wrap (s0_2 * 6364136223846793005)) + (IntKind.u64.wrap (wrap64 (rd s0_0 s0_1))))) + 1442695040888963407)) / 1099511627776) 255), wrap64 (s0_1 + 1), IntKind.u64.wrap ((IntKind.u64.wrap ((IntKind.u64.wrap (s0_2 * 6364136223846793005)) + (IntKind.u64.wrap (wrap64 (rd s0_0 s0_1))))) + 1442695040888963407)))) else (none)) else (if (wrap64 (s0_1 + 1)) ≤ (s0_0.length : Int) then (some (0, wrap64 (s0_1 + 1), IntKind.u64.wrap ((IntKind.u64.wrap ((IntKind.u64.wrap (s0_2 * 6364136223846793005)) + 0)) + 1442695040888963407))) else (some (wrap64 (Go.bits .and .u64 ((IntKind.u64.wrap ((IntKind.u64.wrap ((IntKind.u64.wrap (s0_2 * 6364136223846793005)) + 0)) + 1442695040888963407)) / 1099511627776) 255), wrap64 (s0_1 + 1), IntKind.u64.wrap ((IntKind.u64.wrap ((IntKind.u64.wrap (s0_2 * 6364136223846793005)) + 0)) + 1442695040888963407))))) = some (r1, r2, r3) := h
  clear h
  by_cases c2 : s0_1 < (s0_0.length : Int)
  ·rw [if_pos c2] at H
   have c2b0 : decide (s0_1 < (s0_0.length : Int)) = true := decide_eq_true c2
   clear c2
   by_cases c3 : 0 ≤ s0_1
   ·rw [if_pos c3] at H
    have c3b0 : decide (0 ≤ s0_1) = true := decide_eq_true c3
    clear c3
    by_cases c4 : (wrap64 (s0_1 + 1)) ≤ (s0_0.length : Int)
    ·rw [if_pos c4] at H
     have c4b0 : decide ((wrap64 (s0_1 + 1)) ≤ (s0_0.length : Int)) = true := decide_eq_true c4
     clear c4
     simp only [Option.some.injEq, Prod.mk.injEq] at H
     obtain ⟨rfl, rfl, rfl⟩ := H
     obtain ⟨ASz5_0, cSz5_0, HGz5, hgz5, HSz5_0⟩ := HI0.out
     have hcz5_0 := cellS57_0 HGz5
     have hcz5_1 := cellS57_1 HGz5
     have hcz5_2 := cellS57_2 HGz5
     have hfz5_1 := blk_frozen HGz5 1
     have hfz5_2 := blk_frozen HGz5 2
     clear HGz5 hgz5
     have p171 : 0 ≤ (s0_1 : Int) := of_decide_eq_true as_
     have q171 : s0_1 < (s0_0.length : Int) := of_decide_eq_true as_
     obtain ⟨ad171, e171, hx171_0⟩ := Kd.at_int HSz5_0 s0_1 p171 q171
     cases e171
     replace hx171_0 := pw_cell_below HB.out hx171_0
     replace p171 := eq_true p171
     replace q171 := eq_true q171
     go_enter Try.func49, Try.ntmps49
     go_wp2
     repeat (go_quiet (fail); try go_wp2)
     go_ret
     (try simp only [Int.add_zero])
     exact ⟨er_, by repeat (first | (with_reducible first | exact HI0.out | apply IsS57.alloc | apply IsS57.drewN | apply IsS57.drew | apply IsS57.set_1 | apply IsS57.set_2) | exact HI0.out), by repeat (first | (with_reducible first | exact HB.out | apply below_alloc | apply pw_below_drewN | apply below_drew1 | refine below_set ?_ (IsS57.ge HI0.out)) | exact HB.out), by repeat (first | (with_reducible first | exact HK.out | apply KeepBut.set_ | apply keep_drewN | apply keep_drew | apply keep_alloc) | exact HK.out)⟩
    ·rw [if_neg c4] at H
     have c4b0 : decide ((wrap64 (s0_1 + 1)) ≤ (s0_0.length : Int)) = false := decide_eq_false c4
     clear c4
     simp only [Option.some.injEq, Prod.mk.injEq] at H
     obtain ⟨rfl, rfl, rfl⟩ := H
     obtain ⟨ASz6_0, cSz6_0, HGz6, hgz6, HSz6_0⟩ := HI0.out
     have hcz6_0 := cellS57_0 HGz6
     have hcz6_1 := cellS57_1 HGz6
     have hcz6_2 := cellS57_2 HGz6
     have hfz6_1 := blk_frozen HGz6 1
     have hfz6_2 := blk_frozen HGz6 2
     clear HGz6 hgz6
     have p171 : 0 ≤ (s0_1 : Int) := of_decide_eq_true as_
     have q171 : s0_1 < (s0_0.length : Int) := of_decide_eq_true as_
     obtain ⟨ad171, e171, hx171_0⟩ := Kd.at_int HSz6_0 s0_1 p171 q171
     cases e171
     replace hx171_0 := pw_cell_below HB.out hx171_0
     replace p171 := eq_true p171
     replace q171 := eq_true q171
     go_enter Try.func49, Try.ntmps49
     go_wp2
     repeat (go_quiet (fail); try go_wp2)
     go_ret
     (try simp only [Int.add_zero])
     exact ⟨er_, by repeat (first | (with_reducible first | exact HI0.out | apply IsS57.alloc | apply IsS57.drewN | apply IsS57.drew | apply IsS57.set_1 | apply IsS57.set_2) | exact HI0.out), by repeat (first | (with_reducible first | exact HB.out | apply below_alloc | apply pw_below_drewN | apply below_drew1 | refine below_set ?_ (IsS57.ge HI0.out)) | exact HB.out), by repeat (first | (with_reducible first | exact HK.out | apply KeepBut.set_ | apply keep_drewN | apply keep_drew | apply keep_alloc) | exact HK.out)⟩
   ·rw [if_neg c3] at H
    exact absurd H (by simp)
  ·rw [if_neg c2] at H
   have c2b0 : decide (s0_1 < (s0_0.length : Int)) = false := decide_eq_false c2
   clear c2
   by_cases c7 : (wrap64 (s0_1 + 1)) ≤ (s0_0.length : Int)
   ·rw [if_pos c7] at H
    have c7b0 : decide ((wrap64 (s0_1 + 1)) ≤ (s0_0.length : Int)) = true := decide_eq_true c7
    clear c7
    simp only [Option.some.injEq, Prod.mk.injEq] at H
    obtain ⟨rfl, rfl, rfl⟩ := H
    obtain ⟨ASz8_0, cSz8_0, HGz8, hgz8, HSz8_0⟩ := HI0.out
    have hcz8_0 := cellS57_0 HGz8
    have hcz8_1 := cellS57_1 HGz8
    have hcz8_2 := cellS57_2 HGz8
    have hfz8_1 := blk_frozen HGz8 1
    have hfz8_2 := blk_frozen HGz8 2
    clear HGz8 hgz8
    go_enter Try.func49, Try.ntmps49
    go_wp2
    repeat (go_quiet (fail); try go_wp2)
    go_ret
    (try simp only [Int.add_zero])
    exact ⟨er_, by repeat (first | (with_reducible first | exact HI0.out | apply IsS57.alloc | apply IsS57.drewN | apply IsS57.drew | apply IsS57.set_1 | apply IsS57.set_2) | exact HI0.out), by repeat (first | (with_reducible first | exact HB.out | apply below_alloc | apply pw_below_drewN | apply below_drew1 | refine below_set ?_ (IsS57.ge HI0.out)) | exact HB.out), by repeat (first | (with_reducible first | exact HK.out | apply KeepBut.set_ | apply keep_drewN | apply keep_drew | apply keep_alloc) | exact HK.out)⟩
   ·rw [if_neg c7] at H
    have c7b0 : decide ((wrap64 (s0_1 + 1)) ≤ (s0_0.length : Int)) = false := decide_eq_false c7
    clear c7
    simp only [Option.some.injEq, Prod.mk.injEq] at H
    obtain ⟨rfl, rfl, rfl⟩ := H
    obtain ⟨ASz9_0, cSz9_0, HGz9, hgz9, HSz9_0⟩ := HI0.out
    have hcz9_0 := cellS57_0 HGz9
    have hcz9_1 := cellS57_1 HGz9
    have hcz9_2 := cellS57_2 HGz9
    have hfz9_1 := blk_frozen HGz9 1
    have hfz9_2 := blk_frozen HGz9 2
    clear HGz9 hgz9
    go_enter Try.func49, Try.ntmps49
    go_wp2
    repeat (go_quiet (fail); try go_wp2)
    go_ret
    (try simp only [Int.add_zero])
    exact ⟨er_, by repeat (first | (with_reducible first | exact HI0.out | apply IsS57.alloc | apply IsS57.drewN | apply IsS57.drew | apply IsS57.set_1 | apply IsS57.set_2) | exact HI0.out), by repeat (first | (with_reducible first | exact HB.out | apply below_alloc | apply pw_below_drewN | apply below_drew1 | refine below_set ?_ (IsS57.ge HI0.out)) | exact HB.out), by repeat (first | (with_reducible first | exact HK.out | apply KeepBut.set_ | apply keep_drewN | apply keep_drew | apply keep_alloc) | exact HK.out)⟩

set_option maxHeartbeats 8000000 in
set_option maxRecDepth 100000 in
theorem spec_l1Cur_pick.calls (g : Nat) (s0_0 : List Int) (s0_1 : Int) (s0_2 : Int) (a1 : Int) (r1 : Int) (r2 : Int) (r3 : Int) (w0 w : World) (hI : IsS57 w0 w g s0_0 s0_1 s0_2) (hB : Below w0.heap.size w0 w) (h : spec_l1Cur_pick.f s0_0 s0_1 s0_2 a1 = some (r1, r2, r3)) :
   Calls Try.prog 32 #[.pointer (some ⟨g, 0, none⟩), .int .i64 a1] w fun e w' => e = .returned (.int .i64 r1) ∧ IsS57 w0 w' g s0_0 r2 r3 ∧ Below w0.heap.size w0 w' ∧ KeepBut w w' g none := by
  have HI0 := Aside0.mk hI
  have HK := Aside0.mk (KeepBut.refl w g none)
  have HL := Aside0.mk hB.size
  clear hI
  have HW0 := Aside0.mk hB.size
  have HB := Aside0.mk hB
  clear hB
  have H : (if a1 ≤ 1 then (some (0, s0_1, s0_2)) else ((spec_l1Cur_next.f s0_0 s0_1 s0_2).bind fun bt172 => (if a1 > 200 then ((spec_l1Cur_next.f s0_0 bt172.2.1 bt172.2.2).bind fun bt175 => (if a1 = 0 then (none) else (some (Int.tmod (wrap64 ((wrap64 (bt172.1 * 256)) + bt175.1)) a1, bt175.2.1, bt175.2.2)))) else (if a1 = 0 then (none) else (some (Int.tmod bt172.1 a1, bt172.2.1, bt172.2.2)))))) = some (r1, r2, r3) := h
  clear h
  by_cases c3 : a1 ≤ 1
  ·rw [if_pos c3] at H
   have c3b0 : decide (a1 ≤ 1) = true := decide_eq_true c3
   clear c3
   simp only [Option.some.injEq, Prod.mk.injEq] at H
   obtain ⟨rfl, rfl, rfl⟩ := H
   go_enter Try.func32, Try.ntmps32
   go_wp2
   go_ret
   (try simp only [Int.add_zero])
   exact ⟨er_, by repeat (first | (with_reducible first | exact HI0.out | apply IsS57.alloc | apply IsS57.drewN | apply IsS57.drew | apply IsS57.set_1 | apply IsS57.set_2) | exact HI0.out), by repeat (first | (with_reducible first | exact HB.out | apply below_alloc | apply pw_below_drewN | apply below_drew1 | refine below_set ?_ (IsS57.ge HI0.out)) | exact HB.out), by repeat (first | (with_reducible first | exact HK.out | apply KeepBut.set_ | apply keep_drewN | apply keep_drew | apply keep_alloc) | exact HK.out)⟩
  ·rw [if_neg c3] at H
   have c3b0 : decide (a1 ≤ 1) = false := decide_eq_false c3
   clear c3
   replace H := Option.bind_eq_some_iff.mp H
   obtain ⟨⟨t172, t173, t174⟩, A40, H⟩ := H
   replace H : (if a1 > 200 then ((spec_l1Cur_next.f s0_0 t173 t174).bind fun bt175 => (if a1 = 0 then (none) else (some (Int.tmod (wrap64 ((wrap64 (t172 * 256)) + bt175.1)) a1, bt175.2.1, bt175.2.2)))) else (if a1 = 0 then (none) else (some (Int.tmod t172 a1, t173, t174)))) = some (r1, r2, r3) := H
   have A4 := Aside0.mk A40
   clear A40
   by_cases c5 : a1 > 200
   ·rw [if_pos c5] at H
    have c5b0 : decide (200 < a1) = true := decide_eq_true c5
    clear c5
    replace H := Option.bind_eq_some_iff.mp H
    obtain ⟨⟨t175, t176, t177⟩, A60, H⟩ := H
    replace H : (if a1 = 0 then (none) else (some (Int.tmod (wrap64 ((wrap64 (t172 * 256)) + t175)) a1, t176, t177))) = some (r1, r2, r3) := H
    have A6 := Aside0.mk A60
    clear A60
    by_cases c7 : a1 = 0
    ·rw [if_pos c7] at H
     exact absurd H (by simp)
    ·rw [if_neg c7] at H
     have c7b0 : (a1 == 0) = false := beq_eq_false_iff_ne.mpr c7
     have c7b1 : (a1 != 0) = true := bne_iff_ne.mpr c7
     simp only [Option.some.injEq, Prod.mk.injEq] at H
     obtain ⟨rfl, rfl, rfl⟩ := H
     go_enter Try.func32, Try.ntmps32
     go_wp2_with (first | ((with_reducible refine gate_callee (f := 49) rfl ?_); refine goesL_ (some 9) rfl rfl Try.func49 (by kernel_rfl) rfl #[.pointer (some ⟨g, 0, none⟩)] rfl ls_ ?_; (with_reducible refine (spec_l1Cur_next.calls g s0_0 s0_1 s0_2 t172 t173 t174 w0 _ ?side1 ?side2 A4.out).mono ?_); (case side1 => repeat (first | (with_reducible first | exact HI0.out | apply IsS57.alloc | apply IsS57.drewN | apply IsS57.drew | apply IsS57.set_1 | apply IsS57.set_2) | exact HI0.out)); (case side2 => repeat (first | (with_reducible first | exact HB.out | apply below_alloc | apply pw_below_drewN | apply below_drew1 | refine below_set ?_ (IsS57.ge HI0.out)) | exact HB.out)); rintro e w8 ⟨rfl, hi, hb, hk⟩; refine ⟨_, rfl, ?_⟩; have n0_ := Aside0.mk (KeepBut.trans (by repeat (first | (with_reducible first | exact HK.out | apply KeepBut.set_ | apply keep_drewN | apply keep_drew | apply keep_alloc) | exact HK.out)) hk (.inl rfl)); have n1_ := Aside0.mk (hb); have n2_ := Aside0.mk (hi); clear HK; clear HB; clear HI0; have HK := n0_; have HB := n1_; have HI0 := n2_; clear n0_ n1_ n2_; (try clear hb); (try clear hb2); (try clear hk); (try clear hi)) | ((with_reducible refine gate_callee (f := 49) rfl ?_); refine goesL_ (some 15) rfl rfl Try.func49 (by kernel_rfl) rfl #[.pointer (some ⟨g, 0, none⟩)] rfl ls_ ?_; (with_reducible refine (spec_l1Cur_next.calls g s0_0 t173 t174 t175 t176 t177 w0 _ ?side1 ?side2 A6.out).mono ?_); (case side1 => repeat (first | (with_reducible first | exact HI0.out | apply IsS57.alloc | apply IsS57.drewN | apply IsS57.drew | apply IsS57.set_1 | apply IsS57.set_2) | exact HI0.out)); (case side2 => repeat (first | (with_reducible first | exact HB.out | apply below_alloc | apply pw_below_drewN | apply below_drew1 | refine below_set ?_ (IsS57.ge HI0.out)) | exact HB.out)); rintro e w9 ⟨rfl, hi, hb, hk⟩; refine ⟨_, rfl, ?_⟩; have n0_ := Aside0.mk (KeepBut.trans (by repeat (first | (with_reducible first | exact HK.out | apply KeepBut.set_ | apply keep_drewN | apply keep_drew | apply keep_alloc) | exact HK.out)) hk (.inl rfl)); have n1_ := Aside0.mk (hb); have n2_ := Aside0.mk (hi); clear HK; clear HB; clear HI0; have HK := n0_; have HB := n1_; have HI0 := n2_; clear n0_ n1_ n2_; (try clear hb); (try clear hb2); (try clear hk); (try clear hi)))
     go_ret
     (try simp only [Int.add_zero])
     exact ⟨er_, by repeat (first | (with_reducible first | exact HI0.out | apply IsS57.alloc | apply IsS57.drewN | apply IsS57.drew | apply IsS57.set_1 | apply IsS57.set_2) | exact HI0.out), by repeat (first | (with_reducible first | exact HB.out | apply below_alloc | apply pw_below_drewN | apply below_drew1 | refine below_set ?_ (IsS57.ge HI0.out)) | exact HB.out), by repeat (first | (with_reducible first | exact HK.out | apply KeepBut.set_ | apply keep_drewN | apply keep_drew | apply keep_alloc) | exact HK.out)⟩
   ·rw [if_neg c5] at H
    have c5b0 : decide (200 < a1) = false := decide_eq_false c5
    clear c5
    by_cases c10 : a1 = 0
    ·rw [if_pos c10] at H
     exact absurd H (by simp)
    ·rw [if_neg c10] at H
     have c10b0 : (a1 == 0) = false := beq_eq_false_iff_ne.mpr c10
     have c10b1 : (a1 != 0) = true := bne_iff_ne.mpr c10
     simp only [Option.some.injEq, Prod.mk.injEq] at H
     obtain ⟨rfl, rfl, rfl⟩ := H
     go_enter Try.func32, Try.ntmps32
     go_wp2_with (first | ((with_reducible refine gate_callee (f := 49) rfl ?_); refine goesL_ (some 9) rfl rfl Try.func49 (by kernel_rfl) rfl #[.pointer (some ⟨g, 0, none⟩)] rfl ls_ ?_; (with_reducible refine (spec_l1Cur_next.calls g s0_0 s0_1 s0_2 t172 t173 t174 w0 _ ?side1 ?side2 A4.out).mono ?_); (case side1 => repeat (first | (with_reducible first | exact HI0.out | apply IsS57.alloc | apply IsS57.drewN | apply IsS57.drew | apply IsS57.set_1 | apply IsS57.set_2) | exact HI0.out)); (case side2 => repeat (first | (with_reducible first | exact HB.out | apply below_alloc | apply pw_below_drewN | apply below_drew1 | refine below_set ?_ (IsS57.ge HI0.out)) | exact HB.out)); rintro e w11 ⟨rfl, hi, hb, hk⟩; refine ⟨_, rfl, ?_⟩; have n0_ := Aside0.mk (KeepBut.trans (by repeat (first | (with_reducible first | exact HK.out | apply KeepBut.set_ | apply keep_drewN | apply keep_drew | apply keep_alloc) | exact HK.out)) hk (.inl rfl)); have n1_ := Aside0.mk (hb); have n2_ := Aside0.mk (hi); clear HK; clear HB; clear HI0; have HK := n0_; have HB := n1_; have HI0 := n2_; clear n0_ n1_ n2_; (try clear hb); (try clear hb2); (try clear hk); (try clear hi)))
     go_ret
     (try simp only [Int.add_zero])
     exact ⟨er_, by repeat (first | (with_reducible first | exact HI0.out | apply IsS57.alloc | apply IsS57.drewN | apply IsS57.drew | apply IsS57.set_1 | apply IsS57.set_2) | exact HI0.out), by repeat (first | (with_reducible first | exact HB.out | apply below_alloc | apply pw_below_drewN | apply below_drew1 | refine below_set ?_ (IsS57.ge HI0.out)) | exact HB.out), by repeat (first | (with_reducible first | exact HK.out | apply KeepBut.set_ | apply keep_drewN | apply keep_drew | apply keep_alloc) | exact HK.out)⟩

set_option maxHeartbeats 8000000 in
set_option maxRecDepth 100000 in
theorem spec_l1Cur_one.calls (g : Nat) (s0_0 : List Int) (s0_1 : Int) (s0_2 : Int) (a1 : Int) (r1 : Bool) (r2 : Int) (r3 : Int) (w0 w : World) (hI : IsS57 w0 w g s0_0 s0_1 s0_2) (hB : Below w0.heap.size w0 w) (h : spec_l1Cur_one.f s0_0 s0_1 s0_2 a1 = some (r1, r2, r3)) :
   Calls Try.prog 33 #[.pointer (some ⟨g, 0, none⟩), .int .i64 a1] w fun e w' => e = .returned (.bool r1) ∧ IsS57 w0 w' g s0_0 r2 r3 ∧ Below w0.heap.size w0 w' ∧ KeepBut w w' g none := by
  have HI0 := Aside0.mk hI
  have HK := Aside0.mk (KeepBut.refl w g none)
  have HL := Aside0.mk hB.size
  clear hI
  have HW0 := Aside0.mk hB.size
  have HB := Aside0.mk hB
  clear hB
  have H : ((spec_l1Cur_pick.f s0_0 s0_1 s0_2 a1).bind fun bt178 => (some ((bt178.1 == 0), bt178.2.1, bt178.2.2))) = some (r1, r2, r3) := h
  clear h
  replace H := Option.bind_eq_some_iff.mp H
  obtain ⟨⟨t178, t179, t180⟩, A30, H⟩ := H
  replace H : (some ((t178 == 0), t179, t180)) = some (r1, r2, r3) := H
  have A3 := Aside0.mk A30
  clear A30
  simp only [Option.some.injEq, Prod.mk.injEq] at H
  obtain ⟨rfl, rfl, rfl⟩ := H
  go_enter Try.func33, Try.ntmps33
  go_wp2_with (first | ((with_reducible refine gate_callee (f := 32) rfl ?_); refine goesL_ (some 7) rfl rfl Try.func32 (by kernel_rfl) rfl #[.pointer (some ⟨g, 0, none⟩), .int .i64 a1] rfl ls_ ?_; (with_reducible refine (spec_l1Cur_pick.calls g s0_0 s0_1 s0_2 a1 t178 t179 t180 w0 _ ?side1 ?side2 A3.out).mono ?_); (case side1 => repeat (first | (with_reducible first | exact HI0.out | apply IsS57.alloc | apply IsS57.drewN | apply IsS57.drew | apply IsS57.set_1 | apply IsS57.set_2) | exact HI0.out)); (case side2 => repeat (first | (with_reducible first | exact HB.out | apply below_alloc | apply pw_below_drewN | apply below_drew1 | refine below_set ?_ (IsS57.ge HI0.out)) | exact HB.out)); rintro e w4 ⟨rfl, hi, hb, hk⟩; refine ⟨_, rfl, ?_⟩; have n0_ := Aside0.mk (KeepBut.trans (by repeat (first | (with_reducible first | exact HK.out | apply KeepBut.set_ | apply keep_drewN | apply keep_drew | apply keep_alloc) | exact HK.out)) hk (.inl rfl)); have n1_ := Aside0.mk (hb); have n2_ := Aside0.mk (hi); clear HK; clear HB; clear HI0; have HK := n0_; have HB := n1_; have HI0 := n2_; clear n0_ n1_ n2_; (try clear hb); (try clear hb2); (try clear hk); (try clear hi)))
  go_ret
  (try simp only [Int.add_zero])
  exact ⟨er_, by repeat (first | (with_reducible first | exact HI0.out | apply IsS57.alloc | apply IsS57.drewN | apply IsS57.drew | apply IsS57.set_1 | apply IsS57.set_2) | exact HI0.out), by repeat (first | (with_reducible first | exact HB.out | apply below_alloc | apply pw_below_drewN | apply below_drew1 | refine below_set ?_ (IsS57.ge HI0.out)) | exact HB.out), by repeat (first | (with_reducible first | exact HK.out | apply KeepBut.set_ | apply keep_drewN | apply keep_drew | apply keep_alloc) | exact HK.out)⟩

set_option maxHeartbeats 8000000 in
set_option maxRecDepth 100000 in
theorem spec_l1Cur_among.calls (g : Nat) (s0_0 : List Int) (s0_1 : Int) (s0_2 : Int) (A1 : Option Addr) (c1 : Nat) (l1 : List Int) (r1 : Int) (r2 : Int) (r3 : Int) (w0 w : World) (hI : IsS57 w0 w g s0_0 s0_1 s0_2) (hB : Below w0.heap.size w0 w) (hr1 : Kd.C (Kd.int .i64) w A1 l1.length l1) (hc1 : l1.length ≤ c1) (hf1 : ∀ ad, A1 = some ad → 0 < l1.length → ad.block ≠ g) (h : spec_l1Cur_among.f s0_0 s0_1 s0_2 l1 = some (r1, r2, r3)) :
   Calls Try.prog 34 #[.pointer (some ⟨g, 0, none⟩), .slice A1 l1.length c1] w fun e w' => e = .returned (.int .i64 r1) ∧ IsS57 w0 w' g s0_0 r2 r3 ∧ Below w0.heap.size w0 w' ∧ KeepBut w w' g none := by
  have HR1 := Aside0.mk hr1
  have HC1 := Aside0.mk hc1
  clear hr1 hc1
  have HI0 := Aside0.mk hI
  have HK := Aside0.mk (KeepBut.refl w g none)
  have HL := Aside0.mk hB.size
  clear hI
  have HW0 := Aside0.mk hB.size
  have HB := Aside0.mk hB
  clear hB
  have H : ((spec_l1Cur_pick.f s0_0 s0_1 s0_2 (l1.length : Int)).bind fun bt181 => (if 0 ≤ bt181.1 then (if bt181.1 < (l1.length : Int) then (some (rd l1 bt181.1, bt181.2.1, bt181.2.2)) else (none)) else (none))) = some (r1, r2, r3) := h
  clear h
  replace H := Option.bind_eq_some_iff.mp H
  obtain ⟨⟨t181, t182, t183⟩, A30, H⟩ := H
  replace H : (if 0 ≤ t181 then (if t181 < (l1.length : Int) then (some (rd l1 t181, t182, t183)) else (none)) else (none)) = some (r1, r2, r3) := H
  have A3 := Aside0.mk A30
  clear A30
  by_cases c4 : 0 ≤ t181
  ·rw [if_pos c4] at H
   have c4b0 : decide (0 ≤ t181) = true := decide_eq_true c4
   clear c4
   by_cases c5 : t181 < (l1.length : Int)
   ·rw [if_pos c5] at H
    have c5b0 : decide (t181 < (l1.length : Int)) = true := decide_eq_true c5
    clear c5
    simp only [Option.some.injEq, Prod.mk.injEq] at H
    obtain ⟨rfl, rfl, rfl⟩ := H
    go_enter Try.func34, Try.ntmps34
    go_wp2_with (first | ((with_reducible refine gate_callee (f := 32) rfl ?_); refine goesL_ (some 9) rfl rfl Try.func32 (by kernel_rfl) rfl #[.pointer (some ⟨g, 0, none⟩), .int .i64 (l1.length : Int)] rfl ls_ ?_; (with_reducible refine (spec_l1Cur_pick.calls g s0_0 s0_1 s0_2 (l1.length : Int) t181 t182 t183 w0 _ ?side1 ?side2 A3.out).mono ?_); (case side1 => repeat (first | (with_reducible first | exact HI0.out | apply IsS57.alloc | apply IsS57.drewN | apply IsS57.drew | apply IsS57.set_1 | apply IsS57.set_2) | exact HI0.out)); (case side2 => repeat (first | (with_reducible first | exact HB.out | apply below_alloc | apply pw_below_drewN | apply below_drew1 | refine below_set ?_ (IsS57.ge HI0.out)) | exact HB.out)); rintro e w6 ⟨rfl, hi, hb, hk⟩; refine ⟨_, rfl, ?_⟩; have n0_ := Aside0.mk (KeepBut.trans (by repeat (first | (with_reducible first | exact HK.out | apply KeepBut.set_ | apply keep_drewN | apply keep_drew | apply keep_alloc) | exact HK.out)) hk (.inl rfl)); have n1_ := Aside0.mk (hb); have n2_ := Aside0.mk (hi); clear HK; clear HB; clear HI0; have HK := n0_; have HB := n1_; have HI0 := n2_; clear n0_ n1_ n2_; (try clear hb); (try clear hb2); (try clear hk); (try clear hi); have p184 : 0 ≤ (t181 : Int) := of_decide_eq_true as_; have q184 : t181 < (l1.length : Int) := of_decide_eq_true as_; obtain ⟨ad184, e184, hx184_0⟩ := Kd.at_int HR1.out t181 p184 q184; cases e184; replace hx184_0 := keep_cell HK.out hx184_0 (by first | (rw [add_block]; exact hf1 _ rfl (by omega)) | exact hf1 _ rfl (by omega) | exact hf1 ad184 rfl (by omega)); replace p184 := eq_true p184; replace q184 := eq_true q184))
    go_ret
    (try simp only [Int.add_zero])
    exact ⟨er_, by repeat (first | (with_reducible first | exact HI0.out | apply IsS57.alloc | apply IsS57.drewN | apply IsS57.drew | apply IsS57.set_1 | apply IsS57.set_2) | exact HI0.out), by repeat (first | (with_reducible first | exact HB.out | apply below_alloc | apply pw_below_drewN | apply below_drew1 | refine below_set ?_ (IsS57.ge HI0.out)) | exact HB.out), by repeat (first | (with_reducible first | exact HK.out | apply KeepBut.set_ | apply keep_drewN | apply keep_drew | apply keep_alloc) | exact HK.out)⟩
   ·rw [if_neg c5] at H
    exact absurd H (by simp)
  ·rw [if_neg c4] at H
   exact absurd H (by simp)

end Go.Proofs.Ytbdonoeellmeoaa.Pr
-- Written by this session's own print (wip/tools/mkmp.py) out of the translation. Lean checks it.
namespace Go.Proofs.Ytbdonoeellmeoaa.Pr
open Go.RowKit Go.Proofs.YtbdonoeellmeoaaW.PrintWords Go.Proofs.YtbdonoeellmeoaaW.PrintLast Go.Proofs.YtbdonoeellmeoaaW.PrintMore
attribute [local go_sem] max2_int min2_int max_two min_two max_three min_three max_four min_four   -- for this text's walks alone
set_option linter.unusedVariables false
set_option linter.unusedSimpArgs false

set_option maxHeartbeats 8000000 in
set_option maxRecDepth 100000 in
theorem spec_Arbitrate.calls (k : Nat) (A0 : Option Addr) (c0 : Nat) (l0 : List Int) (r1 : Int) (r2 : List Int) (r3 : Bool) (w : World) (hr0 : Kd.C (Kd.int .i64) w A0 l0.length l0) (hc0 : l0.length ≤ c0) (h : spec_Arbitrate.f k l0 = some (r1, r2, r3)) :
   Calls Try.prog 13 #[.slice A0 l0.length c0] w fun e w' => ∃ v1_ : Value, e = .returned (.tuple #[.int .i64 r1, v1_, .bool r3]) ∧ Kd.R (Kd.int .i64) 3 w' w.heap.size (fun _ => True) v1_ r2 ∧ Below w.heap.size w w' := by
  have HR0 := Aside0.mk hr0
  have HC0 := Aside0.mk hc0
  clear hr0 hc0
  have HB := Aside0.mk (Below.refl w.heap.size w)
  have H : (if (l0.length : Int) < 1 then (spec_Arbitrate.j0 k l0 true) else (spec_Arbitrate.j0 k l0 (decide ((l0.length : Int) > 6)))) = some (r1, r2, r3) := h
  clear h
  have HC2 := Aside0.mk H
  clear H
  go_enter Try.func13, Try.ntmps13
  go_upto_region 1 with (fail)
  go_cut [23] (fun v23 wc => ∃ (kq : Nat) (x23_1 : Bool), v23 = .bool x23_1 ∧ Aside0 (spec_Arbitrate.j0 kq l0 x23_1 = some (r1, r2, r3)) ∧ Aside0 (kq ≤ k) ∧ Aside0 (Below w.heap.size w wc))
  case first =>
   have H := HC2.out
   clear HC2
   by_cases c3 : (l0.length : Int) < 1
   ·rw [if_pos c3] at H
    have c3b0 : decide ((l0.length : Int) < 1) = true := decide_eq_true c3
    have c3b1 : decide (l0.length < 1) = true := decide_eq_true (by omega)
    clear c3
    (first | rw [c3b0] | (simp only [i64_w, i32_w]; rw [c3b0]) | skip)
    have H' := Aside0.mk H
    clear H
    go_wp2
    go_meet
    case rel => exact ⟨_, (true), es_, H', ⟨by first | omega | exact Nat.le_refl _⟩, ⟨hb_⟩⟩
   ·rw [if_neg c3] at H
    have c3b0 : decide ((l0.length : Int) < 1) = false := decide_eq_false c3
    have c3b1 : decide (l0.length < 1) = false := decide_eq_false (by omega)
    clear c3
    (first | rw [c3b0] | (simp only [i64_w, i32_w]; rw [c3b0]) | skip)
    have H' := Aside0.mk H
    clear H
    go_wp2
    go_meet
    case rel => exact ⟨_, (decide ((l0.length : Int) > 6)), es_, H', ⟨by first | omega | exact Nat.le_refl _⟩, ⟨hb_⟩⟩
  case rest =>
   clear HC2
   try clear c1
   try clear p2
   try clear c3
   try clear c3b0
   try clear c3b1
   obtain ⟨kq, x23_1, rfl, HA, HJ1, HB⟩ := hcut
   cases kq with
   | zero => exact absurd HA.out (by simp [spec_Arbitrate.j0])
   | succ kj1 =>
    have H := HA.out
    clear HA
    simp only [spec_Arbitrate.j0] at H
    by_cases c4 : x23_1 = true
    ·subst c4
     rw [if_pos rfl] at H
     simp only [Option.some.injEq, Prod.mk.injEq] at H
     obtain ⟨rfl, rfl, rfl⟩ := H
     go_wp2
     go_ret3
     exact ⟨_, er_, by first | exact Kd.R_nil _ _ _ _ _ | exact Kd.N_nil _ _ _ _ _ | exact Kd.V_nil _ _ _ _ _ | exact Kd.Q_nil _ _ _ _ _ | exact Kd.S_nil _ _ _ _ _, hb_⟩
    ·replace c4 := Bool.eq_false_iff.mpr c4
     subst c4
     rw [if_neg (show ¬ (false = true) by decide)] at H
     have H' := Aside0.mk H
     clear H
     go_wp2
     go_loopg [26] kj1 (fun kq v26 w' => ∃ (x26_2 : Int), v26 = .int .i64 x26_2 ∧ Aside0 (spec_Arbitrate.l0 kq l0 l0 (l0.length : Int) x26_2 = some (r1, r2, r3)) ∧ Aside0 (kq ≤ kj1) ∧ Aside0 (Below w.heap.size w w'))
     case atStart => exact ⟨(0), es_, H', ⟨Nat.le_refl _⟩, ⟨hb_⟩⟩
     case round =>
      clear H'
      try clear c1
      try clear p2
      try clear c3
      try clear c3b0
      try clear c3b1
      try clear c4
      try clear p2
      obtain ⟨x26_2, rfl, HA, HK2, HB⟩ := hrel
      cases gk with
      | zero => exact absurd HA.out (by simp [spec_Arbitrate.l0])
      | succ k2 =>
       have H := HA.out
       clear HA
       simp only [spec_Arbitrate.l0] at H
       by_cases c5 : x26_2 < (l0.length : Int)
       ·rw [if_pos c5] at H
        have c5b0 : decide (x26_2 < (l0.length : Int)) = true := decide_eq_true c5
        clear c5
        by_cases c6 : 0 ≤ x26_2
        ·rw [if_pos c6] at H
         have c6b0 : decide (0 ≤ x26_2) = true := decide_eq_true c6
         clear c6
         by_cases c7 : x26_2 < (l0.length : Int)
         ·rw [if_pos c7] at H
          have c7b0 : decide (x26_2 < (l0.length : Int)) = true := decide_eq_true c7
          clear c7
          by_cases c8 : (rd l0 x26_2) < 0
          ·rw [if_pos c8] at H
           have c8b0 : decide ((rd l0 x26_2) < 0) = true := decide_eq_true c8
           clear c8
           simp only [Option.some.injEq, Prod.mk.injEq] at H
           obtain ⟨rfl, rfl, rfl⟩ := H
           have p101 : 0 ≤ (x26_2 : Int) := of_decide_eq_true as_
           have q101 : x26_2 < (l0.length : Int) := of_decide_eq_true as_
           obtain ⟨ad101, e101, hx101_0⟩ := Kd.at_int HR0.out x26_2 p101 q101
           cases e101
           replace hx101_0 := hc_ HB hx101_0
           replace p101 := eq_true p101
           replace q101 := eq_true q101
           go_wp2
           go_ret3
           exact ⟨_, er_, by first | exact Kd.R_nil _ _ _ _ _ | exact Kd.N_nil _ _ _ _ _ | exact Kd.V_nil _ _ _ _ _ | exact Kd.Q_nil _ _ _ _ _ | exact Kd.S_nil _ _ _ _ _, hb_⟩
          ·rw [if_neg c8] at H
           have c8b0 : decide ((rd l0 x26_2) < 0) = false := decide_eq_false c8
           clear c8
           by_cases c9 : (rd l0 x26_2) > 2047
           ·rw [if_pos c9] at H
            have c9b0 : decide (2047 < (rd l0 x26_2)) = true := decide_eq_true c9
            clear c9
            simp only [Option.some.injEq, Prod.mk.injEq] at H
            obtain ⟨rfl, rfl, rfl⟩ := H
            have p101 : 0 ≤ (x26_2 : Int) := of_decide_eq_true as_
            have q101 : x26_2 < (l0.length : Int) := of_decide_eq_true as_
            obtain ⟨ad101, e101, hx101_0⟩ := Kd.at_int HR0.out x26_2 p101 q101
            cases e101
            replace hx101_0 := hc_ HB hx101_0
            replace p101 := eq_true p101
            replace q101 := eq_true q101
            go_wp2
            go_ret3
            exact ⟨_, er_, by first | exact Kd.R_nil _ _ _ _ _ | exact Kd.N_nil _ _ _ _ _ | exact Kd.V_nil _ _ _ _ _ | exact Kd.Q_nil _ _ _ _ _ | exact Kd.S_nil _ _ _ _ _, hb_⟩
           ·rw [if_neg c9] at H
            have c9b0 : decide (2047 < (rd l0 x26_2)) = false := decide_eq_false c9
            clear c9
            have H' := Aside0.mk H
            clear H
            have p101 : 0 ≤ (x26_2 : Int) := of_decide_eq_true as_
            have q101 : x26_2 < (l0.length : Int) := of_decide_eq_true as_
            obtain ⟨ad101, e101, hx101_0⟩ := Kd.at_int HR0.out x26_2 p101 q101
            cases e101
            replace hx101_0 := hc_ HB hx101_0
            replace p101 := eq_true p101
            replace q101 := eq_true q101
            go_wp2
            go_roundg k2
            case measure => have := HJ1.out; have := HK2.out; omega
            case rel => exact ⟨(wrap64 (x26_2 + 1)), es_, H', ⟨by have := HJ1.out; have := HK2.out; omega⟩, ⟨hb_⟩⟩
         ·rw [if_neg c7] at H
          exact absurd H (by simp)
        ·rw [if_neg c6] at H
         exact absurd H (by simp)
       ·rw [if_neg c5] at H
        have c5b0 : decide (x26_2 < (l0.length : Int)) = false := decide_eq_false c5
        clear c5
        by_cases c10 : 0 ≤ (l0.length : Int)
        ·rw [if_pos c10] at H
         have c10b0 := eq_true c10
         have c10b1 : decide (0 ≤ (l0.length : Int)) = true := decide_eq_true c10
         clear c10
         by_cases c11 : ((l0.length : Int) : Int).toNat ≤ 35184372088832
         ·rw [if_pos c11] at H
          have c11b0 := eq_true c11
          have c11b1 : decide (((l0.length : Int) : Int).toNat ≤ 35184372088832) = true := decide_eq_true c11
          clear c11
          obtain ⟨y102, hy102⟩ : ∃ y_ : List Int, y_ = (List.replicate ((l0.length : Int) : Int).toNat 0) := ⟨_, rfl⟩
          replace H : (spec_Arbitrate.l1 k2 l0 y102 (y102.length : Int) 0) = some (r1, r2, r3) := by first | (rw [hy102]; with_reducible exact H) | (have H2_ := (Option.bind_some _ _).symm.trans H; rw [hy102]; with_reducible exact H2_) | (have H2_ := (Option.bind_some _ _).symm.trans H; with_reducible exact H2_) | with_reducible exact H | (rw [hy102]; exact H) | exact H
          have Ny102 := Aside0.mk hy102
          clear hy102
          have H' := Aside0.mk H
          clear H
          go_wp2_with (first | ((with_reducible refine gate_dst (N := 39) rfl ?_); (try (refine gate_guard (by rfl) ?_; dsimp only)); refine Kd.R_make (Kd.int .i64) _ 3 rfl (N := 39) rfl 31 _ _ rfl (l0.length : Int) rfl rfl Try.underlying31 (.int .i64 0) 8 info3 rfl (by decide) (by omega) 0 (ok := fun _ => True) (okp := fun _ => True) rfl (fun _ hk => hk) trivial (of_decide_eq_true as_) (Nat.le_trans (Nat.mul_le_mul_right _ (of_decide_eq_true as_ : (l0.length : Int).toNat ≤ 35184372088832)) (by omega)) (Below.refl _ _) (Nat.le_refl _) ?_; intro v103 w12 ho13 hb hg_ hnew_; clear hg_ hnew_; (first | rw [← Ny102.out] at ho13 | (simp only [Int.reduceToNat] at ho13; rw [← Ny102.out] at ho13)); have n0_ := Aside0.mk (Kd.R_lower ho13 (below_size hb_)); have n1_ := Aside0.mk (below_step hb_ hb); clear HB; have HO104 := n0_; have HB := n1_; clear n0_ n1_; clear hb ho13; obtain ⟨Ao14, co14, eo14⟩ := Kd.R_slice HO104.out; subst eo14))
          go_loopg [42] k2 (fun kq v42 w' => ∃ (x7_3 : List Int) (x42_3 : Int), v42 = .int .i64 x42_3 ∧ Aside0 (spec_Arbitrate.l1 kq l0 x7_3 (y102.length : Int) x42_3 = some (r1, r2, r3)) ∧ Aside0 (kq ≤ k2) ∧ Aside0 (Kd.R (Kd.int .i64) 3 w' w.heap.size (fun _ => True) (.slice Ao14 y102.length co14) x7_3) ∧ Aside0 (Below w.heap.size w w'))
          case atStart => exact ⟨(y102), (0), es_, H', ⟨Nat.le_refl _⟩, ⟨ra_ HO104.out⟩, ⟨hb_⟩⟩
          case round =>
           clear H'
           try clear c1
           try clear p1
           try clear q1
           try clear hx1
           try clear p2
           try clear c3
           try clear c3b0
           try clear c3b1
           try clear c4
           try clear c5
           try clear c5b0
           try clear c6
           try clear c6b0
           try clear p6
           try clear c7
           try clear c7b0
           try clear c8
           try clear c8b0
           try clear c9
           try clear c9b0
           try clear c10
           try clear c10b0
           try clear c10b1
           try clear p10
           try clear q10
           try clear hx10
           try clear c11
           try clear c11b0
           try clear c11b1
           try clear c13
           try clear hx101_0
           try clear p101
           try clear p2
           try clear q101
           obtain ⟨x7_3, x42_3, rfl, HA, HK3, HO_7, HB⟩ := hrel
           have hl7_3 := (Kd.R_reads' HO_7.out).1
           rw [hl7_3] at HO_7
           (try simp only [hl7_3])
           cases gk with
           | zero => exact absurd HA.out (by simp [spec_Arbitrate.l1])
           | succ k3 =>
            have H := HA.out
            clear HA
            simp only [spec_Arbitrate.l1] at H
            by_cases c15 : x42_3 < (y102.length : Int)
            ·rw [if_pos c15] at H
             have c15b0 : decide (x42_3 < (y102.length : Int)) = true := decide_eq_true c15
             (try simp only [hl7_3] at c15b0)
             clear c15
             by_cases c16 : 0 ≤ x42_3
             ·rw [if_pos c16] at H
              have c16b0 : decide (0 ≤ x42_3) = true := decide_eq_true c16
              clear c16
              by_cases c17 : x42_3 < (x7_3.length : Int)
              ·rw [if_pos c17] at H
               have c17b0 : decide (x42_3 < (x7_3.length : Int)) = true := decide_eq_true c17
               (try simp only [hl7_3] at c17b0)
               clear c17
               obtain ⟨y105, hy105⟩ : ∃ y_ : List Int, y_ = (x7_3.set (x42_3 : Int).toNat (-1)) := ⟨_, rfl⟩
               replace H : (spec_Arbitrate.l1 k3 l0 y105 (y102.length : Int) (wrap64 (x42_3 + 1))) = some (r1, r2, r3) := by first | (rw [hy105]; with_reducible exact H) | (have H2_ := (Option.bind_some _ _).symm.trans H; rw [hy105]; with_reducible exact H2_) | (have H2_ := (Option.bind_some _ _).symm.trans H; with_reducible exact H2_) | with_reducible exact H | (rw [hy105]; exact H) | exact H
               have Ny105 := Aside0.mk hy105
               clear hy105
               have H' := Aside0.mk H
               clear H
               have p18 : 0 ≤ (x42_3 : Int) := of_decide_eq_true as_
               have q18 : (x42_3 : Int) < ((x7_3.length : Int) : Int) := of_decide_eq_true as_
               obtain ⟨go18, co18, eo18, gb18, gl18, cl18, HG18⟩ := Kd.R_form HO_7.out (by omega)
               (first | cases eo18 | (injection eo18 with ea_ en_ ec_; (first | subst ea_ | (injection ea_ with ea_; subst ea_)); subst ec_; clear en_))
               have GB18 := Aside0.mk gb18
               have GG18 := Aside0.mk HG18
               clear gb18 gl18 HG18
               obtain ⟨hx18_0, hf18_0⟩ := Kd.R_celln 0 HO_7.out (x42_3 : Int) p18 q18
               replace p18 := eq_true p18
               replace q18 := eq_true q18
               have HP19 := Kd.R_putg HO_7.out (x42_3 : Int) (-1)
               go_wp2_with (first | ((with_reducible refine gate_store (t := 3) (p := 47) rfl ?_); refine store_event (t := 3) (p := 47) (v := ?vo_w20) (w1 := (wr.setCell ⟨go18, (x42_3 : Int).toNat, none⟩ (.int .i64 (-1)))) ?hg ?ho ?hn ?hr ?_; (case ho => rfl); (case hg => rfl); (case hn => rfl); (case hr => first | (go_simp; done) | (go_simp; rfl)); intro w20 hw; have hg : wr.grownBy w20 (some go18) := (by rw [hw]; exact HP19.2); have hp_ : Kd.R (Kd.int .i64) 3 w20 w.heap.size (fun _ => True) (.slice (some ⟨go18, 0, none⟩) x7_3.length co14) y105 := (by rw [hw, Ny105.out]; exact HP19.1); clear HP19; have n0_ := Aside0.mk (hp_); have n1_ := Aside0.mk ((by rw [hw]; exact below_set (HB.out) GB18.out : Below w.heap.size w w20)); clear HO_7; clear HB; have HO_7 := n0_; have HB := n1_; clear n0_ n1_; clear hg hw hp_))
               (try simp only [← hl7_3])
               go_roundg k3
               case measure => have := HJ1.out; have := HK2.out; have := HK3.out; omega
               case rel => exact ⟨(y105), (wrap64 (x42_3 + 1)), es_, H', ⟨by have := HJ1.out; have := HK2.out; have := HK3.out; omega⟩, ⟨by (try simp only [hl7_3]); (with_reducible repeat (first | apply Kd.R_alloc | apply Kd.R_drewN | apply Kd.R_drew)); exact HO_7.out⟩, ⟨hb_⟩⟩
              ·rw [if_neg c17] at H
               exact absurd H (by simp)
             ·rw [if_neg c16] at H
              exact absurd H (by simp)
            ·rw [if_neg c15] at H
             have c15b0 : decide (x42_3 < (y102.length : Int)) = false := decide_eq_false c15
             (try simp only [hl7_3] at c15b0)
             clear c15
             have H' := Aside0.mk H
             clear H
             go_wp2
             go_loopg [9] k3 (fun kq v9 w' => ∃ (x7_4 : List Int) (x9_4 : Int), v9 = .int .i64 x9_4 ∧ Aside0 (spec_Arbitrate.l2 kq l0 x7_4 x9_4 = some (r1, r2, r3)) ∧ Aside0 (kq ≤ k3) ∧ Aside0 (Kd.R (Kd.int .i64) 3 w' w.heap.size (fun _ => True) (.slice Ao14 x7_3.length co14) x7_4) ∧ Aside0 (Below w.heap.size w w'))
             case atStart => exact ⟨(x7_3), (0), es_, H', ⟨Nat.le_refl _⟩, ⟨by (try simp only [hl7_3]); (with_reducible repeat (first | apply Kd.R_alloc | apply Kd.R_drewN | apply Kd.R_drew)); exact HO_7.out⟩, ⟨hb_⟩⟩
             case round =>
              clear H'
              try clear c1
              try clear p1
              try clear q1
              try clear hx1
              try clear hf1
              try clear p2
              try clear c3
              try clear c3b0
              try clear c3b1
              try clear c4
              try clear c5
              try clear c5b0
              try clear c6
              try clear c6b0
              try clear p6
              try clear c7
              try clear c7b0
              try clear c8
              try clear c8b0
              try clear c9
              try clear c9b0
              try clear c10
              try clear c10b0
              try clear c10b1
              try clear p10
              try clear q10
              try clear hx10
              try clear c11
              try clear c11b0
              try clear c11b1
              try clear c13
              try clear c15
              try clear c15b0
              try clear c16
              try clear c16b0
              try clear c17
              try clear c17b0
              try clear p18
              try clear q18
              try clear hx18
              try clear hf18
              try clear hx101_0
              try clear hx18_0
              try clear p1
              try clear p10
              try clear p101
              try clear p18
              try clear p2
              try clear p6
              try clear q1
              try clear q10
              try clear q101
              try clear q18
              obtain ⟨x7_4, x9_4, rfl, HA, HK4, HO_7, HB⟩ := hrel
              have hl7_4 := (Kd.R_reads' HO_7.out).1
              rw [hl7_4] at HO_7
              (try simp only [hl7_4])
              cases gk with
              | zero => exact absurd HA.out (by simp [spec_Arbitrate.l2])
              | succ k4 =>
               have H := HA.out
               clear HA
               simp only [spec_Arbitrate.l2] at H
               by_cases c21 : x9_4 < 11
               ·rw [if_pos c21] at H
                have c21b0 : decide (x9_4 < 11) = true := decide_eq_true c21
                clear c21
                have H' := Aside0.mk H
                clear H
                go_wp2
                go_loopg [10, 55] k4 (fun kq v10 v55 w' => ∃ (x10_5 : Bool) (x55_5 : Int), v10 = .bool x10_5 ∧ v55 = .int .i64 x55_5 ∧ Aside0 (spec_Arbitrate.l3 kq l0 x7_4 x9_4 x10_5 l0 (l0.length : Int) x55_5 = some (r1, r2, r3)) ∧ Aside0 (kq ≤ k4) ∧ Aside0 (Kd.R (Kd.int .i64) 3 w' w.heap.size (fun _ => True) (.slice Ao14 x7_4.length co14) x7_4) ∧ Aside0 (Below w.heap.size w w'))
                case atStart => exact ⟨(false), (0), es_, es_, H', ⟨Nat.le_refl _⟩, ⟨by (try simp only [hl7_3]); (try simp only [hl7_4]); (with_reducible repeat (first | apply Kd.R_alloc | apply Kd.R_drewN | apply Kd.R_drew)); exact HO_7.out⟩, ⟨hb_⟩⟩
                case round =>
                 clear H'
                 try clear c1
                 try clear p1
                 try clear q1
                 try clear hx1
                 try clear hf1
                 try clear c2
                 try clear p2
                 try clear c3
                 try clear c3b0
                 try clear c3b1
                 try clear c4
                 try clear c5
                 try clear c5b0
                 try clear c6
                 try clear c6b0
                 try clear p6
                 try clear c7
                 try clear c7b0
                 try clear c8
                 try clear c8b0
                 try clear c9
                 try clear c9b0
                 try clear c10
                 try clear c10b0
                 try clear c10b1
                 try clear p10
                 try clear q10
                 try clear hx10
                 try clear c11
                 try clear c11b0
                 try clear c11b1
                 try clear c13
                 try clear c15
                 try clear c15b0
                 try clear c16
                 try clear c16b0
                 try clear c17
                 try clear c17b0
                 try clear p18
                 try clear q18
                 try clear hx18
                 try clear hf18
                 try clear c21
                 try clear c21b0
                 try clear hx101_0
                 try clear hx18_0
                 try clear p1
                 try clear p10
                 try clear p101
                 try clear p18
                 try clear p2
                 try clear p6
                 try clear q1
                 try clear q10
                 try clear q101
                 try clear q18
                 obtain ⟨x10_5, x55_5, rfl, rfl, HA, HK5, HO_7, HB⟩ := hrel
                 cases gk with
                 | zero => exact absurd HA.out (by simp [spec_Arbitrate.l3])
                 | succ k5 =>
                  have H := HA.out
                  clear HA
                  simp only [spec_Arbitrate.l3] at H
                  by_cases c22 : x55_5 < (l0.length : Int)
                  ·rw [if_pos c22] at H
                   have c22b0 : decide (x55_5 < (l0.length : Int)) = true := decide_eq_true c22
                   (try simp only [hl7_3] at c22b0)
                   (try simp only [hl7_4] at c22b0)
                   clear c22
                   by_cases c23 : 0 ≤ x55_5
                   ·rw [if_pos c23] at H
                    have c23b0 : decide (0 ≤ x55_5) = true := decide_eq_true c23
                    clear c23
                    by_cases c24 : x55_5 < (l0.length : Int)
                    ·rw [if_pos c24] at H
                     have c24b0 : decide (x55_5 < (l0.length : Int)) = true := decide_eq_true c24
                     (try simp only [hl7_3] at c24b0)
                     (try simp only [hl7_4] at c24b0)
                     clear c24
                     by_cases c25 : x10_5 = true
                     ·subst c25
                      rw [if_pos rfl] at H
                      have H' := Aside0.mk H
                      clear H
                      have p106 : 0 ≤ (x55_5 : Int) := of_decide_eq_true as_
                      have q106 : x55_5 < (l0.length : Int) := of_decide_eq_true as_
                      obtain ⟨ad106, e106, hx106_0⟩ := Kd.at_int HR0.out x55_5 p106 q106
                      cases e106
                      replace hx106_0 := hc_ HB hx106_0
                      replace p106 := eq_true p106
                      replace q106 := eq_true q106
                      go_wp2
                      go_roundg k5
                      case measure => have := HJ1.out; have := HK2.out; have := HK3.out; have := HK4.out; have := HK5.out; omega
                      case rel => exact ⟨(true), (wrap64 (x55_5 + 1)), es_, es_, H', ⟨by have := HJ1.out; have := HK2.out; have := HK3.out; have := HK4.out; have := HK5.out; omega⟩, ⟨by (try simp only [hl7_3]); (try simp only [hl7_4]); (with_reducible repeat (first | apply Kd.R_alloc | apply Kd.R_drewN | apply Kd.R_drew)); exact HO_7.out⟩, ⟨hb_⟩⟩
                     ·replace c25 := Bool.eq_false_iff.mpr c25
                      subst c25
                      rw [if_neg (show ¬ (false = true) by decide)] at H
                      by_cases c26 : x55_5 < (x7_4.length : Int)
                      ·rw [if_pos c26] at H
                       have c26b0 : decide (x55_5 < (x7_4.length : Int)) = true := decide_eq_true c26
                       (try simp only [hl7_3] at c26b0)
                       (try simp only [hl7_4] at c26b0)
                       clear c26
                       by_cases c27 : (rd x7_4 x55_5) < 0
                       ·rw [if_pos c27] at H
                        have c27b0 : decide ((rd x7_4 x55_5) < 0) = true := decide_eq_true c27
                        clear c27
                        obtain ⟨ji28, hji28⟩ : ∃ j_ : Int, (IntKind.u64.wrap (wrap64 (10 - x9_4))) = j_ := ⟨_, rfl⟩
                        replace H : (if 0 ≤ (ji28) then (spec_Arbitrate.l3 k5 l0 x7_4 x9_4 ((Go.bits .and .i64 (shr .i64 (rd l0 x55_5) (ji28)) 1) == 0) l0 (l0.length : Int) (wrap64 (x55_5 + 1))) else (none)) = some (r1, r2, r3) := by first | (rw [hji28] at H; exact H) | (simp only [hji28] at H ⊢; exact H)
                        by_cases c29 : 0 ≤ (ji28)
                        ·rw [if_pos c29] at H
                         have c29b0 := eq_true c29
                         have c29b1 : decide (0 ≤ (ji28)) = true := decide_eq_true c29
                         clear c29
                         obtain ⟨ji30, hji30⟩ : ∃ j_ : Int, (shr .i64 (rd l0 x55_5) (ji28)) = j_ := ⟨_, rfl⟩
                         replace H : (spec_Arbitrate.l3 k5 l0 x7_4 x9_4 ((Go.bits .and .i64 (ji30) 1) == 0) l0 (l0.length : Int) (wrap64 (x55_5 + 1))) = some (r1, r2, r3) := by first | (rw [hji30] at H; exact H) | (simp only [hji30] at H ⊢; exact H)
                         have hji30_ : ((rd l0 x55_5) / 2 ^ min (ji28).toNat 64) = ji30 := hji30
                         have hji30z : (ji28) ≤ 64 → ((rd l0 x55_5) / 2 ^ (ji28).toNat) = ji30 := shr_small hji30
                         have H' := Aside0.mk H
                         clear H
                         have p106 : 0 ≤ (x55_5 : Int) := of_decide_eq_true as_
                         have q106 : x55_5 < (l0.length : Int) := of_decide_eq_true as_
                         obtain ⟨ad106, e106, hx106_0⟩ := Kd.at_int HR0.out x55_5 p106 q106
                         cases e106
                         replace hx106_0 := hc_ HB hx106_0
                         replace p106 := eq_true p106
                         replace q106 := eq_true q106
                         have p107 : 0 ≤ (x55_5 : Int) := of_decide_eq_true as_
                         have q107 : x55_5 < (x7_4.length : Int) := of_decide_eq_true as_
                         obtain ⟨ad107, e107, hx107_0⟩ := Kd.at_int (Kd.R_reads' HO_7.out).2.2 x55_5 p107 q107
                         cases e107
                         replace p107 := eq_true p107
                         replace q107 := eq_true q107
                         go_wp2
                         go_roundg k5
                         case measure => have := HJ1.out; have := HK2.out; have := HK3.out; have := HK4.out; have := HK5.out; omega
                         case rel => exact ⟨(((Go.bits .and .i64 (ji30) 1) == 0)), (wrap64 (x55_5 + 1)), (by first | rfl | (simp; done) | (simp only [← hji30] <;> (first | rfl | simp)) | (simp [*]; done)), es_, H', ⟨by have := HJ1.out; have := HK2.out; have := HK3.out; have := HK4.out; have := HK5.out; omega⟩, ⟨by (try simp only [hl7_3]); (try simp only [hl7_4]); (with_reducible repeat (first | apply Kd.R_alloc | apply Kd.R_drewN | apply Kd.R_drew)); exact HO_7.out⟩, ⟨hb_⟩⟩
                        ·rw [if_neg c29] at H
                         exact absurd H (by simp)
                       ·rw [if_neg c27] at H
                        have c27b0 : decide ((rd x7_4 x55_5) < 0) = false := decide_eq_false c27
                        clear c27
                        have H' := Aside0.mk H
                        clear H
                        have p106 : 0 ≤ (x55_5 : Int) := of_decide_eq_true as_
                        have q106 : x55_5 < (l0.length : Int) := of_decide_eq_true as_
                        obtain ⟨ad106, e106, hx106_0⟩ := Kd.at_int HR0.out x55_5 p106 q106
                        cases e106
                        replace hx106_0 := hc_ HB hx106_0
                        replace p106 := eq_true p106
                        replace q106 := eq_true q106
                        have p107 : 0 ≤ (x55_5 : Int) := of_decide_eq_true as_
                        have q107 : x55_5 < (x7_4.length : Int) := of_decide_eq_true as_
                        obtain ⟨ad107, e107, hx107_0⟩ := Kd.at_int (Kd.R_reads' HO_7.out).2.2 x55_5 p107 q107
                        cases e107
                        replace p107 := eq_true p107
                        replace q107 := eq_true q107
                        go_wp2
                        go_roundg k5
                        case measure => have := HJ1.out; have := HK2.out; have := HK3.out; have := HK4.out; have := HK5.out; omega
                        case rel => exact ⟨(false), (wrap64 (x55_5 + 1)), es_, es_, H', ⟨by have := HJ1.out; have := HK2.out; have := HK3.out; have := HK4.out; have := HK5.out; omega⟩, ⟨by (try simp only [hl7_3]); (try simp only [hl7_4]); (with_reducible repeat (first | apply Kd.R_alloc | apply Kd.R_drewN | apply Kd.R_drew)); exact HO_7.out⟩, ⟨hb_⟩⟩
                      ·rw [if_neg c26] at H
                       exact absurd H (by simp)
                    ·rw [if_neg c24] at H
                     exact absurd H (by simp)
                   ·rw [if_neg c23] at H
                    exact absurd H (by simp)
                  ·rw [if_neg c22] at H
                   have c22b0 : decide (x55_5 < (l0.length : Int)) = false := decide_eq_false c22
                   (try simp only [hl7_3] at c22b0)
                   (try simp only [hl7_4] at c22b0)
                   clear c22
                   have H' := Aside0.mk H
                   clear H
                   go_wp2
                   go_loopg [80] k5 (fun kq v80 w' => ∃ (x7_6 : List Int) (x80_6 : Int), v80 = .int .i64 x80_6 ∧ Aside0 (spec_Arbitrate.l4 kq l0 x7_6 x9_4 x10_5 l0 (l0.length : Int) x80_6 = some (r1, r2, r3)) ∧ Aside0 (kq ≤ k5) ∧ Aside0 (Kd.R (Kd.int .i64) 3 w' w.heap.size (fun _ => True) (.slice Ao14 x7_4.length co14) x7_6) ∧ Aside0 (Below w.heap.size w w'))
                   case atStart => exact ⟨(x7_4), (0), es_, H', ⟨Nat.le_refl _⟩, ⟨by (try simp only [hl7_3]); (try simp only [hl7_4]); (with_reducible repeat (first | apply Kd.R_alloc | apply Kd.R_drewN | apply Kd.R_drew)); exact HO_7.out⟩, ⟨hb_⟩⟩
                   case round =>
                    clear H'
                    try clear c1
                    try clear p1
                    try clear q1
                    try clear hx1
                    try clear hf1
                    try clear c2
                    try clear p2
                    try clear c3
                    try clear c3b0
                    try clear c3b1
                    try clear c4
                    try clear c5
                    try clear c5b0
                    try clear c6
                    try clear c6b0
                    try clear p6
                    try clear c7
                    try clear c7b0
                    try clear c8
                    try clear c8b0
                    try clear c9
                    try clear c9b0
                    try clear c10
                    try clear c10b0
                    try clear c10b1
                    try clear p10
                    try clear q10
                    try clear hx10
                    try clear c11
                    try clear c11b0
                    try clear c11b1
                    try clear c13
                    try clear c15
                    try clear c15b0
                    try clear c16
                    try clear c16b0
                    try clear c17
                    try clear c17b0
                    try clear p18
                    try clear q18
                    try clear hx18
                    try clear hf18
                    try clear c21
                    try clear c21b0
                    try clear c22
                    try clear c22b0
                    try clear c23
                    try clear c23b0
                    try clear c24
                    try clear c24b0
                    try clear c25
                    try clear c26
                    try clear c26b0
                    try clear c27
                    try clear c27b0
                    try clear c29
                    try clear c29b0
                    try clear c29b1
                    try clear hx101_0
                    try clear hx106_0
                    try clear hx107_0
                    try clear hx18_0
                    try clear p1
                    try clear p10
                    try clear p101
                    try clear p106
                    try clear p107
                    try clear p18
                    try clear p2
                    try clear p6
                    try clear q1
                    try clear q10
                    try clear q101
                    try clear q106
                    try clear q107
                    try clear q18
                    obtain ⟨x7_6, x80_6, rfl, HA, HK6, HO_7, HB⟩ := hrel
                    have hl7_6 := (Kd.R_reads' HO_7.out).1
                    rw [hl7_6] at HO_7
                    (try simp only [hl7_6])
                    cases gk with
                    | zero => exact absurd HA.out (by simp [spec_Arbitrate.l4])
                    | succ k6 =>
                     have H := HA.out
                     clear HA
                     simp only [spec_Arbitrate.l4] at H
                     by_cases c31 : x80_6 < (l0.length : Int)
                     ·rw [if_pos c31] at H
                      have c31b0 : decide (x80_6 < (l0.length : Int)) = true := decide_eq_true c31
                      (try simp only [hl7_3] at c31b0)
                      (try simp only [hl7_4] at c31b0)
                      (try simp only [hl7_6] at c31b0)
                      clear c31
                      by_cases c32 : 0 ≤ x80_6
                      ·rw [if_pos c32] at H
                       have c32b0 : decide (0 ≤ x80_6) = true := decide_eq_true c32
                       clear c32
                       by_cases c33 : x80_6 < (l0.length : Int)
                       ·rw [if_pos c33] at H
                        have c33b0 : decide (x80_6 < (l0.length : Int)) = true := decide_eq_true c33
                        (try simp only [hl7_3] at c33b0)
                        (try simp only [hl7_4] at c33b0)
                        (try simp only [hl7_6] at c33b0)
                        clear c33
                        by_cases c34 : x10_5 = true
                        ·subst c34
                         rw [if_pos rfl] at H
                         by_cases c35 : x80_6 < (x7_6.length : Int)
                         ·rw [if_pos c35] at H
                          have c35b0 : decide (x80_6 < (x7_6.length : Int)) = true := decide_eq_true c35
                          (try simp only [hl7_3] at c35b0)
                          (try simp only [hl7_4] at c35b0)
                          (try simp only [hl7_6] at c35b0)
                          clear c35
                          by_cases c36 : (rd x7_6 x80_6) < 0
                          ·rw [if_pos c36] at H
                           have c36b0 : decide ((rd x7_6 x80_6) < 0) = true := decide_eq_true c36
                           clear c36
                           obtain ⟨ji37, hji37⟩ : ∃ j_ : Int, (IntKind.u64.wrap (wrap64 (10 - x9_4))) = j_ := ⟨_, rfl⟩
                           replace H : (if 0 ≤ (ji37) then (if (Go.bits .and .i64 (shr .i64 (rd l0 x80_6) (ji37)) 1) = 1 then (spec_Arbitrate.l4 k6 l0 (x7_6.set (x80_6 : Int).toNat x9_4) x9_4 true l0 (l0.length : Int) (wrap64 (x80_6 + 1))) else (spec_Arbitrate.l4 k6 l0 x7_6 x9_4 true l0 (l0.length : Int) (wrap64 (x80_6 + 1)))) else (none)) = some (r1, r2, r3) := by first | (rw [hji37] at H; exact H) | (simp only [hji37] at H ⊢; exact H)
                           by_cases c38 : 0 ≤ (ji37)
                           ·rw [if_pos c38] at H
                            have c38b0 := eq_true c38
                            have c38b1 : decide (0 ≤ (ji37)) = true := decide_eq_true c38
                            clear c38
                            obtain ⟨ji39, hji39⟩ : ∃ j_ : Int, (shr .i64 (rd l0 x80_6) (ji37)) = j_ := ⟨_, rfl⟩
                            replace H : (if (Go.bits .and .i64 (ji39) 1) = 1 then (spec_Arbitrate.l4 k6 l0 (x7_6.set (x80_6 : Int).toNat x9_4) x9_4 true l0 (l0.length : Int) (wrap64 (x80_6 + 1))) else (spec_Arbitrate.l4 k6 l0 x7_6 x9_4 true l0 (l0.length : Int) (wrap64 (x80_6 + 1)))) = some (r1, r2, r3) := by first | (rw [hji39] at H; exact H) | (simp only [hji39] at H ⊢; exact H)
                            have hji39_ : ((rd l0 x80_6) / 2 ^ min (ji37).toNat 64) = ji39 := hji39
                            have hji39z : (ji37) ≤ 64 → ((rd l0 x80_6) / 2 ^ (ji37).toNat) = ji39 := shr_small hji39
                            by_cases c40 : (Go.bits .and .i64 (ji39) 1) = 1
                            ·rw [if_pos c40] at H
                             have c40b0 : ((Go.bits .and .i64 (ji39) 1) == 1) = true := beq_iff_eq.mpr c40
                             have c40b1 : ((Go.bits .and .i64 (ji39) 1) != 1) = false := bne_eq_false_iff_eq.mpr c40
                             clear c40
                             obtain ⟨y110, hy110⟩ : ∃ y_ : List Int, y_ = (x7_6.set (x80_6 : Int).toNat x9_4) := ⟨_, rfl⟩
                             replace H : (spec_Arbitrate.l4 k6 l0 y110 x9_4 true l0 (l0.length : Int) (wrap64 (x80_6 + 1))) = some (r1, r2, r3) := by first | (rw [hy110]; with_reducible exact H) | (have H2_ := (Option.bind_some _ _).symm.trans H; rw [hy110]; with_reducible exact H2_) | (have H2_ := (Option.bind_some _ _).symm.trans H; with_reducible exact H2_) | with_reducible exact H | (rw [hy110]; exact H) | exact H
                             have Ny110 := Aside0.mk hy110
                             clear hy110
                             have H' := Aside0.mk H
                             clear H
                             have p108 : 0 ≤ (x80_6 : Int) := of_decide_eq_true as_
                             have q108 : x80_6 < (l0.length : Int) := of_decide_eq_true as_
                             obtain ⟨ad108, e108, hx108_0⟩ := Kd.at_int HR0.out x80_6 p108 q108
                             cases e108
                             replace hx108_0 := hc_ HB hx108_0
                             replace p108 := eq_true p108
                             replace q108 := eq_true q108
                             have p109 : 0 ≤ (x80_6 : Int) := of_decide_eq_true as_
                             have q109 : x80_6 < (x7_6.length : Int) := of_decide_eq_true as_
                             obtain ⟨ad109, e109, hx109_0⟩ := Kd.at_int (Kd.R_reads' HO_7.out).2.2 x80_6 p109 q109
                             cases e109
                             replace p109 := eq_true p109
                             replace q109 := eq_true q109
                             have p41 : 0 ≤ (x80_6 : Int) := of_decide_eq_true as_
                             have q41 : (x80_6 : Int) < ((x7_6.length : Int) : Int) := of_decide_eq_true as_
                             obtain ⟨go41, co41, eo41, gb41, gl41, cl41, HG41⟩ := Kd.R_form HO_7.out (by omega)
                             (first | cases eo41 | (injection eo41 with ea_ en_ ec_; (first | subst ea_ | (injection ea_ with ea_; subst ea_)); subst ec_; clear en_))
                             have GB41 := Aside0.mk gb41
                             have GG41 := Aside0.mk HG41
                             clear gb41 gl41 HG41
                             (first | simp only [add_plain] at hx109_0 | skip)
                             obtain ⟨hx41_0, hf41_0⟩ := Kd.R_celln 0 HO_7.out (x80_6 : Int) p41 q41
                             replace p41 := eq_true p41
                             replace q41 := eq_true q41
                             have HP42 := Kd.R_putg HO_7.out (x80_6 : Int) x9_4
                             go_wp2_with (first | ((with_reducible refine gate_store (t := 3) (p := 105) rfl ?_); refine store_event (t := 3) (p := 105) (v := ?vo_w43) (w1 := (wr.setCell ⟨go41, (x80_6 : Int).toNat, none⟩ (.int .i64 x9_4))) ?hg ?ho ?hn ?hr ?_; (case ho => rfl); (case hg => rfl); (case hn => rfl); (case hr => first | (go_simp; done) | (go_simp; rfl)); intro w43 hw; have hg : wr.grownBy w43 (some go41) := (by rw [hw]; exact HP42.2); have hp_ : Kd.R (Kd.int .i64) 3 w43 w.heap.size (fun _ => True) (.slice (some ⟨go41, 0, none⟩) x7_6.length co14) y110 := (by rw [hw, Ny110.out]; exact HP42.1); clear HP42; have n0_ := Aside0.mk (hp_); have n1_ := Aside0.mk ((by rw [hw]; exact below_set (HB.out) GB41.out : Below w.heap.size w w43)); clear HO_7; clear HB; have HO_7 := n0_; have HB := n1_; clear n0_ n1_; clear hg hw hp_))
                             (try simp only [← hl7_6])
                             go_roundg k6
                             case measure => have := HJ1.out; have := HK2.out; have := HK3.out; have := HK4.out; have := HK5.out; have := HK6.out; omega
                             case rel => exact ⟨(y110), (wrap64 (x80_6 + 1)), es_, H', ⟨by have := HJ1.out; have := HK2.out; have := HK3.out; have := HK4.out; have := HK5.out; have := HK6.out; omega⟩, ⟨by (try simp only [hl7_3]); (try simp only [hl7_4]); (try simp only [hl7_6]); (with_reducible repeat (first | apply Kd.R_alloc | apply Kd.R_drewN | apply Kd.R_drew)); exact HO_7.out⟩, ⟨hb_⟩⟩
                            ·rw [if_neg c40] at H
                             have c40b0 : ((Go.bits .and .i64 (ji39) 1) == 1) = false := beq_eq_false_iff_ne.mpr c40
                             have c40b1 : ((Go.bits .and .i64 (ji39) 1) != 1) = true := bne_iff_ne.mpr c40
                             have H' := Aside0.mk H
                             clear H
                             have p108 : 0 ≤ (x80_6 : Int) := of_decide_eq_true as_
                             have q108 : x80_6 < (l0.length : Int) := of_decide_eq_true as_
                             obtain ⟨ad108, e108, hx108_0⟩ := Kd.at_int HR0.out x80_6 p108 q108
                             cases e108
                             replace hx108_0 := hc_ HB hx108_0
                             replace p108 := eq_true p108
                             replace q108 := eq_true q108
                             have p109 : 0 ≤ (x80_6 : Int) := of_decide_eq_true as_
                             have q109 : x80_6 < (x7_6.length : Int) := of_decide_eq_true as_
                             obtain ⟨ad109, e109, hx109_0⟩ := Kd.at_int (Kd.R_reads' HO_7.out).2.2 x80_6 p109 q109
                             cases e109
                             replace p109 := eq_true p109
                             replace q109 := eq_true q109
                             go_wp2
                             (try simp only [← hl7_6])
                             go_roundg k6
                             case measure => have := HJ1.out; have := HK2.out; have := HK3.out; have := HK4.out; have := HK5.out; have := HK6.out; omega
                             case rel => exact ⟨(x7_6), (wrap64 (x80_6 + 1)), es_, H', ⟨by have := HJ1.out; have := HK2.out; have := HK3.out; have := HK4.out; have := HK5.out; have := HK6.out; omega⟩, ⟨by (try simp only [hl7_3]); (try simp only [hl7_4]); (try simp only [hl7_6]); (with_reducible repeat (first | apply Kd.R_alloc | apply Kd.R_drewN | apply Kd.R_drew)); exact HO_7.out⟩, ⟨hb_⟩⟩
                           ·rw [if_neg c38] at H
                            exact absurd H (by simp)
                          ·rw [if_neg c36] at H
                           have c36b0 : decide ((rd x7_6 x80_6) < 0) = false := decide_eq_false c36
                           clear c36
                           have H' := Aside0.mk H
                           clear H
                           have p108 : 0 ≤ (x80_6 : Int) := of_decide_eq_true as_
                           have q108 : x80_6 < (l0.length : Int) := of_decide_eq_true as_
                           obtain ⟨ad108, e108, hx108_0⟩ := Kd.at_int HR0.out x80_6 p108 q108
                           cases e108
                           replace hx108_0 := hc_ HB hx108_0
                           replace p108 := eq_true p108
                           replace q108 := eq_true q108
                           have p109 : 0 ≤ (x80_6 : Int) := of_decide_eq_true as_
                           have q109 : x80_6 < (x7_6.length : Int) := of_decide_eq_true as_
                           obtain ⟨ad109, e109, hx109_0⟩ := Kd.at_int (Kd.R_reads' HO_7.out).2.2 x80_6 p109 q109
                           cases e109
                           replace p109 := eq_true p109
                           replace q109 := eq_true q109
                           go_wp2
                           (try simp only [← hl7_6])
                           go_roundg k6
                           case measure => have := HJ1.out; have := HK2.out; have := HK3.out; have := HK4.out; have := HK5.out; have := HK6.out; omega
                           case rel => exact ⟨(x7_6), (wrap64 (x80_6 + 1)), es_, H', ⟨by have := HJ1.out; have := HK2.out; have := HK3.out; have := HK4.out; have := HK5.out; have := HK6.out; omega⟩, ⟨by (try simp only [hl7_3]); (try simp only [hl7_4]); (try simp only [hl7_6]); (with_reducible repeat (first | apply Kd.R_alloc | apply Kd.R_drewN | apply Kd.R_drew)); exact HO_7.out⟩, ⟨hb_⟩⟩
                         ·rw [if_neg c35] at H
                          exact absurd H (by simp)
                        ·replace c34 := Bool.eq_false_iff.mpr c34
                         subst c34
                         rw [if_neg (show ¬ (false = true) by decide)] at H
                         have H' := Aside0.mk H
                         clear H
                         have p108 : 0 ≤ (x80_6 : Int) := of_decide_eq_true as_
                         have q108 : x80_6 < (l0.length : Int) := of_decide_eq_true as_
                         obtain ⟨ad108, e108, hx108_0⟩ := Kd.at_int HR0.out x80_6 p108 q108
                         cases e108
                         replace hx108_0 := hc_ HB hx108_0
                         replace p108 := eq_true p108
                         replace q108 := eq_true q108
                         go_wp2
                         (try simp only [← hl7_6])
                         go_roundg k6
                         case measure => have := HJ1.out; have := HK2.out; have := HK3.out; have := HK4.out; have := HK5.out; have := HK6.out; omega
                         case rel => exact ⟨(x7_6), (wrap64 (x80_6 + 1)), es_, H', ⟨by have := HJ1.out; have := HK2.out; have := HK3.out; have := HK4.out; have := HK5.out; have := HK6.out; omega⟩, ⟨by (try simp only [hl7_3]); (try simp only [hl7_4]); (try simp only [hl7_6]); (with_reducible repeat (first | apply Kd.R_alloc | apply Kd.R_drewN | apply Kd.R_drew)); exact HO_7.out⟩, ⟨hb_⟩⟩
                       ·rw [if_neg c33] at H
                        exact absurd H (by simp)
                      ·rw [if_neg c32] at H
                       exact absurd H (by simp)
                     ·rw [if_neg c31] at H
                      have c31b0 : decide (x80_6 < (l0.length : Int)) = false := decide_eq_false c31
                      (try simp only [hl7_3] at c31b0)
                      (try simp only [hl7_4] at c31b0)
                      (try simp only [hl7_6] at c31b0)
                      clear c31
                      have H' := Aside0.mk H
                      clear H
                      go_wp2
                      (try simp only [← hl7_4, ← hl7_6])
                      go_roundg k6
                      case measure => have := HJ1.out; have := HK2.out; have := HK3.out; have := HK4.out; have := HK5.out; have := HK6.out; omega
                      case rel => exact ⟨(x7_6), (wrap64 (x9_4 + 1)), es_, H', ⟨by have := HJ1.out; have := HK2.out; have := HK3.out; have := HK4.out; have := HK5.out; have := HK6.out; omega⟩, ⟨by (try simp only [hl7_3]); (try simp only [hl7_4]); (try simp only [hl7_6]); (with_reducible repeat (first | apply Kd.R_alloc | apply Kd.R_drewN | apply Kd.R_drew)); exact HO_7.out⟩, ⟨hb_⟩⟩
               ·rw [if_neg c21] at H
                have c21b0 : decide (x9_4 < 11) = false := decide_eq_false c21
                clear c21
                have H' := Aside0.mk H
                clear H
                go_wp2
                go_loopg [15] k4 (fun kq v15 w' => ∃ (x15_5 : Int), v15 = .int .i64 x15_5 ∧ Aside0 (spec_Arbitrate.l5 kq x7_4 x15_5 = some (r1, r2, r3)) ∧ Aside0 (kq ≤ k4) ∧ Aside0 (Kd.R (Kd.int .i64) 3 w' w.heap.size (fun _ => True) (.slice Ao14 x7_4.length co14) x7_4) ∧ Aside0 (Below w.heap.size w w'))
                case atStart => exact ⟨(0), es_, H', ⟨Nat.le_refl _⟩, ⟨by (try simp only [hl7_3]); (try simp only [hl7_4]); (with_reducible repeat (first | apply Kd.R_alloc | apply Kd.R_drewN | apply Kd.R_drew)); exact HO_7.out⟩, ⟨hb_⟩⟩
                case round =>
                 clear H'
                 try clear c1
                 try clear p1
                 try clear q1
                 try clear hx1
                 try clear hf1
                 try clear c2
                 try clear p2
                 try clear c3
                 try clear c3b0
                 try clear c3b1
                 try clear c4
                 try clear p4
                 try clear q4
                 try clear hx4
                 try clear hf4
                 try clear c5
                 try clear c5b0
                 try clear c6
                 try clear c6b0
                 try clear p6
                 try clear c7
                 try clear c7b0
                 try clear c8
                 try clear c8b0
                 try clear c9
                 try clear c9b0
                 try clear c10
                 try clear c10b0
                 try clear c10b1
                 try clear p10
                 try clear q10
                 try clear hx10
                 try clear c11
                 try clear c11b0
                 try clear c11b1
                 try clear c13
                 try clear c15
                 try clear c15b0
                 try clear c16
                 try clear c16b0
                 try clear c17
                 try clear c17b0
                 try clear p18
                 try clear q18
                 try clear hx18
                 try clear hf18
                 try clear c21
                 try clear c21b0
                 try clear c22
                 try clear c22b0
                 try clear c23
                 try clear c23b0
                 try clear c24
                 try clear c24b0
                 try clear c25
                 try clear c26
                 try clear c26b0
                 try clear c27
                 try clear c27b0
                 try clear c29
                 try clear c29b0
                 try clear c29b1
                 try clear c31
                 try clear c31b0
                 try clear c32
                 try clear c32b0
                 try clear c33
                 try clear c33b0
                 try clear c34
                 try clear c35
                 try clear c35b0
                 try clear c36
                 try clear c36b0
                 try clear c38
                 try clear c38b0
                 try clear c38b1
                 try clear c40
                 try clear c40b0
                 try clear c40b1
                 try clear p41
                 try clear q41
                 try clear hx41
                 try clear hf41
                 try clear hx101_0
                 try clear hx106_0
                 try clear hx107_0
                 try clear hx108_0
                 try clear hx109_0
                 try clear hx18_0
                 try clear hx41_0
                 try clear p1
                 try clear p10
                 try clear p101
                 try clear p106
                 try clear p107
                 try clear p108
                 try clear p109
                 try clear p18
                 try clear p2
                 try clear p41
                 try clear p6
                 try clear q1
                 try clear q10
                 try clear q101
                 try clear q106
                 try clear q107
                 try clear q108
                 try clear q109
                 try clear q18
                 try clear q41
                 obtain ⟨x15_5, rfl, HA, HK5, HO_7, HB⟩ := hrel
                 cases gk with
                 | zero => exact absurd HA.out (by simp [spec_Arbitrate.l5])
                 | succ k5 =>
                  have H := HA.out
                  clear HA
                  simp only [spec_Arbitrate.l5] at H
                  by_cases c44 : 0 ≤ x15_5
                  ·rw [if_pos c44] at H
                   have c44b0 : decide (0 ≤ x15_5) = true := decide_eq_true c44
                   clear c44
                   by_cases c45 : x15_5 < (x7_4.length : Int)
                   ·rw [if_pos c45] at H
                    have c45b0 : decide (x15_5 < (x7_4.length : Int)) = true := decide_eq_true c45
                    (try simp only [hl7_3] at c45b0)
                    (try simp only [hl7_4] at c45b0)
                    clear c45
                    by_cases c46 : (rd x7_4 x15_5) ≥ 0
                    ·rw [if_pos c46] at H
                     have c46b0 : decide (0 ≤ (rd x7_4 x15_5)) = true := decide_eq_true c46
                     clear c46
                     have H' := Aside0.mk H
                     clear H
                     have p111 : 0 ≤ (x15_5 : Int) := of_decide_eq_true as_
                     have q111 : x15_5 < (x7_4.length : Int) := of_decide_eq_true as_
                     obtain ⟨ad111, e111, hx111_0⟩ := Kd.at_int (Kd.R_reads' HO_7.out).2.2 x15_5 p111 q111
                     cases e111
                     replace p111 := eq_true p111
                     replace q111 := eq_true q111
                     go_wp2
                     go_roundg k5
                     case measure => have := HJ1.out; have := HK2.out; have := HK3.out; have := HK4.out; have := HK5.out; omega
                     case rel => exact ⟨(wrap64 (x15_5 + 1)), es_, H', ⟨by have := HJ1.out; have := HK2.out; have := HK3.out; have := HK4.out; have := HK5.out; omega⟩, ⟨by (try simp only [hl7_3]); (try simp only [hl7_4]); (with_reducible repeat (first | apply Kd.R_alloc | apply Kd.R_drewN | apply Kd.R_drew)); exact HO_7.out⟩, ⟨hb_⟩⟩
                    ·rw [if_neg c46] at H
                     have c46b0 : decide (0 ≤ (rd x7_4 x15_5)) = false := decide_eq_false c46
                     clear c46
                     simp only [Option.some.injEq, Prod.mk.injEq] at H
                     obtain ⟨rfl, rfl, rfl⟩ := H
                     have p111 : 0 ≤ (x15_5 : Int) := of_decide_eq_true as_
                     have q111 : x15_5 < (x7_4.length : Int) := of_decide_eq_true as_
                     obtain ⟨ad111, e111, hx111_0⟩ := Kd.at_int (Kd.R_reads' HO_7.out).2.2 x15_5 p111 q111
                     cases e111
                     replace p111 := eq_true p111
                     replace q111 := eq_true q111
                     go_wp2
                     go_ret3
                     exact ⟨_, er_, by (with_reducible repeat (first | apply Kd.R_alloc | apply Kd.R_drewN | apply Kd.R_drew)); exact HO_7.out, hb_⟩
                   ·rw [if_neg c45] at H
                    exact absurd H (by simp)
                  ·rw [if_neg c44] at H
                   exact absurd H (by simp)
         ·rw [if_neg c11] at H
          exact absurd H (by simp)
        ·rw [if_neg c10] at H
         exact absurd H (by simp)

end Go.Proofs.Ytbdonoeellmeoaa.Pr
-- Written by this session's own print (wip/tools/mkmp.py) out of the translation. Lean checks it.
namespace Go.Proofs.Ytbdonoeellmeoaa.Pr
open Go.RowKit Go.Proofs.YtbdonoeellmeoaaW.PrintWords Go.Proofs.YtbdonoeellmeoaaW.PrintLast Go.Proofs.YtbdonoeellmeoaaW.PrintMore
attribute [local go_sem] max2_int min2_int max_two min_two max_three min_three max_four min_four   -- for this text's walks alone
set_option linter.unusedVariables false
set_option linter.unusedSimpArgs false

set_option maxHeartbeats 8000000 in
set_option maxRecDepth 100000 in
theorem impl_between.calls (a0 : Int) (a1 : Int) (a2 : Int) (r : Bool) (w : World) (h : impl_between.f a0 a1 a2 = some r) :
   Calls Try.prog 29 #[.int .i64 a0, .int .i64 a1, .int .i64 a2] w fun e w' => e = .returned (.bool r) ∧ Drawn0 w w' := by
  have H : (if a0 ≥ a1 then (some (decide (a0 ≤ a2))) else (some false)) = some r := h
  clear h
  by_cases c4 : a0 ≥ a1
  ·rw [if_pos c4] at H
   have c4b0 : decide (a1 ≤ a0) = true := decide_eq_true c4
   clear c4
   obtain rfl := Option.some.inj H
   go_enter Try.func29, Try.ntmps29
   go_wp2
   go_ret
   exact ⟨es_, by repeat (first | exact Drawn0.refl _ | apply Drawn0.step)⟩
  ·rw [if_neg c4] at H
   have c4b0 : decide (a1 ≤ a0) = false := decide_eq_false c4
   clear c4
   obtain rfl := Option.some.inj H
   go_enter Try.func29, Try.ntmps29
   go_wp2
   go_ret
   exact ⟨es_, by repeat (first | exact Drawn0.refl _ | apply Drawn0.step)⟩

set_option maxHeartbeats 8000000 in
set_option maxRecDepth 100000 in
theorem slices_Index_int_int.calls (k : Nat) (A0 : Option Addr) (c0 : Nat) (l0 : List Int) (a1 : Int) (r : Int) (w : World) (hr0 : Kd.C (Kd.int .i64) w A0 l0.length l0) (hc0 : l0.length ≤ c0) (h : slices_Index_int_int.f k l0 a1 = some r) :
   Calls Try.prog 31 #[.slice A0 l0.length c0, .int .i64 a1] w fun e w' => e = .returned (.int .i64 r) ∧ Drawn0 w w' := by
  have HR0 := Aside0.mk hr0
  have HC0 := Aside0.mk hc0
  clear hr0 hc0
  have H : (slices_Index_int_int.l0 k l0 a1 (l0.length : Int) 0) = some r := h
  clear h
  have H' := Aside0.mk H
  clear H
  go_enter Try.func31, Try.ntmps31
  go_wp2
  go_loopg [8] k (fun kq v8 w' => ∃ (x8_1 : Int), v8 = .int .i64 x8_1 ∧ Aside0 (slices_Index_int_int.l0 kq l0 a1 (l0.length : Int) x8_1 = some r) ∧ Aside0 (kq ≤ k) ∧ Drawn0 w w')
  case atStart => exact ⟨(0), es_, H', ⟨Nat.le_refl _⟩, by repeat (first | exact Drawn0.refl _ | apply Drawn0.step)⟩
  case round =>
   clear H'
   try clear p2
   obtain ⟨x8_1, rfl, HA, HK1, ⟨m1, rfl⟩⟩ := hrel
   cases gk with
   | zero => exact absurd HA.out (by simp [slices_Index_int_int.l0])
   | succ k1 =>
    have H := HA.out
    clear HA
    simp only [slices_Index_int_int.l0] at H
    by_cases c3 : x8_1 < (l0.length : Int)
    ·rw [if_pos c3] at H
     have c3b0 : decide (x8_1 < (l0.length : Int)) = true := decide_eq_true c3
     clear c3
     by_cases c4 : 0 ≤ x8_1
     ·rw [if_pos c4] at H
      have c4b0 : decide (0 ≤ x8_1) = true := decide_eq_true c4
      clear c4
      by_cases c5 : x8_1 < (l0.length : Int)
      ·rw [if_pos c5] at H
       have c5b0 : decide (x8_1 < (l0.length : Int)) = true := decide_eq_true c5
       clear c5
       by_cases c6 : a1 = (rd l0 x8_1)
       ·rw [if_pos c6] at H
        have c6b0 : (a1 == (rd l0 x8_1)) = true := beq_iff_eq.mpr c6
        have c6b1 : (a1 != (rd l0 x8_1)) = false := bne_eq_false_iff_eq.mpr c6
        clear c6
        obtain rfl := Option.some.inj H
        have p117 : 0 ≤ (x8_1 : Int) := of_decide_eq_true as_
        have q117 : x8_1 < (l0.length : Int) := of_decide_eq_true as_
        obtain ⟨ad117, e117, hx117_0⟩ := Kd.at_int HR0.out x8_1 p117 q117
        cases e117
        replace p117 := eq_true p117
        replace q117 := eq_true q117
        go_wp2
        go_ret
        exact ⟨es_, by repeat (first | exact Drawn0.refl _ | apply Drawn0.step)⟩
       ·rw [if_neg c6] at H
        have c6b0 : (a1 == (rd l0 x8_1)) = false := beq_eq_false_iff_ne.mpr c6
        have c6b1 : (a1 != (rd l0 x8_1)) = true := bne_iff_ne.mpr c6
        have H' := Aside0.mk H
        clear H
        have p117 : 0 ≤ (x8_1 : Int) := of_decide_eq_true as_
        have q117 : x8_1 < (l0.length : Int) := of_decide_eq_true as_
        obtain ⟨ad117, e117, hx117_0⟩ := Kd.at_int HR0.out x8_1 p117 q117
        cases e117
        replace p117 := eq_true p117
        replace q117 := eq_true q117
        go_wp2
        go_roundg k1
        case measure => have := HK1.out; omega
        case rel => exact ⟨(wrap64 (x8_1 + 1)), es_, H', ⟨by have := HK1.out; omega⟩, by repeat (first | exact Drawn0.refl _ | apply Drawn0.step)⟩
      ·rw [if_neg c5] at H
       exact absurd H (by simp)
     ·rw [if_neg c4] at H
      exact absurd H (by simp)
    ·rw [if_neg c3] at H
     have c3b0 : decide (x8_1 < (l0.length : Int)) = false := decide_eq_false c3
     clear c3
     obtain rfl := Option.some.inj H
     go_wp2
     go_ret
     exact ⟨es_, by repeat (first | exact Drawn0.refl _ | apply Drawn0.step)⟩

end Go.Proofs.Ytbdonoeellmeoaa.Pr
