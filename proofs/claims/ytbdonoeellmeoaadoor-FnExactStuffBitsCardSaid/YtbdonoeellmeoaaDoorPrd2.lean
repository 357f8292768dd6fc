-- Written by this session's own print (wip/tools/mkmp.py) out of the translation. Lean checks it.
import Derived.Test.YtbdonoeellmeoaaDoorPr0
import Derived.Test.YtbdonoeellmeoaaDoorGbd
import Derived.Test.YtbdonoeellmeoaaDoorPrd1
namespace Go.Proofs.YtbdonoeellmeoaaDoor.Pr
open Go.RowKit Go.Proofs.YtbdonoeellmeoaaDoorW.PrintWords Go.Proofs.YtbdonoeellmeoaaDoorW.PrintLast Go.Proofs.YtbdonoeellmeoaaDoorW.PrintMore
attribute [local go_sem] max2_int min2_int max_two min_two max_three min_three max_four min_four   -- for this text's walks alone
set_option linter.unusedVariables false
set_option linter.unusedSimpArgs false

/-! ### impl_crc15: function 15 -/
def impl_crc15.l0 : Nat → ByteArray → Int → Int → Int → Option (Int)
  | 0, _, _, _, _ => none
  | k + 1, x0, x3, x7, x8 => if x8 < x7 then (if 0 ≤ x8 then (if x8 < (x0.size : Int) then (if (Go.bits .xor .i64 (x3 / 16384) (((bt x0 x8) - 48) % 256)) = 1 then (impl_crc15.l0 k x0 (Go.bits .xor .i64 (Go.bits .and .i64 (wrap64 (x3 * 2)) 32767) 17817) x7 (wrap64 (x8 + 1))) else (impl_crc15.l0 k x0 (Go.bits .and .i64 (wrap64 (x3 * 2)) 32767) x7 (wrap64 (x8 + 1)))) else (none)) else (none)) else (some x3)
def impl_crc15.f (k : Nat) (a0 : ByteArray) : Option (Int) := impl_crc15.l0 k a0 0 (a0.size : Int) 0
theorem impl_crc15.mono_l : ∀ k, (∀ y0 y1 y2 y3, LeO (impl_crc15.l0 k y0 y1 y2 y3) (impl_crc15.l0 (k + 1) y0 y1 y2 y3))
  | 0 => fun _ _ _ _ r h => by simp [impl_crc15.l0] at h
  | k + 1 => by
    have ih0 := impl_crc15.mono_l k
    · intro y0 y1 y2 y3
      unfold impl_crc15.l0
      repeat' first | (with_reducible first | exact ih0 _ _ _ _ | exact LeO.refl _ | exact LeO.none _ | refine LeO.ite ?_ ?_ | refine LeO.bind ?_ (fun _ => ?_)) | exact ih0 _ _ _ _ | exact LeO.none _ | refine LeO.ite ?_ ?_ | refine LeO.bind ?_ (fun _ => ?_)
theorem impl_crc15.mono : ∀ a0 k, LeO (impl_crc15.f k a0) (impl_crc15.f (k + 1) a0) := by
  intro a0 k
  have ih0 := impl_crc15.mono_l k
  unfold impl_crc15.f
  repeat' first | (with_reducible first | exact ih0 _ _ _ _ | exact LeO.refl _ | exact LeO.none _ | refine LeO.ite ?_ ?_ | refine LeO.bind ?_ (fun _ => ?_)) | exact ih0 _ _ _ _ | exact LeO.none _ | refine LeO.ite ?_ ?_ | refine LeO.bind ?_ (fun _ => ?_)

/-! ### impl_Crc15: function 7 -/
def impl_Crc15.f (k : Nat) (a0 : ByteArray) : Option (Int × Bool) := (impl_goodBits.f a0).bind fun t106 => (if t106 = true then ((impl_crc15.f k a0).bind fun t107 => (some (t107, true))) else (some (0, false)))
theorem impl_Crc15.mono : ∀ a0 k, LeO (impl_Crc15.f k a0) (impl_Crc15.f (k + 1) a0) := by
  intro a0 k
  unfold impl_Crc15.f
  repeat' first | (with_reducible first | exact impl_crc15.mono _ _ | exact LeO.refl _ | exact LeO.none _ | refine LeO.ite ?_ ?_ | refine LeO.bind ?_ (fun _ => ?_)) | exact impl_crc15.mono _ _ | exact LeO.none _ | refine LeO.ite ?_ ?_ | refine LeO.bind ?_ (fun _ => ?_)

/-! ### laws_FnExactCrc15: function 3 -/
def laws_FnExactCrc15.f (k : Nat) (a0 : ByteArray) : Option (Bool) := if (a0.size : Int) > 1048576 then (some true) else ((spec_Crc15.f k a0).bind fun bt108 => ((impl_Crc15.f k a0).bind fun bt110 => (if bt110.1 = bt108.1 then (if (bt110.2 != bt108.2) = true then (some false) else (some true)) else (some false))))
theorem laws_FnExactCrc15.mono : ∀ a0 k, LeO (laws_FnExactCrc15.f k a0) (laws_FnExactCrc15.f (k + 1) a0) := by
  intro a0 k
  unfold laws_FnExactCrc15.f
  repeat' first | (with_reducible first | exact impl_Crc15.mono _ _ | exact spec_Crc15.mono _ _ | exact LeO.refl _ | exact LeO.none _ | refine LeO.ite ?_ ?_ | refine LeO.bind ?_ (fun _ => ?_)) | exact impl_Crc15.mono _ _ | exact spec_Crc15.mono _ _ | exact LeO.none _ | refine LeO.ite ?_ ?_ | refine LeO.bind ?_ (fun _ => ?_)

/-! ### spec_l23Stuff: function 16 -/
def spec_l23Stuff.l0 : Nat → ByteArray → List Int → Int → Int → Int → Option (ByteArray)
  | 0, _, _, _, _, _ => none
  | k + 1, x0, x3, x4, x5, x6 => if x6 < (x0.size : Int) then (if 0 ≤ x6 then (if (bt x0 x6) = x5 then (if x3.length < 140737488355328 then ((some (x3 ++ [bt x0 x6] : List Int)).bind fun y115 => (if (wrap64 (x4 + 1)) = 5 then (if y115.length < 140737488355328 then (spec_l23Stuff.l0 k x0 (y115 ++ [(97 - x5) % 256]) 1 ((97 - x5) % 256) (wrap64 (x6 + 1))) else (none)) else (spec_l23Stuff.l0 k x0 y115 (wrap64 (x4 + 1)) x5 (wrap64 (x6 + 1))))) else (none)) else (if x3.length < 140737488355328 then ((some (x3 ++ [bt x0 x6] : List Int)).bind fun y121 => (if 1 = 5 then (if y121.length < 140737488355328 then (spec_l23Stuff.l0 k x0 (y121 ++ [(97 - (bt x0 x6)) % 256]) 1 ((97 - (bt x0 x6)) % 256) (wrap64 (x6 + 1))) else (none)) else (spec_l23Stuff.l0 k x0 y121 1 (bt x0 x6) (wrap64 (x6 + 1))))) else (none))) else (none)) else (some (strOfNums x3))
def spec_l23Stuff.f (k : Nat) (a0 : ByteArray) : Option (ByteArray) := if 0 ≤ (wrap64 ((wrap64 ((a0.size : Int) + (wrap64 ((a0.size : Int) / 4)))) + 1)) then (if (wrap64 ((wrap64 ((a0.size : Int) + (wrap64 ((a0.size : Int) / 4)))) + 1) : Int).toNat ≤ 281474976710656 then (spec_l23Stuff.l0 k a0 ([]) 0 0 0) else (none)) else (none)
theorem spec_l23Stuff.mono_l : ∀ k, (∀ y0 y1 y2 y3 y4, LeO (spec_l23Stuff.l0 k y0 y1 y2 y3 y4) (spec_l23Stuff.l0 (k + 1) y0 y1 y2 y3 y4))
  | 0 => fun _ _ _ _ _ r h => by simp [spec_l23Stuff.l0] at h
  | k + 1 => by
    have ih0 := spec_l23Stuff.mono_l k
    · intro y0 y1 y2 y3 y4
      unfold spec_l23Stuff.l0
      repeat' first | (with_reducible first | exact ih0 _ _ _ _ _ | exact LeO.refl _ | exact LeO.none _ | refine LeO.ite ?_ ?_ | refine LeO.bind ?_ (fun _ => ?_)) | exact ih0 _ _ _ _ _ | exact LeO.none _ | refine LeO.ite ?_ ?_ | refine LeO.bind ?_ (fun _ => ?_)
theorem spec_l23Stuff.mono : ∀ a0 k, LeO (spec_l23Stuff.f k a0) (spec_l23Stuff.f (k + 1) a0) := by
  intro a0 k
  have ih0 := spec_l23Stuff.mono_l k
  unfold spec_l23Stuff.f
  repeat' first | (with_reducible first | exact ih0 _ _ _ _ _ | exact LeO.refl _ | exact LeO.none _ | refine LeO.ite ?_ ?_ | refine LeO.bind ?_ (fun _ => ?_)) | exact ih0 _ _ _ _ _ | exact LeO.none _ | refine LeO.ite ?_ ?_ | refine LeO.bind ?_ (fun _ => ?_)

/-! ### spec_StuffBits: function 8 -/
def spec_StuffBits.f (k : Nat) (a0 : ByteArray) : Option (ByteArray × Bool) := (spec_l23Bits.f k a0).bind fun t127 => (if t127 = true then ((spec_l23Stuff.f k a0).bind fun t128 => (some (t128, true))) else (some ((⟨#[]⟩ : ByteArray), false)))
theorem spec_StuffBits.mono : ∀ a0 k, LeO (spec_StuffBits.f k a0) (spec_StuffBits.f (k + 1) a0) := by
  intro a0 k
  unfold spec_StuffBits.f
  repeat' first | (with_reducible first | exact spec_l23Bits.mono _ _ | exact spec_l23Stuff.mono _ _ | exact LeO.refl _ | exact LeO.none _ | refine LeO.ite ?_ ?_ | refine LeO.bind ?_ (fun _ => ?_)) | exact spec_l23Bits.mono _ _ | exact spec_l23Stuff.mono _ _ | exact LeO.none _ | refine LeO.ite ?_ ?_ | refine LeO.bind ?_ (fun _ => ?_)

end Go.Proofs.YtbdonoeellmeoaaDoor.Pr
