-- Written by this session's own print (wip/tools/mkmp.py) out of the translation. Lean checks it.
import Derived.Test.YtbdonoeellmeoaaDoorPr0
import Derived.Test.YtbdonoeellmeoaaDoorGbd
import Derived.Test.YtbdonoeellmeoaaDoorPrd1
import Derived.Test.YtbdonoeellmeoaaDoorPrd2
import Derived.Test.YtbdonoeellmeoaaDoorStd
namespace Go.Proofs.YtbdonoeellmeoaaDoor.Pr
open Go.RowKit Go.Proofs.YtbdonoeellmeoaaDoorW.PrintWords Go.Proofs.YtbdonoeellmeoaaDoorW.PrintLast Go.Proofs.YtbdonoeellmeoaaDoorW.PrintMore
attribute [local go_sem] max2_int min2_int max_two min_two max_three min_three max_four min_four   -- for this text's walks alone
set_option linter.unusedVariables false
set_option linter.unusedSimpArgs false

/-! ### impl_StuffBits: function 9 -/
def impl_StuffBits.f (a0 : ByteArray) : Option (ByteArray × Bool) := (impl_goodBits.f a0).bind fun t129 => (if t129 = true then ((impl_stuff.f a0).bind fun t130 => (some (t130, true))) else (some ((⟨#[]⟩ : ByteArray), false)))

/-! ### laws_FnExactStuffBits: function 4 -/
def laws_FnExactStuffBits.f (k : Nat) (a0 : ByteArray) : Option (Bool) := if (a0.size : Int) > 1048576 then (some true) else ((spec_StuffBits.f k a0).bind fun bt131 => ((impl_StuffBits.f a0).bind fun bt133 => (if bt133.1.toList = bt131.1.toList then (if (bt133.2 != bt131.2) = true then (some false) else (some true)) else (some false))))
theorem laws_FnExactStuffBits.mono : ∀ a0 k, LeO (laws_FnExactStuffBits.f k a0) (laws_FnExactStuffBits.f (k + 1) a0) := by
  intro a0 k
  unfold laws_FnExactStuffBits.f
  repeat' first | (with_reducible first | exact spec_StuffBits.mono _ _ | exact LeO.refl _ | exact LeO.none _ | refine LeO.ite ?_ ?_ | refine LeO.bind ?_ (fun _ => ?_)) | exact spec_StuffBits.mono _ _ | exact LeO.none _ | refine LeO.ite ?_ ?_ | refine LeO.bind ?_ (fun _ => ?_)

/-! ### spec_UnstuffBits: function 10 -/
def spec_UnstuffBits.l0 : Nat → ByteArray → List Int → Int → Int → Int → Option (ByteArray × Bool)
  | 0, _, _, _, _, _ => none
  | k + 1, x0, x4, x5, x6, x7 => if x7 < (x0.size : Int) then (if x5 = 5 then (if 0 ≤ x7 then (if (bt x0 x7) = x6 then (some ((⟨#[]⟩ : ByteArray), false)) else (spec_UnstuffBits.l0 k x0 x4 1 (bt x0 x7) (wrap64 (x7 + 1)))) else (none)) else (if 0 ≤ x7 then (if (bt x0 x7) = x6 then (if x4.length < 140737488355328 then (spec_UnstuffBits.l0 k x0 (x4 ++ [bt x0 x7]) (wrap64 (x5 + 1)) x6 (wrap64 (x7 + 1))) else (none)) else (if x4.length < 140737488355328 then (spec_UnstuffBits.l0 k x0 (x4 ++ [bt x0 x7]) 1 (bt x0 x7) (wrap64 (x7 + 1))) else (none))) else (none))) else (if x5 = 5 then (some ((⟨#[]⟩ : ByteArray), false)) else (some (strOfNums x4, true)))
def spec_UnstuffBits.f (k : Nat) (a0 : ByteArray) : Option (ByteArray × Bool) := (spec_l23Bits.f k a0).bind fun t135 => (if t135 = true then (if 0 ≤ (a0.size : Int) then (if ((a0.size : Int) : Int).toNat ≤ 281474976710656 then (spec_UnstuffBits.l0 k a0 ([]) 0 0 0) else (none)) else (none)) else (some ((⟨#[]⟩ : ByteArray), false)))
theorem spec_UnstuffBits.mono_l : ∀ k, (∀ y0 y1 y2 y3 y4, LeO (spec_UnstuffBits.l0 k y0 y1 y2 y3 y4) (spec_UnstuffBits.l0 (k + 1) y0 y1 y2 y3 y4))
  | 0 => fun _ _ _ _ _ r h => by simp [spec_UnstuffBits.l0] at h
  | k + 1 => by
    have ih0 := spec_UnstuffBits.mono_l k
    · intro y0 y1 y2 y3 y4
      unfold spec_UnstuffBits.l0
      repeat' first | (with_reducible first | exact ih0 _ _ _ _ _ | exact spec_l23Bits.mono _ _ | exact LeO.refl _ | exact LeO.none _ | refine LeO.ite ?_ ?_ | refine LeO.bind ?_ (fun _ => ?_)) | exact ih0 _ _ _ _ _ | exact spec_l23Bits.mono _ _ | exact LeO.none _ | refine LeO.ite ?_ ?_ | refine LeO.bind ?_ (fun _ => ?_)
theorem spec_UnstuffBits.mono : ∀ a0 k, LeO (spec_UnstuffBits.f k a0) (spec_UnstuffBits.f (k + 1) a0) := by
  intro a0 k
  have ih0 := spec_UnstuffBits.mono_l k
  unfold spec_UnstuffBits.f
  repeat' first | (with_reducible first | exact ih0 _ _ _ _ _ | exact spec_l23Bits.mono _ _ | exact LeO.refl _ | exact LeO.none _ | refine LeO.ite ?_ ?_ | refine LeO.bind ?_ (fun _ => ?_)) | exact ih0 _ _ _ _ _ | exact spec_l23Bits.mono _ _ | exact LeO.none _ | refine LeO.ite ?_ ?_ | refine LeO.bind ?_ (fun _ => ?_)

/-! ### impl_UnstuffBits: function 11 -/
def impl_UnstuffBits.l0 : Nat → ByteArray → List Int → Int → Int → Int → Option (ByteArray × Bool)
  | 0, _, _, _, _, _ => none
  | k + 1, x0, x4, x5, x6, x7 => if x7 < (x0.size : Int) then (if 0 ≤ x7 then (if x5 = 5 then (impl_UnstuffBits.l0 k x0 x4 1 (bt x0 x7) (wrap64 (x7 + 1))) else (if x5 > 0 then (if (bt x0 x7) = x6 then (if x4.length < 140737488355328 then (impl_UnstuffBits.l0 k x0 (x4 ++ [bt x0 x7]) (wrap64 (x5 + 1)) x6 (wrap64 (x7 + 1))) else (none)) else (if x4.length < 140737488355328 then (impl_UnstuffBits.l0 k x0 (x4 ++ [bt x0 x7]) 1 (bt x0 x7) (wrap64 (x7 + 1))) else (none))) else (if x4.length < 140737488355328 then (impl_UnstuffBits.l0 k x0 (x4 ++ [bt x0 x7]) 1 (bt x0 x7) (wrap64 (x7 + 1))) else (none)))) else (none)) else ((impl_stuff.f (strOfNums x4)).bind fun t146 => (if t146.toList = x0.toList then (some (strOfNums x4, true)) else (some ((⟨#[]⟩ : ByteArray), false))))
def impl_UnstuffBits.f (k : Nat) (a0 : ByteArray) : Option (ByteArray × Bool) := (impl_goodBits.f a0).bind fun t145 => (if t145 = true then (impl_UnstuffBits.l0 k a0 ([] : List Int) 0 0 0) else (some ((⟨#[]⟩ : ByteArray), false)))
theorem impl_UnstuffBits.mono_l : ∀ k, (∀ y0 y1 y2 y3 y4, LeO (impl_UnstuffBits.l0 k y0 y1 y2 y3 y4) (impl_UnstuffBits.l0 (k + 1) y0 y1 y2 y3 y4))
  | 0 => fun _ _ _ _ _ r h => by simp [impl_UnstuffBits.l0] at h
  | k + 1 => by
    have ih0 := impl_UnstuffBits.mono_l k
    · intro y0 y1 y2 y3 y4
      unfold impl_UnstuffBits.l0
      repeat' first | (with_reducible first | exact ih0 _ _ _ _ _ | exact LeO.refl _ | exact LeO.none _ | refine LeO.ite ?_ ?_ | refine LeO.bind ?_ (fun _ => ?_)) | exact ih0 _ _ _ _ _ | exact LeO.none _ | refine LeO.ite ?_ ?_ | refine LeO.bind ?_ (fun _ => ?_)
theorem impl_UnstuffBits.mono : ∀ a0 k, LeO (impl_UnstuffBits.f k a0) (impl_UnstuffBits.f (k + 1) a0) := by
  intro a0 k
  have ih0 := impl_UnstuffBits.mono_l k
  unfold impl_UnstuffBits.f
  repeat' first | (with_reducible first | exact ih0 _ _ _ _ _ | exact LeO.refl _ | exact LeO.none _ | refine LeO.ite ?_ ?_ | refine LeO.bind ?_ (fun _ => ?_)) | exact ih0 _ _ _ _ _ | exact LeO.none _ | refine LeO.ite ?_ ?_ | refine LeO.bind ?_ (fun _ => ?_)

/-! ### laws_FnExactUnstuffBits: function 5 -/
def laws_FnExactUnstuffBits.f (k : Nat) (a0 : ByteArray) : Option (Bool) := if (a0.size : Int) > 1048576 then (some true) else ((spec_UnstuffBits.f k a0).bind fun bt156 => ((impl_UnstuffBits.f k a0).bind fun bt158 => (if bt158.1.toList = bt156.1.toList then (if (bt158.2 != bt156.2) = true then (some false) else (some true)) else (some false))))
theorem laws_FnExactUnstuffBits.mono : ∀ a0 k, LeO (laws_FnExactUnstuffBits.f k a0) (laws_FnExactUnstuffBits.f (k + 1) a0) := by
  intro a0 k
  unfold laws_FnExactUnstuffBits.f
  repeat' first | (with_reducible first | exact impl_UnstuffBits.mono _ _ | exact spec_UnstuffBits.mono _ _ | exact LeO.refl _ | exact LeO.none _ | refine LeO.ite ?_ ?_ | refine LeO.bind ?_ (fun _ => ?_)) | exact impl_UnstuffBits.mono _ _ | exact spec_UnstuffBits.mono _ _ | exact LeO.none _ | refine LeO.ite ?_ ?_ | refine LeO.bind ?_ (fun _ => ?_)

end Go.Proofs.YtbdonoeellmeoaaDoor.Pr
