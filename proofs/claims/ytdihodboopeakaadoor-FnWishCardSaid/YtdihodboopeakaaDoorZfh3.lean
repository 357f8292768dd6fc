-- Joined and pruned by wip/tools/prune.py out of this session's own texts (Pr0, Prd1, Pr7, Pr8, Pr10, Odd, Gwd, Prd2, Prd3)
import Derived.Test.YtdihodboopeakaaDoorZfh2
import Derived.Test.YtdihodboopeakaaDoorProg
import Derived.Below
import Derived.Deep.Draws
import Derived.Deep.AppendLies
import Derived.Maps.AppendAt
import Derived.OwnWalk
import Derived.Laws.BytesArg
import Derived.Laws.MakeOwn
import Derived.Laws.OwnMore
import Derived.Deep.OwnRows
import Derived.Tactics
import Derived.Lib.ConvBytes
import Derived.Laws.Slices
import Derived.WalkKit
import Derived.KernelRfl
import Derived.RowKit3
import Derived.Deep.LoopGhost
import Derived.Deep.QuietTactic
import Derived.BigQuiet
import Derived.WideLaws
import Derived.Deep.DeepCutAuto
import Derived.Deep.CutBlock
import Derived.Deep.RegionHeld3
import Derived.Laws.Rows
import Derived.Lib.AppendStr
import Derived.ArgAppend
import Derived.Laws.IdiomCopy
import Derived.OrdersHeld
import Derived.Laws.BitsLemmas
import Derived.RowKit
import Derived.Lib.RuneCount
import GoSem.Core.Utf8
-- Written by this session's own print (wip/tools/mkmp.py) out of the translation. Lean checks it.
namespace Go.Proofs.YtdihodboopeakaaDoor.Pr
open Go.RowKit Go.Proofs.YtdihodboopeakaaDoorW.PrintWords Go.Proofs.YtdihodboopeakaaDoorW.PrintLast Go.Proofs.YtdihodboopeakaaDoorW.PrintMore
attribute [local go_sem] max2_int min2_int max_two min_two max_three min_three max_four min_four   -- for this text's walks alone
set_option linter.unusedVariables false
set_option linter.unusedSimpArgs false



def errW : Option Int → Value
  | none => .nilIface
  | some c => .iface 0 (.int .i64 c)
theorem errW_none : errW none = .nilIface := rfl
theorem errW_some (c : Int) : errW (some c) = .iface 0 (.int .i64 c) := rfl

theorem info9 : (Tryd.prog.info? 9).map (fun i => (i.zero, i.size, i.bytes)) = some (some (.string ⟨#[]⟩), 1, 16) := by kernel_rfl
-- the values' own types
def rd_L4 (xs : List (List ByteArray)) (i : Int) : (List ByteArray) := xs.getD i.toNat ([] : List ByteArray)
theorem at_L4 {w : World} {A : Option Addr} {n : Nat} {xs : List (List ByteArray)} (h : Kd.C (Kd.slice 9 Kd.string) w A n xs) (i : Int) (h0 : 0 ≤ i) (h1 : i < n) : ∃ ad A0 c0, A = some ad ∧ w.cell? (ad.add i.toNat) = some (.slice A0 (rd_L4 xs i).length c0) ∧ (rd_L4 xs i).length ≤ c0 ∧ Kd.string.C w A0 (rd_L4 xs i).length (rd_L4 xs i) := by
  obtain ⟨ad, c, e, _, hK, hc0⟩ := Kd.C_get h ([] : List ByteArray) i h0 h1
  have hc : ∀ j u, c[j]? = some u → w.cell? (ad.add (i.toNat * 1 + j)) = some u := hc0
  obtain ⟨A0, c0, rfl, l0, g0⟩ := hK
  exact ⟨ad, A0, c0, e, by have hq := hc 0 _ rfl; rwa [Nat.mul_one, Nat.add_zero] at hq, l0, g0⟩

end Go.Proofs.YtdihodboopeakaaDoor.Pr
-- Written by this session's own print (wip/tools/mkmp.py) out of the translation. Lean checks it.
namespace Go.Proofs.YtdihodboopeakaaDoor.Pr
open Go.RowKit Go.Proofs.YtdihodboopeakaaDoorW.PrintWords Go.Proofs.YtdihodboopeakaaDoorW.PrintLast Go.Proofs.YtdihodboopeakaaDoorW.PrintMore
attribute [local go_sem] max2_int min2_int max_two min_two max_three min_three max_four min_four   -- for this text's walks alone
set_option linter.unusedVariables false
set_option linter.unusedSimpArgs false

/-! ### laws_szStringS: function 47 -/
/-! ### laws_szBoolS: function 48 -/
/-! ### laws_szIntS: function 86 -/
/-! ### laws_szIntSS: function 49 -/
/-! ### laws_szBoard: function 12 -/
/-! ### laws_szWish: function 13 -/
/-! ### laws_toStringS: function 52 -/
/-! ### laws_toBoolS: function 53 -/
/-! ### laws_toIntS: function 37 -/
/-! ### laws_toIntSS: function 54 -/
/-! ### laws_toBoard: function 15 -/
/-! ### laws_toWish: function 16 -/
/-! ### laws_eqIntS: function 18 -/
/-! ### laws_eqStringS: function 57 -/
/-! ### laws_eqBoolS: function 58 -/
/-! ### laws_eqIntSS: function 59 -/
/-! ### laws_eqBoard: function 19 -/
/-! ### laws_eqWish: function 20 -/
/-! ### spec_l22Rune: function 91 -/
mutual
def spec_l22Rune.j3 : Nat → ByteArray → Int → Int → Int → Int → Option (Int)
  | 0, _, _, _, _, _ => none
  | k + 1, x0, x1, x6, x7, x8 => spec_l22Rune.l0 k x0 x1 x6 x7 x8 1
def spec_l22Rune.l0 : Nat → ByteArray → Int → Int → Int → Int → Int → Option (Int)
  | 0, _, _, _, _, _, _ => none
  | k + 1, x0, x1, x6, x7, x8, x9 => if x9 < x6 then (if (wrap64 (x1 + x9)) ≥ (x0.size : Int) then (some 0) else (if 0 ≤ (wrap64 (x1 + x9)) then (if (wrap64 (x1 + x9)) < (x0.size : Int) then (if (wrap64 (bt x0 (wrap64 (x1 + x9)))) < x7 then (some 0) else (if (wrap64 (bt x0 (wrap64 (x1 + x9)))) > x8 then (some 0) else (spec_l22Rune.l0 k x0 x1 x6 128 191 (wrap64 (x9 + 1))))) else (none)) else (none))) else (some x6)
def spec_l22Rune.j0 : Nat → ByteArray → Int → Int → Int → Int → Bool → Option (Int)
  | 0, _, _, _, _, _, _ => none
  | k + 1, x0, x1, x5, x7, x8, x18 => if x18 = true then (spec_l22Rune.j3 k x0 x1 2 x7 x8) else (if x5 ≥ 224 then (spec_l22Rune.j1 k x0 x1 x5 x7 x8 (decide (x5 ≤ 239))) else (spec_l22Rune.j1 k x0 x1 x5 x7 x8 false))
def spec_l22Rune.j1 : Nat → ByteArray → Int → Int → Int → Int → Bool → Option (Int)
  | 0, _, _, _, _, _, _ => none
  | k + 1, x0, x1, x5, x7, x8, x25 => if x25 = true then (if x5 = 224 then (if x5 = 237 then (spec_l22Rune.j3 k x0 x1 3 160 159) else (spec_l22Rune.j3 k x0 x1 3 160 x8)) else (if x5 = 237 then (spec_l22Rune.j3 k x0 x1 3 x7 159) else (spec_l22Rune.j3 k x0 x1 3 x7 x8))) else (if x5 ≥ 240 then (spec_l22Rune.j2 k x0 x1 x5 x7 x8 (decide (x5 ≤ 244))) else (spec_l22Rune.j2 k x0 x1 x5 x7 x8 false))
def spec_l22Rune.j2 : Nat → ByteArray → Int → Int → Int → Int → Bool → Option (Int)
  | 0, _, _, _, _, _, _ => none
  | k + 1, x0, x1, x5, x7, x8, x36 => if x36 = true then (if x5 = 240 then (if x5 = 244 then (spec_l22Rune.j3 k x0 x1 4 144 143) else (spec_l22Rune.j3 k x0 x1 4 144 x8)) else (if x5 = 244 then (spec_l22Rune.j3 k x0 x1 4 x7 143) else (spec_l22Rune.j3 k x0 x1 4 x7 x8))) else (some 0)
end
def spec_l22Rune.f (k : Nat) (a0 : ByteArray) (a1 : Int) : Option (Int) := if 0 ≤ a1 then (if a1 < (a0.size : Int) then (if (wrap64 (bt a0 a1)) < 128 then (some 1) else (if (wrap64 (bt a0 a1)) ≥ 194 then (spec_l22Rune.j0 k a0 a1 (wrap64 (bt a0 a1)) 128 191 (decide ((wrap64 (bt a0 a1)) ≤ 223))) else (spec_l22Rune.j0 k a0 a1 (wrap64 (bt a0 a1)) 128 191 false))) else (none)) else (none)
/-! ### spec_l22Letter: function 92 -/
def spec_l22Letter.f (a0 : Int) : Option (Bool) := if a0 ≥ 97 then (if a0 ≤ 122 then (some true) else (if a0 ≥ 65 then (some (decide (a0 ≤ 90))) else (some false))) else (if a0 ≥ 65 then (some (decide (a0 ≤ 90))) else (some false))

/-! ### spec_l22Odd: function 67 -/
def spec_l22Odd.l0 : Nat → ByteArray → Int → Int → Option (Int × Int)
  | 0, _, _, _ => none
  | k + 1, x0, x4, x5 => if x5 < (x0.size : Int) then ((spec_l22Rune.f k x0 x5).bind fun t173 => (if t173 = 0 then (some (x5, 0)) else (if t173 = 1 then (if 0 ≤ x5 then ((spec_l22Letter.f (bt x0 x5)).bind fun t174 => (if t174 = true then (spec_l22Odd.l0 k x0 (wrap64 (x4 + 1)) (wrap64 (x5 + t173))) else (some (x5, 0)))) else (none)) else (spec_l22Odd.l0 k x0 (wrap64 (x4 + 1)) (wrap64 (x5 + t173)))))) else (some ((-1), x4))
def spec_l22Odd.f (k : Nat) (a0 : ByteArray) : Option (Int × Int) := spec_l22Odd.l0 k a0 0 0
/-! ### spec_l22Name: function 64 -/
def spec_l22Name.f (k : Nat) (a0 : ByteArray) : Option (Bool) := (spec_l22Odd.f k a0).bind fun bt175 => (if bt175.1 < 0 then (if bt175.2 ≥ 1 then (some (decide (bt175.2 ≤ 12))) else (some false)) else (some false))
/-! ### spec_GoodBoard: function 27 -/
/-! ### spec_l22In: function 68 -/
def spec_l22In.l0 : Nat → ByteArray → List ByteArray → Int → Int → Option (Bool)
  | 0, _, _, _, _ => none
  | k + 1, x1, x7, x8, x9 => if x9 < x8 then (if 0 ≤ x9 then (if x9 < (x7.length : Int) then (if (rdOf ByteArray.empty x7 x9).toList = x1.toList then (some true) else (spec_l22In.l0 k x1 x7 x8 (wrap64 (x9 + 1)))) else (none)) else (none)) else (some false)
def spec_l22In.f (k : Nat) (l0 : List ByteArray) (a1 : ByteArray) : Option (Bool) := spec_l22In.l0 k a1 l0 (l0.length : Int) 0
/-! ### spec_l22Names: function 87 -/
def spec_l22Names.l0 : Nat → List ByteArray → List ByteArray → Int → Int → Option (Bool)
  | 0, _, _, _, _ => none
  | k + 1, x0, x8, x9, x10 => if x10 < x9 then (if 0 ≤ x10 then (if x10 < (x8.length : Int) then ((spec_l22Name.f k (rdOf ByteArray.empty x8 x10)).bind fun t186 => (if t186 = true then (if x10 ≤ (x0.length : Int) then ((spec_l22In.f k (x0.take (x10 : Int).toNat) (rdOf ByteArray.empty x8 x10)).bind fun t188 => (if t188 = true then (some false) else (spec_l22Names.l0 k x0 x8 x9 (wrap64 (x10 + 1))))) else (none)) else (some false))) else (none)) else (none)) else (some true)
def spec_l22Names.f (k : Nat) (l0 : List ByteArray) : Option (Bool) := if (l0.length : Int) > 6 then (some false) else (spec_l22Names.l0 k l0 l0 (l0.length : Int) 0)
/-! ### spec_l22Good: function 50 -/
def spec_l22Good.f (k : Nat) (l0_0 : List ByteArray) (l0_1 : List ByteArray) : Option (Bool) := (spec_l22Names.f k l0_0).bind fun t190 => (if t190 = true then ((spec_l22Names.f k l0_1).bind fun t191 => (some t191)) else (some false))
/-! ### spec_WishMet: function 36 -/
end Go.Proofs.YtdihodboopeakaaDoor.Pr
-- Written by this session's own print (wip/tools/mkmp.py) out of the translation. Lean checks it.
namespace Go.Proofs.YtdihodboopeakaaDoor.Pr
open Go.RowKit Go.Proofs.YtdihodboopeakaaDoorW.PrintWords Go.Proofs.YtdihodboopeakaaDoorW.PrintLast Go.Proofs.YtdihodboopeakaaDoorW.PrintMore
attribute [local go_sem] max2_int min2_int max_two min_two max_three min_three max_four min_four   -- for this text's walks alone
set_option linter.unusedVariables false
set_option linter.unusedSimpArgs false

set_option maxHeartbeats 8000000 in
set_option maxRecDepth 100000 in
theorem spec_l22Rune.calls (k : Nat) (a0 : ByteArray) (a1 : Int) (r : Int) (w : World) (h : spec_l22Rune.f k a0 a1 = some r) :
   Calls Tryd.prog 91 #[.string a0, .int .i64 a1] w fun e w' => e = .returned (.int .i64 r) ∧ Drawn0 w w' := by
  have H : (if 0 ≤ a1 then (if a1 < (a0.size : Int) then (if (wrap64 (bt a0 a1)) < 128 then (some 1) else (if (wrap64 (bt a0 a1)) ≥ 194 then (spec_l22Rune.j0 k a0 a1 (wrap64 (bt a0 a1)) 128 191 (decide ((wrap64 (bt a0 a1)) ≤ 223))) else (spec_l22Rune.j0 k a0 a1 (wrap64 (bt a0 a1)) 128 191 false))) else (none)) else (none)) = some r := h
  clear h
  by_cases c3 : 0 ≤ a1
  ·rw [if_pos c3] at H
   have c3b0 : decide (0 ≤ a1) = true := decide_eq_true c3
   clear c3
   by_cases c4 : a1 < (a0.size : Int)
   ·rw [if_pos c4] at H
    have c4b0 : decide (a1 < (a0.size : Int)) = true := decide_eq_true c4
    clear c4
    have HC6 := Aside0.mk H
    clear H
    have p5 : 0 ≤ (a1 : Int) := of_decide_eq_true as_
    have q5 : a1 < (a0.size : Int) := of_decide_eq_true as_
    have hx5 := bt_at a0 a1
    replace p5 := eq_true p5
    replace q5 := eq_true q5
    go_enter Tryd.func91, Tryd.ntmps91
    go_upto_block 0 with (fail)
    go_cut [6, 7, 8] (fun v6 v7 v8 wc => ∃ (kq : Nat) (x6_5 : Int) (x7_5 : Int) (x8_5 : Int), v6 = .int .i64 x6_5 ∧ v7 = .int .i64 x7_5 ∧ v8 = .int .i64 x8_5 ∧ Aside0 (spec_l22Rune.j3 kq a0 a1 x6_5 x7_5 x8_5 = some r) ∧ Aside0 (kq ≤ k) ∧ Drawn0 w wc)
    case first =>
     have H := HC6.out
     clear HC6
     by_cases c7 : (wrap64 (bt a0 a1)) < 128
     ·rw [if_pos c7] at H
      have c7b0 : decide ((wrap64 (bt a0 a1)) < 128) = true := decide_eq_true c7
      clear c7
      (first | rw [c7b0] | (simp only [i64_w, i32_w]; rw [c7b0]) | skip)
      obtain rfl := Option.some.inj H
      go_wp2
      go_ret
      exact ⟨es_, by repeat (first | exact Drawn0.refl _ | apply Drawn0.step)⟩
     ·rw [if_neg c7] at H
      have c7b0 : decide ((wrap64 (bt a0 a1)) < 128) = false := decide_eq_false c7
      clear c7
      (first | rw [c7b0] | (simp only [i64_w, i32_w]; rw [c7b0]) | skip)
      have HC8 := Aside0.mk H
      clear H
      go_upto_region 8 with (fail)
      go_cut [18] (fun v18 wc => ∃ (kq : Nat) (x18_7 : Bool), v18 = .bool x18_7 ∧ Aside0 (spec_l22Rune.j0 kq a0 a1 (wrap64 (bt a0 a1)) 128 191 x18_7 = some r) ∧ Aside0 (kq ≤ k) ∧ Drawn0 w wc)
      case first =>
       have H := HC8.out
       clear HC8
       by_cases c9 : (wrap64 (bt a0 a1)) ≥ 194
       ·rw [if_pos c9] at H
        have c9b0 : decide (194 ≤ (wrap64 (bt a0 a1))) = true := decide_eq_true c9
        clear c9
        (first | rw [c9b0] | (simp only [i64_w, i32_w]; rw [c9b0]) | skip)
        have H' := Aside0.mk H
        clear H
        go_wp2
        go_meet
        case rel => exact ⟨_, (decide ((wrap64 (bt a0 a1)) ≤ 223)), es_, H', ⟨by first | omega | exact Nat.le_refl _⟩, by repeat (first | exact Drawn0.refl _ | apply Drawn0.step)⟩
       ·rw [if_neg c9] at H
        have c9b0 : decide (194 ≤ (wrap64 (bt a0 a1))) = false := decide_eq_false c9
        clear c9
        (first | rw [c9b0] | (simp only [i64_w, i32_w]; rw [c9b0]) | skip)
        have H' := Aside0.mk H
        clear H
        go_wp2
        go_meet
        case rel => exact ⟨_, (false), es_, H', ⟨by first | omega | exact Nat.le_refl _⟩, by repeat (first | exact Drawn0.refl _ | apply Drawn0.step)⟩
      case rest =>
       clear HC8
       try clear p2
       try clear c3
       try clear c3b0
       try clear c4
       try clear c4b0
       try clear p5
       try clear q5
       try clear hx5
       try clear p6
       try clear c7
       try clear c7b0
       try clear c9
       try clear c9b0
       try clear p5
       try clear q5
       obtain ⟨kq, x18_7, rfl, HA, HJ7, ⟨mc7, rfl⟩⟩ := hcut
       cases kq with
       | zero => exact absurd HA.out (by simp [spec_l22Rune.j0])
       | succ kj7 =>
        have H := HA.out
        clear HA
        simp only [spec_l22Rune.j0] at H
        by_cases c10 : x18_7 = true
        ·subst c10
         rw [if_pos rfl] at H
         have H' := Aside0.mk H
         clear H
         go_wp2
         go_meet
         case rel => exact ⟨_, (2), (128), (191), es_, es_, es_, H', ⟨by have := HJ7.out; first | omega | exact Nat.le_refl _⟩, by repeat (first | exact Drawn0.refl _ | apply Drawn0.step)⟩
        ·replace c10 := Bool.eq_false_iff.mpr c10
         subst c10
         rw [if_neg (show ¬ (false = true) by decide)] at H
         have HC11 := Aside0.mk H
         clear H
         go_upto_region 10 with (fail)
         go_cut [25] (fun v25 wc => ∃ (kq : Nat) (x25_10 : Bool), v25 = .bool x25_10 ∧ Aside0 (spec_l22Rune.j1 kq a0 a1 (wrap64 (bt a0 a1)) 128 191 x25_10 = some r) ∧ Aside0 (kq ≤ kj7) ∧ Drawn0 w wc)
         case first =>
          have H := HC11.out
          clear HC11
          by_cases c12 : (wrap64 (bt a0 a1)) ≥ 224
          ·rw [if_pos c12] at H
           have c12b0 : decide (224 ≤ (wrap64 (bt a0 a1))) = true := decide_eq_true c12
           clear c12
           (first | rw [c12b0] | (simp only [i64_w, i32_w]; rw [c12b0]) | skip)
           have H' := Aside0.mk H
           clear H
           go_wp2
           go_meet
           case rel => exact ⟨_, (decide ((wrap64 (bt a0 a1)) ≤ 239)), es_, H', ⟨by have := HJ7.out; first | omega | exact Nat.le_refl _⟩, by repeat (first | exact Drawn0.refl _ | apply Drawn0.step)⟩
          ·rw [if_neg c12] at H
           have c12b0 : decide (224 ≤ (wrap64 (bt a0 a1))) = false := decide_eq_false c12
           clear c12
           (first | rw [c12b0] | (simp only [i64_w, i32_w]; rw [c12b0]) | skip)
           have H' := Aside0.mk H
           clear H
           go_wp2
           go_meet
           case rel => exact ⟨_, (false), es_, H', ⟨by have := HJ7.out; first | omega | exact Nat.le_refl _⟩, by repeat (first | exact Drawn0.refl _ | apply Drawn0.step)⟩
         case rest =>
          clear HC11
          try clear c1
          try clear p2
          try clear c3
          try clear c3b0
          try clear c4
          try clear c4b0
          try clear p5
          try clear q5
          try clear hx5
          try clear p6
          try clear c7
          try clear c7b0
          try clear c9
          try clear c9b0
          try clear c10
          try clear c12
          try clear c12b0
          try clear p2
          try clear p5
          try clear p6
          try clear q5
          obtain ⟨kq, x25_10, rfl, HA, HJ10, ⟨mc10, rfl⟩⟩ := hcut
          cases kq with
          | zero => exact absurd HA.out (by simp [spec_l22Rune.j1])
          | succ kj10 =>
           have H := HA.out
           clear HA
           simp only [spec_l22Rune.j1] at H
           by_cases c13 : x25_10 = true
           ·subst c13
            rw [if_pos rfl] at H
            by_cases c14 : (wrap64 (bt a0 a1)) = 224
            ·rw [if_pos c14] at H
             have c14b0 : ((wrap64 (bt a0 a1)) == 224) = true := beq_iff_eq.mpr c14
             have c14b1 : ((wrap64 (bt a0 a1)) != 224) = false := bne_eq_false_iff_eq.mpr c14
             clear c14
             by_cases c15 : (wrap64 (bt a0 a1)) = 237
             ·rw [if_pos c15] at H
              have c15b0 : ((wrap64 (bt a0 a1)) == 237) = true := beq_iff_eq.mpr c15
              have c15b1 : ((wrap64 (bt a0 a1)) != 237) = false := bne_eq_false_iff_eq.mpr c15
              clear c15
              have H' := Aside0.mk H
              clear H
              go_wp2
              go_meet
              case rel => exact ⟨_, (3), (160), (159), es_, es_, es_, H', ⟨by have := HJ7.out; have := HJ10.out; first | omega | exact Nat.le_refl _⟩, by repeat (first | exact Drawn0.refl _ | apply Drawn0.step)⟩
             ·rw [if_neg c15] at H
              have c15b0 : ((wrap64 (bt a0 a1)) == 237) = false := beq_eq_false_iff_ne.mpr c15
              have c15b1 : ((wrap64 (bt a0 a1)) != 237) = true := bne_iff_ne.mpr c15
              have H' := Aside0.mk H
              clear H
              go_wp2
              go_meet
              case rel => exact ⟨_, (3), (160), (191), es_, es_, es_, H', ⟨by have := HJ7.out; have := HJ10.out; first | omega | exact Nat.le_refl _⟩, by repeat (first | exact Drawn0.refl _ | apply Drawn0.step)⟩
            ·rw [if_neg c14] at H
             have c14b0 : ((wrap64 (bt a0 a1)) == 224) = false := beq_eq_false_iff_ne.mpr c14
             have c14b1 : ((wrap64 (bt a0 a1)) != 224) = true := bne_iff_ne.mpr c14
             by_cases c16 : (wrap64 (bt a0 a1)) = 237
             ·rw [if_pos c16] at H
              have c16b0 : ((wrap64 (bt a0 a1)) == 237) = true := beq_iff_eq.mpr c16
              have c16b1 : ((wrap64 (bt a0 a1)) != 237) = false := bne_eq_false_iff_eq.mpr c16
              clear c16
              have H' := Aside0.mk H
              clear H
              go_wp2
              go_meet
              case rel => exact ⟨_, (3), (128), (159), es_, es_, es_, H', ⟨by have := HJ7.out; have := HJ10.out; first | omega | exact Nat.le_refl _⟩, by repeat (first | exact Drawn0.refl _ | apply Drawn0.step)⟩
             ·rw [if_neg c16] at H
              have c16b0 : ((wrap64 (bt a0 a1)) == 237) = false := beq_eq_false_iff_ne.mpr c16
              have c16b1 : ((wrap64 (bt a0 a1)) != 237) = true := bne_iff_ne.mpr c16
              have H' := Aside0.mk H
              clear H
              go_wp2
              go_meet
              case rel => exact ⟨_, (3), (128), (191), es_, es_, es_, H', ⟨by have := HJ7.out; have := HJ10.out; first | omega | exact Nat.le_refl _⟩, by repeat (first | exact Drawn0.refl _ | apply Drawn0.step)⟩
           ·replace c13 := Bool.eq_false_iff.mpr c13
            subst c13
            rw [if_neg (show ¬ (false = true) by decide)] at H
            have HC17 := Aside0.mk H
            clear H
            go_upto_region 16 with (fail)
            go_cut [36] (fun v36 wc => ∃ (kq : Nat) (x36_16 : Bool), v36 = .bool x36_16 ∧ Aside0 (spec_l22Rune.j2 kq a0 a1 (wrap64 (bt a0 a1)) 128 191 x36_16 = some r) ∧ Aside0 (kq ≤ kj10) ∧ Drawn0 w wc)
            case first =>
             have H := HC17.out
             clear HC17
             by_cases c18 : (wrap64 (bt a0 a1)) ≥ 240
             ·rw [if_pos c18] at H
              have c18b0 : decide (240 ≤ (wrap64 (bt a0 a1))) = true := decide_eq_true c18
              clear c18
              (first | rw [c18b0] | (simp only [i64_w, i32_w]; rw [c18b0]) | skip)
              have H' := Aside0.mk H
              clear H
              go_wp2
              go_meet
              case rel => exact ⟨_, (decide ((wrap64 (bt a0 a1)) ≤ 244)), es_, H', ⟨by have := HJ7.out; have := HJ10.out; first | omega | exact Nat.le_refl _⟩, by repeat (first | exact Drawn0.refl _ | apply Drawn0.step)⟩
             ·rw [if_neg c18] at H
              have c18b0 : decide (240 ≤ (wrap64 (bt a0 a1))) = false := decide_eq_false c18
              clear c18
              (first | rw [c18b0] | (simp only [i64_w, i32_w]; rw [c18b0]) | skip)
              have H' := Aside0.mk H
              clear H
              go_wp2
              go_meet
              case rel => exact ⟨_, (false), es_, H', ⟨by have := HJ7.out; have := HJ10.out; first | omega | exact Nat.le_refl _⟩, by repeat (first | exact Drawn0.refl _ | apply Drawn0.step)⟩
            case rest =>
             clear HC17
             try clear c1
             try clear p2
             try clear c3
             try clear c3b0
             try clear c4
             try clear c4b0
             try clear p5
             try clear q5
             try clear hx5
             try clear p6
             try clear c7
             try clear c7b0
             try clear c9
             try clear c9b0
             try clear c10
             try clear c12
             try clear c12b0
             try clear c13
             try clear c14
             try clear c14b0
             try clear c14b1
             try clear c15
             try clear c15b0
             try clear c15b1
             try clear c16
             try clear c16b0
             try clear c16b1
             try clear c18
             try clear c18b0
             try clear p2
             try clear p5
             try clear p6
             try clear q5
             obtain ⟨kq, x36_16, rfl, HA, HJ16, ⟨mc16, rfl⟩⟩ := hcut
             cases kq with
             | zero => exact absurd HA.out (by simp [spec_l22Rune.j2])
             | succ kj16 =>
              have H := HA.out
              clear HA
              simp only [spec_l22Rune.j2] at H
              by_cases c19 : x36_16 = true
              ·subst c19
               rw [if_pos rfl] at H
               by_cases c20 : (wrap64 (bt a0 a1)) = 240
               ·rw [if_pos c20] at H
                have c20b0 : ((wrap64 (bt a0 a1)) == 240) = true := beq_iff_eq.mpr c20
                have c20b1 : ((wrap64 (bt a0 a1)) != 240) = false := bne_eq_false_iff_eq.mpr c20
                clear c20
                by_cases c21 : (wrap64 (bt a0 a1)) = 244
                ·rw [if_pos c21] at H
                 have c21b0 : ((wrap64 (bt a0 a1)) == 244) = true := beq_iff_eq.mpr c21
                 have c21b1 : ((wrap64 (bt a0 a1)) != 244) = false := bne_eq_false_iff_eq.mpr c21
                 clear c21
                 have H' := Aside0.mk H
                 clear H
                 go_wp2
                 go_meet
                 case rel => exact ⟨_, (4), (144), (143), es_, es_, es_, H', ⟨by have := HJ7.out; have := HJ10.out; have := HJ16.out; first | omega | exact Nat.le_refl _⟩, by repeat (first | exact Drawn0.refl _ | apply Drawn0.step)⟩
                ·rw [if_neg c21] at H
                 have c21b0 : ((wrap64 (bt a0 a1)) == 244) = false := beq_eq_false_iff_ne.mpr c21
                 have c21b1 : ((wrap64 (bt a0 a1)) != 244) = true := bne_iff_ne.mpr c21
                 have H' := Aside0.mk H
                 clear H
                 go_wp2
                 go_meet
                 case rel => exact ⟨_, (4), (144), (191), es_, es_, es_, H', ⟨by have := HJ7.out; have := HJ10.out; have := HJ16.out; first | omega | exact Nat.le_refl _⟩, by repeat (first | exact Drawn0.refl _ | apply Drawn0.step)⟩
               ·rw [if_neg c20] at H
                have c20b0 : ((wrap64 (bt a0 a1)) == 240) = false := beq_eq_false_iff_ne.mpr c20
                have c20b1 : ((wrap64 (bt a0 a1)) != 240) = true := bne_iff_ne.mpr c20
                by_cases c22 : (wrap64 (bt a0 a1)) = 244
                ·rw [if_pos c22] at H
                 have c22b0 : ((wrap64 (bt a0 a1)) == 244) = true := beq_iff_eq.mpr c22
                 have c22b1 : ((wrap64 (bt a0 a1)) != 244) = false := bne_eq_false_iff_eq.mpr c22
                 clear c22
                 have H' := Aside0.mk H
                 clear H
                 go_wp2
                 go_meet
                 case rel => exact ⟨_, (4), (128), (143), es_, es_, es_, H', ⟨by have := HJ7.out; have := HJ10.out; have := HJ16.out; first | omega | exact Nat.le_refl _⟩, by repeat (first | exact Drawn0.refl _ | apply Drawn0.step)⟩
                ·rw [if_neg c22] at H
                 have c22b0 : ((wrap64 (bt a0 a1)) == 244) = false := beq_eq_false_iff_ne.mpr c22
                 have c22b1 : ((wrap64 (bt a0 a1)) != 244) = true := bne_iff_ne.mpr c22
                 have H' := Aside0.mk H
                 clear H
                 go_wp2
                 go_meet
                 case rel => exact ⟨_, (4), (128), (191), es_, es_, es_, H', ⟨by have := HJ7.out; have := HJ10.out; have := HJ16.out; first | omega | exact Nat.le_refl _⟩, by repeat (first | exact Drawn0.refl _ | apply Drawn0.step)⟩
              ·replace c19 := Bool.eq_false_iff.mpr c19
               subst c19
               rw [if_neg (show ¬ (false = true) by decide)] at H
               obtain rfl := Option.some.inj H
               go_wp2
               go_ret
               exact ⟨es_, by repeat (first | exact Drawn0.refl _ | apply Drawn0.step)⟩
    case rest =>
     clear HC6
     try clear c1
     try clear c2
     try clear p2
     try clear c3
     try clear c3b0
     try clear c4
     try clear c4b0
     try clear p5
     try clear q5
     try clear hx5
     try clear p6
     try clear c7
     try clear c7b0
     try clear c9
     try clear c9b0
     try clear c10
     try clear c12
     try clear c12b0
     try clear c13
     try clear c14
     try clear c14b0
     try clear c14b1
     try clear c15
     try clear c15b0
     try clear c15b1
     try clear c16
     try clear c16b0
     try clear c16b1
     try clear c18
     try clear c18b0
     try clear c19
     try clear c20
     try clear c20b0
     try clear c20b1
     try clear c21
     try clear c21b0
     try clear c21b1
     try clear c22
     try clear c22b0
     try clear c22b1
     try clear p2
     try clear p5
     try clear p6
     try clear q5
     obtain ⟨kq, x6_5, x7_5, x8_5, rfl, rfl, rfl, HA, HJ5, ⟨mc5, rfl⟩⟩ := hcut
     cases kq with
     | zero => exact absurd HA.out (by simp [spec_l22Rune.j3])
     | succ kj5 =>
      have H := HA.out
      clear HA
      simp only [spec_l22Rune.j3] at H
      have H' := Aside0.mk H
      clear H
      go_wp2
      go_loopg [7, 8, 9] kj5 (fun kq v7 v8 v9 w' => ∃ (x7_2 : Int) (x8_2 : Int) (x9_2 : Int), v7 = .int .i64 x7_2 ∧ v8 = .int .i64 x8_2 ∧ v9 = .int .i64 x9_2 ∧ Aside0 (spec_l22Rune.l0 kq a0 a1 x6_5 x7_2 x8_2 x9_2 = some r) ∧ Aside0 (kq ≤ kj5) ∧ Drawn0 w w')
      case atStart => exact ⟨(x7_5), (x8_5), (1), es_, es_, es_, H', ⟨Nat.le_refl _⟩, by repeat (first | exact Drawn0.refl _ | apply Drawn0.step)⟩
      case round =>
       clear H'
       try clear c1
       try clear c2
       try clear p2
       try clear c3
       try clear c3b0
       try clear c4
       try clear c4b0
       try clear c5
       try clear p5
       try clear q5
       try clear hx5
       try clear p6
       try clear c7
       try clear c7b0
       try clear c9
       try clear c9b0
       try clear c10
       try clear c12
       try clear c12b0
       try clear c13
       try clear c14
       try clear c14b0
       try clear c14b1
       try clear c15
       try clear c15b0
       try clear c15b1
       try clear c16
       try clear c16b0
       try clear c16b1
       try clear c18
       try clear c18b0
       try clear c19
       try clear c20
       try clear c20b0
       try clear c20b1
       try clear c21
       try clear c21b0
       try clear c21b1
       try clear c22
       try clear c22b0
       try clear c22b1
       try clear p2
       try clear p5
       try clear p6
       try clear q5
       obtain ⟨x7_2, x8_2, x9_2, rfl, rfl, rfl, HA, HK2, ⟨m2, rfl⟩⟩ := hrel
       cases gk with
       | zero => exact absurd HA.out (by simp [spec_l22Rune.l0])
       | succ k2 =>
        have H := HA.out
        clear HA
        simp only [spec_l22Rune.l0] at H
        by_cases c23 : x9_2 < x6_5
        ·rw [if_pos c23] at H
         have c23b0 : decide (x9_2 < x6_5) = true := decide_eq_true c23
         clear c23
         by_cases c24 : (wrap64 (a1 + x9_2)) ≥ (a0.size : Int)
         ·rw [if_pos c24] at H
          have c24b0 : decide ((a0.size : Int) ≤ (wrap64 (a1 + x9_2))) = true := decide_eq_true c24
          clear c24
          obtain rfl := Option.some.inj H
          go_wp2
          go_ret
          exact ⟨es_, by repeat (first | exact Drawn0.refl _ | apply Drawn0.step)⟩
         ·rw [if_neg c24] at H
          have c24b0 : decide ((a0.size : Int) ≤ (wrap64 (a1 + x9_2))) = false := decide_eq_false c24
          clear c24
          obtain ⟨ji25, hji25⟩ : ∃ j_ : Int, (wrap64 (a1 + x9_2)) = j_ := ⟨_, rfl⟩
          replace H : (if 0 ≤ (ji25) then (if (ji25) < (a0.size : Int) then (if (wrap64 (bt a0 (ji25))) < x7_2 then (some 0) else (if (wrap64 (bt a0 (ji25))) > x8_2 then (some 0) else (spec_l22Rune.l0 k2 a0 a1 x6_5 128 191 (wrap64 (x9_2 + 1))))) else (none)) else (none)) = some r := by first | (rw [hji25] at H; exact H) | (simp only [hji25] at H ⊢; exact H)
          (try rw [hji25] at c24b0)
          have hji25w : (IntKind.i64.wrap (a1 + x9_2)) = ji25 := (i64_w _).trans hji25
          by_cases c26 : 0 ≤ (ji25)
          ·rw [if_pos c26] at H
           have c26b0 : decide (0 ≤ (ji25)) = true := decide_eq_true c26
           clear c26
           by_cases c27 : (ji25) < (a0.size : Int)
           ·rw [if_pos c27] at H
            have c27b0 : decide ((ji25) < (a0.size : Int)) = true := decide_eq_true c27
            clear c27
            by_cases c29 : (wrap64 (bt a0 (ji25))) < x7_2
            ·rw [if_pos c29] at H
             have c29b0 : decide ((wrap64 (bt a0 (ji25))) < x7_2) = true := decide_eq_true c29
             clear c29
             obtain rfl := Option.some.inj H
             have p28 : 0 ≤ ((ji25) : Int) := of_decide_eq_true as_
             have q28 : (ji25) < (a0.size : Int) := of_decide_eq_true as_
             have hx28 := bt_at a0 (ji25)
             replace p28 := eq_true p28
             replace q28 := eq_true q28
             go_wp2
             go_ret
             exact ⟨by first | rfl | (simp; done) | (simp only [← hji25] <;> (first | rfl | simp)) | (simp [*]; done), by repeat (first | exact Drawn0.refl _ | apply Drawn0.step)⟩
            ·rw [if_neg c29] at H
             have c29b0 : decide ((wrap64 (bt a0 (ji25))) < x7_2) = false := decide_eq_false c29
             clear c29
             by_cases c30 : (wrap64 (bt a0 (ji25))) > x8_2
             ·rw [if_pos c30] at H
              have c30b0 : decide (x8_2 < (wrap64 (bt a0 (ji25)))) = true := decide_eq_true c30
              clear c30
              obtain rfl := Option.some.inj H
              have p28 : 0 ≤ ((ji25) : Int) := of_decide_eq_true as_
              have q28 : (ji25) < (a0.size : Int) := of_decide_eq_true as_
              have hx28 := bt_at a0 (ji25)
              replace p28 := eq_true p28
              replace q28 := eq_true q28
              go_wp2
              go_ret
              exact ⟨by first | rfl | (simp; done) | (simp only [← hji25] <;> (first | rfl | simp)) | (simp [*]; done), by repeat (first | exact Drawn0.refl _ | apply Drawn0.step)⟩
             ·rw [if_neg c30] at H
              have c30b0 : decide (x8_2 < (wrap64 (bt a0 (ji25)))) = false := decide_eq_false c30
              clear c30
              have H' := Aside0.mk H
              clear H
              have p28 : 0 ≤ ((ji25) : Int) := of_decide_eq_true as_
              have q28 : (ji25) < (a0.size : Int) := of_decide_eq_true as_
              have hx28 := bt_at a0 (ji25)
              replace p28 := eq_true p28
              replace q28 := eq_true q28
              go_wp2
              go_roundg k2
              case measure => have := HJ5.out; have := HK2.out; omega
              case rel => exact ⟨(128), (191), (wrap64 (x9_2 + 1)), es_, es_, es_, H', ⟨by have := HJ5.out; have := HK2.out; omega⟩, by repeat (first | exact Drawn0.refl _ | apply Drawn0.step)⟩
           ·rw [if_neg c27] at H
            exact absurd H (by simp)
          ·rw [if_neg c26] at H
           exact absurd H (by simp)
        ·rw [if_neg c23] at H
         have c23b0 : decide (x9_2 < x6_5) = false := decide_eq_false c23
         clear c23
         obtain rfl := Option.some.inj H
         go_wp2
         go_ret
         exact ⟨es_, by repeat (first | exact Drawn0.refl _ | apply Drawn0.step)⟩
   ·rw [if_neg c4] at H
    exact absurd H (by simp)
  ·rw [if_neg c3] at H
   exact absurd H (by simp)

end Go.Proofs.YtdihodboopeakaaDoor.Pr
-- Written by this session's own print (wip/tools/mkmp.py) out of the translation. Lean checks it.
namespace Go.Proofs.YtdihodboopeakaaDoor.Pr
open Go.RowKit Go.Proofs.YtdihodboopeakaaDoorW.PrintWords Go.Proofs.YtdihodboopeakaaDoorW.PrintLast Go.Proofs.YtdihodboopeakaaDoorW.PrintMore
attribute [local go_sem] max2_int min2_int max_two min_two max_three min_three max_four min_four   -- for this text's walks alone
set_option linter.unusedVariables false
set_option linter.unusedSimpArgs false

set_option maxHeartbeats 8000000 in
set_option maxRecDepth 100000 in
theorem spec_l22Letter.calls (a0 : Int) (r : Bool) (w : World) (h : spec_l22Letter.f a0 = some r) :
   Calls Tryd.prog 92 #[.int .u8 a0] w fun e w' => e = .returned (.bool r) ∧ Drawn0 w w' := by
  have H : (if a0 ≥ 97 then (if a0 ≤ 122 then (some true) else (if a0 ≥ 65 then (some (decide (a0 ≤ 90))) else (some false))) else (if a0 ≥ 65 then (some (decide (a0 ≤ 90))) else (some false))) = some r := h
  clear h
  by_cases c2 : a0 ≥ 97
  ·rw [if_pos c2] at H
   have c2b0 : decide (97 ≤ a0) = true := decide_eq_true c2
   clear c2
   by_cases c3 : a0 ≤ 122
   ·rw [if_pos c3] at H
    have c3b0 : decide (a0 ≤ 122) = true := decide_eq_true c3
    clear c3
    obtain rfl := Option.some.inj H
    go_enter Tryd.func92, Tryd.ntmps92
    go_wp2
    go_ret
    exact ⟨es_, by repeat (first | exact Drawn0.refl _ | apply Drawn0.step)⟩
   ·rw [if_neg c3] at H
    have c3b0 : decide (a0 ≤ 122) = false := decide_eq_false c3
    clear c3
    by_cases c4 : a0 ≥ 65
    ·rw [if_pos c4] at H
     have c4b0 : decide (65 ≤ a0) = true := decide_eq_true c4
     clear c4
     obtain rfl := Option.some.inj H
     go_enter Tryd.func92, Tryd.ntmps92
     go_wp2
     go_ret
     exact ⟨es_, by repeat (first | exact Drawn0.refl _ | apply Drawn0.step)⟩
    ·rw [if_neg c4] at H
     have c4b0 : decide (65 ≤ a0) = false := decide_eq_false c4
     clear c4
     obtain rfl := Option.some.inj H
     go_enter Tryd.func92, Tryd.ntmps92
     go_wp2
     go_ret
     exact ⟨es_, by repeat (first | exact Drawn0.refl _ | apply Drawn0.step)⟩
  ·rw [if_neg c2] at H
   have c2b0 : decide (97 ≤ a0) = false := decide_eq_false c2
   clear c2
   by_cases c5 : a0 ≥ 65
   ·rw [if_pos c5] at H
    have c5b0 : decide (65 ≤ a0) = true := decide_eq_true c5
    clear c5
    obtain rfl := Option.some.inj H
    go_enter Tryd.func92, Tryd.ntmps92
    go_wp2
    go_ret
    exact ⟨es_, by repeat (first | exact Drawn0.refl _ | apply Drawn0.step)⟩
   ·rw [if_neg c5] at H
    have c5b0 : decide (65 ≤ a0) = false := decide_eq_false c5
    clear c5
    obtain rfl := Option.some.inj H
    go_enter Tryd.func92, Tryd.ntmps92
    go_wp2
    go_ret
    exact ⟨es_, by repeat (first | exact Drawn0.refl _ | apply Drawn0.step)⟩

set_option maxHeartbeats 8000000 in
set_option maxRecDepth 100000 in
theorem spec_l22Odd.calls (k : Nat) (a0 : ByteArray) (r1 : Int) (r2 : Int) (w : World) (h : spec_l22Odd.f k a0 = some (r1, r2)) :
   Calls Tryd.prog 67 #[.string a0] w fun e w' => e = .returned (.tuple #[.int .i64 r1, .int .i64 r2]) ∧ Drawn0 w w' := by
  have H : (spec_l22Odd.l0 k a0 0 0) = some (r1, r2) := h
  clear h
  have H' := Aside0.mk H
  clear H
  go_enter Tryd.func67, Tryd.ntmps67
  go_wp2
  go_loopg [4, 5] k (fun kq v4 v5 w' => ∃ (x4_1 : Int) (x5_1 : Int), v4 = .int .i64 x4_1 ∧ v5 = .int .i64 x5_1 ∧ Aside0 (spec_l22Odd.l0 kq a0 x4_1 x5_1 = some (r1, r2)) ∧ Aside0 (kq ≤ k) ∧ Drawn0 w w')
  case atStart => exact ⟨(0), (0), es_, es_, H', ⟨Nat.le_refl _⟩, by repeat (first | exact Drawn0.refl _ | apply Drawn0.step)⟩
  case round =>
   clear H'
   obtain ⟨x4_1, x5_1, rfl, rfl, HA, HK1, ⟨m1, rfl⟩⟩ := hrel
   cases gk with
   | zero => exact absurd HA.out (by simp [spec_l22Odd.l0])
   | succ k1 =>
    have H := HA.out
    clear HA
    simp only [spec_l22Odd.l0] at H
    by_cases c2 : x5_1 < (a0.size : Int)
    ·rw [if_pos c2] at H
     have c2b0 : decide (x5_1 < (a0.size : Int)) = true := decide_eq_true c2
     clear c2
     replace H := Option.bind_eq_some_iff.mp H
     obtain ⟨t173, A30, H⟩ := H
     replace H : (if t173 = 0 then (some (x5_1, 0)) else (if t173 = 1 then (if 0 ≤ x5_1 then ((spec_l22Letter.f (bt a0 x5_1)).bind fun t174 => (if t174 = true then (spec_l22Odd.l0 k1 a0 (wrap64 (x4_1 + 1)) (wrap64 (x5_1 + t173))) else (some (x5_1, 0)))) else (none)) else (spec_l22Odd.l0 k1 a0 (wrap64 (x4_1 + 1)) (wrap64 (x5_1 + t173))))) = some (r1, r2) := H
     have A3 := Aside0.mk A30
     clear A30
     by_cases c4 : t173 = 0
     ·rw [if_pos c4] at H
      have c4b0 : (t173 == 0) = true := beq_iff_eq.mpr c4
      have c4b1 : (t173 != 0) = false := bne_eq_false_iff_eq.mpr c4
      clear c4
      simp only [Option.some.injEq, Prod.mk.injEq] at H
      obtain ⟨rfl, rfl⟩ := H
      go_wp2_with (first | ((with_reducible refine gate_callee (f := 91) rfl ?_); refine goesL_ (some 13) rfl rfl Tryd.func91 (by kernel_rfl) rfl #[.string a0, .int .i64 x5_1] rfl ls_ ?_; (with_reducible refine (spec_l22Rune.calls k1 a0 x5_1 t173 _ A3.out).mono ?_); rintro e w' ⟨rfl, ⟨nd, rfl⟩⟩; refine ⟨_, rfl, ?_⟩))
      go_ret2
      exact ⟨es_, by repeat (first | exact Drawn0.refl _ | apply Drawn0.step)⟩
     ·rw [if_neg c4] at H
      have c4b0 : (t173 == 0) = false := beq_eq_false_iff_ne.mpr c4
      have c4b1 : (t173 != 0) = true := bne_iff_ne.mpr c4
      by_cases c5 : t173 = 1
      ·rw [if_pos c5] at H
       have c5b0 : (t173 == 1) = true := beq_iff_eq.mpr c5
       have c5b1 : (t173 != 1) = false := bne_eq_false_iff_eq.mpr c5
       clear c5
       by_cases c6 : 0 ≤ x5_1
       ·rw [if_pos c6] at H
        have c6b0 : decide (0 ≤ x5_1) = true := decide_eq_true c6
        clear c6
        replace H := Option.bind_eq_some_iff.mp H
        obtain ⟨t174, A80, H⟩ := H
        replace H : (if t174 = true then (spec_l22Odd.l0 k1 a0 (wrap64 (x4_1 + 1)) (wrap64 (x5_1 + t173))) else (some (x5_1, 0))) = some (r1, r2) := H
        have A8 := Aside0.mk A80
        clear A80
        by_cases c9 : t174 = true
        ·subst c9
         rw [if_pos rfl] at H
         have H' := Aside0.mk H
         clear H
         go_wp2_with (first | ((with_reducible refine gate_callee (f := 91) rfl ?_); refine goesL_ (some 13) rfl rfl Tryd.func91 (by kernel_rfl) rfl #[.string a0, .int .i64 x5_1] rfl ls_ ?_; (with_reducible refine (spec_l22Rune.calls k1 a0 x5_1 t173 _ A3.out).mono ?_); rintro e w' ⟨rfl, ⟨nd, rfl⟩⟩; refine ⟨_, rfl, ?_⟩; have p7 : 0 ≤ (x5_1 : Int) := of_decide_eq_true as_; have q7 : x5_1 < (a0.size : Int) := of_decide_eq_true as_; have hx7 := bt_at a0 x5_1; replace p7 := eq_true p7; replace q7 := eq_true q7) | (go_at_call 92; (with_reducible refine (spec_l22Letter.calls (bt a0 x5_1) true _ A8.out).mono ?_); rintro e w' ⟨rfl, ⟨nd, rfl⟩⟩))
         go_roundg k1
         case measure => have := HK1.out; omega
         case rel => exact ⟨(wrap64 (x4_1 + 1)), (wrap64 (x5_1 + t173)), es_, es_, H', ⟨by have := HK1.out; omega⟩, by repeat (first | exact Drawn0.refl _ | apply Drawn0.step)⟩
        ·replace c9 := Bool.eq_false_iff.mpr c9
         subst c9
         rw [if_neg (show ¬ (false = true) by decide)] at H
         simp only [Option.some.injEq, Prod.mk.injEq] at H
         obtain ⟨rfl, rfl⟩ := H
         go_wp2_with (first | ((with_reducible refine gate_callee (f := 91) rfl ?_); refine goesL_ (some 13) rfl rfl Tryd.func91 (by kernel_rfl) rfl #[.string a0, .int .i64 x5_1] rfl ls_ ?_; (with_reducible refine (spec_l22Rune.calls k1 a0 x5_1 t173 _ A3.out).mono ?_); rintro e w' ⟨rfl, ⟨nd, rfl⟩⟩; refine ⟨_, rfl, ?_⟩; have p7 : 0 ≤ (x5_1 : Int) := of_decide_eq_true as_; have q7 : x5_1 < (a0.size : Int) := of_decide_eq_true as_; have hx7 := bt_at a0 x5_1; replace p7 := eq_true p7; replace q7 := eq_true q7) | (go_at_call 92; (with_reducible refine (spec_l22Letter.calls (bt a0 x5_1) false _ A8.out).mono ?_); rintro e w' ⟨rfl, ⟨nd, rfl⟩⟩))
         go_ret2
         exact ⟨es_, by repeat (first | exact Drawn0.refl _ | apply Drawn0.step)⟩
       ·rw [if_neg c6] at H
        exact absurd H (by simp)
      ·rw [if_neg c5] at H
       have c5b0 : (t173 == 1) = false := beq_eq_false_iff_ne.mpr c5
       have c5b1 : (t173 != 1) = true := bne_iff_ne.mpr c5
       have H' := Aside0.mk H
       clear H
       go_wp2_with (first | ((with_reducible refine gate_callee (f := 91) rfl ?_); refine goesL_ (some 13) rfl rfl Tryd.func91 (by kernel_rfl) rfl #[.string a0, .int .i64 x5_1] rfl ls_ ?_; (with_reducible refine (spec_l22Rune.calls k1 a0 x5_1 t173 _ A3.out).mono ?_); rintro e w' ⟨rfl, ⟨nd, rfl⟩⟩; refine ⟨_, rfl, ?_⟩))
       go_roundg k1
       case measure => have := HK1.out; omega
       case rel => exact ⟨(wrap64 (x4_1 + 1)), (wrap64 (x5_1 + t173)), es_, es_, H', ⟨by have := HK1.out; omega⟩, by repeat (first | exact Drawn0.refl _ | apply Drawn0.step)⟩
    ·rw [if_neg c2] at H
     have c2b0 : decide (x5_1 < (a0.size : Int)) = false := decide_eq_false c2
     clear c2
     simp only [Option.some.injEq, Prod.mk.injEq] at H
     obtain ⟨rfl, rfl⟩ := H
     go_wp2
     go_ret2
     exact ⟨es_, by repeat (first | exact Drawn0.refl _ | apply Drawn0.step)⟩

set_option maxHeartbeats 8000000 in
set_option maxRecDepth 100000 in
theorem spec_l22Name.calls (k : Nat) (a0 : ByteArray) (r : Bool) (w : World) (h : spec_l22Name.f k a0 = some r) :
   Calls Tryd.prog 64 #[.string a0] w fun e w' => e = .returned (.bool r) ∧ Drawn0 w w' := by
  have H : ((spec_l22Odd.f k a0).bind fun bt175 => (if bt175.1 < 0 then (if bt175.2 ≥ 1 then (some (decide (bt175.2 ≤ 12))) else (some false)) else (some false))) = some r := h
  clear h
  replace H := Option.bind_eq_some_iff.mp H
  obtain ⟨⟨t175, t176⟩, A20, H⟩ := H
  replace H : (if t175 < 0 then (if t176 ≥ 1 then (some (decide (t176 ≤ 12))) else (some false)) else (some false)) = some r := H
  have A2 := Aside0.mk A20
  clear A20
  by_cases c3 : t175 < 0
  ·rw [if_pos c3] at H
   have c3b0 : decide (t175 < 0) = true := decide_eq_true c3
   clear c3
   by_cases c4 : t176 ≥ 1
   ·rw [if_pos c4] at H
    have c4b0 : decide (1 ≤ t176) = true := decide_eq_true c4
    clear c4
    obtain rfl := Option.some.inj H
    go_enter Tryd.func64, Tryd.ntmps64
    go_wp2_with (first | ((with_reducible refine gate_callee (f := 67) rfl ?_); refine goesL_ (some 7) rfl rfl Tryd.func67 (by kernel_rfl) rfl #[.string a0] rfl ls_ ?_; (with_reducible refine (spec_l22Odd.calls k a0 t175 t176 _ A2.out).mono ?_); rintro e w' ⟨rfl, ⟨nd, rfl⟩⟩; refine ⟨_, rfl, ?_⟩))
    go_ret
    exact ⟨es_, by repeat (first | exact Drawn0.refl _ | apply Drawn0.step)⟩
   ·rw [if_neg c4] at H
    have c4b0 : decide (1 ≤ t176) = false := decide_eq_false c4
    clear c4
    obtain rfl := Option.some.inj H
    go_enter Tryd.func64, Tryd.ntmps64
    go_wp2_with (first | ((with_reducible refine gate_callee (f := 67) rfl ?_); refine goesL_ (some 7) rfl rfl Tryd.func67 (by kernel_rfl) rfl #[.string a0] rfl ls_ ?_; (with_reducible refine (spec_l22Odd.calls k a0 t175 t176 _ A2.out).mono ?_); rintro e w' ⟨rfl, ⟨nd, rfl⟩⟩; refine ⟨_, rfl, ?_⟩))
    go_ret
    exact ⟨es_, by repeat (first | exact Drawn0.refl _ | apply Drawn0.step)⟩
  ·rw [if_neg c3] at H
   have c3b0 : decide (t175 < 0) = false := decide_eq_false c3
   clear c3
   obtain rfl := Option.some.inj H
   go_enter Tryd.func64, Tryd.ntmps64
   go_wp2_with (first | ((with_reducible refine gate_callee (f := 67) rfl ?_); refine goesL_ (some 7) rfl rfl Tryd.func67 (by kernel_rfl) rfl #[.string a0] rfl ls_ ?_; (with_reducible refine (spec_l22Odd.calls k a0 t175 t176 _ A2.out).mono ?_); rintro e w' ⟨rfl, ⟨nd, rfl⟩⟩; refine ⟨_, rfl, ?_⟩))
   go_ret
   exact ⟨es_, by repeat (first | exact Drawn0.refl _ | apply Drawn0.step)⟩

end Go.Proofs.YtdihodboopeakaaDoor.Pr
-- Written by this session's own print (wip/tools/mkmp.py) out of the translation. Lean checks it.
namespace Go.Proofs.YtdihodboopeakaaDoor.Pr
open Go.RowKit Go.Proofs.YtdihodboopeakaaDoorW.PrintWords Go.Proofs.YtdihodboopeakaaDoorW.PrintLast Go.Proofs.YtdihodboopeakaaDoorW.PrintMore
attribute [local go_sem] max2_int min2_int max_two min_two max_three min_three max_four min_four   -- for this text's walks alone
set_option linter.unusedVariables false
set_option linter.unusedSimpArgs false

set_option maxHeartbeats 8000000 in
set_option maxRecDepth 100000 in
theorem spec_l22In.calls (k : Nat) (A0 : Option Addr) (c0 : Nat) (l0 : List ByteArray) (a1 : ByteArray) (r : Bool) (w : World) (hr0 : Kd.C Kd.string w A0 l0.length l0) (hc0 : l0.length ≤ c0) (h : spec_l22In.f k l0 a1 = some r) :
   Calls Tryd.prog 68 #[.slice A0 l0.length c0, .string a1] w fun e w' => e = .returned (.bool r) ∧ Drawn0 w w' := by
  have HR0 := Aside0.mk hr0
  have HC0 := Aside0.mk hc0
  clear hr0 hc0
  have H : (spec_l22In.l0 k a1 l0 (l0.length : Int) 0) = some r := h
  clear h
  have H' := Aside0.mk H
  clear H
  go_enter Tryd.func68, Tryd.ntmps68
  go_wp2
  go_loopg [9] k (fun kq v9 w' => ∃ (x9_1 : Int), v9 = .int .i64 x9_1 ∧ Aside0 (spec_l22In.l0 kq a1 l0 (l0.length : Int) x9_1 = some r) ∧ Aside0 (kq ≤ k) ∧ Drawn0 w w')
  case atStart => exact ⟨(0), es_, H', ⟨Nat.le_refl _⟩, by repeat (first | exact Drawn0.refl _ | apply Drawn0.step)⟩
  case round =>
   clear H'
   try clear p2
   obtain ⟨x9_1, rfl, HA, HK1, ⟨m1, rfl⟩⟩ := hrel
   cases gk with
   | zero => exact absurd HA.out (by simp [spec_l22In.l0])
   | succ k1 =>
    have H := HA.out
    clear HA
    simp only [spec_l22In.l0] at H
    by_cases c3 : x9_1 < (l0.length : Int)
    ·rw [if_pos c3] at H
     have c3b0 : decide (x9_1 < (l0.length : Int)) = true := decide_eq_true c3
     clear c3
     by_cases c4 : 0 ≤ x9_1
     ·rw [if_pos c4] at H
      have c4b0 : decide (0 ≤ x9_1) = true := decide_eq_true c4
      clear c4
      by_cases c5 : x9_1 < (l0.length : Int)
      ·rw [if_pos c5] at H
       have c5b0 : decide (x9_1 < (l0.length : Int)) = true := decide_eq_true c5
       clear c5
       by_cases c6 : (rdOf ByteArray.empty l0 x9_1).toList = a1.toList
       ·rw [if_pos c6] at H
        have c6b0 : ((rdOf ByteArray.empty l0 x9_1).toList == a1.toList) = true := beq_iff_eq.mpr c6
        have c6b1 : ((rdOf ByteArray.empty l0 x9_1).toList != a1.toList) = false := bne_eq_false_iff_eq.mpr c6
        clear c6
        obtain rfl := Option.some.inj H
        have p184 : 0 ≤ (x9_1 : Int) := of_decide_eq_true as_
        have q184 : x9_1 < (l0.length : Int) := of_decide_eq_true as_
        obtain ⟨ad184, e184, hx184_0⟩ := Kd.at_string HR0.out x9_1 p184 q184
        cases e184
        replace p184 := eq_true p184
        replace q184 := eq_true q184
        go_wp2
        go_ret
        exact ⟨es_, by repeat (first | exact Drawn0.refl _ | apply Drawn0.step)⟩
       ·rw [if_neg c6] at H
        have c6b0 : ((rdOf ByteArray.empty l0 x9_1).toList == a1.toList) = false := beq_eq_false_iff_ne.mpr c6
        have c6b1 : ((rdOf ByteArray.empty l0 x9_1).toList != a1.toList) = true := bne_iff_ne.mpr c6
        have H' := Aside0.mk H
        clear H
        have p184 : 0 ≤ (x9_1 : Int) := of_decide_eq_true as_
        have q184 : x9_1 < (l0.length : Int) := of_decide_eq_true as_
        obtain ⟨ad184, e184, hx184_0⟩ := Kd.at_string HR0.out x9_1 p184 q184
        cases e184
        replace p184 := eq_true p184
        replace q184 := eq_true q184
        go_wp2
        go_roundg k1
        case measure => have := HK1.out; omega
        case rel => exact ⟨(wrap64 (x9_1 + 1)), es_, H', ⟨by have := HK1.out; omega⟩, by repeat (first | exact Drawn0.refl _ | apply Drawn0.step)⟩
      ·rw [if_neg c5] at H
       exact absurd H (by simp)
     ·rw [if_neg c4] at H
      exact absurd H (by simp)
    ·rw [if_neg c3] at H
     have c3b0 : decide (x9_1 < (l0.length : Int)) = false := decide_eq_false c3
     clear c3
     obtain rfl := Option.some.inj H
     go_wp2
     go_ret
     exact ⟨es_, by repeat (first | exact Drawn0.refl _ | apply Drawn0.step)⟩

set_option maxHeartbeats 8000000 in
set_option maxRecDepth 100000 in
theorem spec_l22Names.calls (k : Nat) (A0 : Option Addr) (c0 : Nat) (l0 : List ByteArray) (r : Bool) (w : World) (hr0 : Kd.C Kd.string w A0 l0.length l0) (hc0 : l0.length ≤ c0) (h : spec_l22Names.f k l0 = some r) :
   Calls Tryd.prog 87 #[.slice A0 l0.length c0] w fun e w' => e = .returned (.bool r) ∧ Drawn0 w w' := by
  have HR0 := Aside0.mk hr0
  have HC0 := Aside0.mk hc0
  clear hr0 hc0
  have H : (if (l0.length : Int) > 6 then (some false) else (spec_l22Names.l0 k l0 l0 (l0.length : Int) 0)) = some r := h
  clear h
  by_cases c2 : (l0.length : Int) > 6
  ·rw [if_pos c2] at H
   have c2b0 : decide (6 < (l0.length : Int)) = true := decide_eq_true c2
   have c2b1 : decide (6 < l0.length) = true := decide_eq_true (by omega)
   clear c2
   obtain rfl := Option.some.inj H
   go_enter Tryd.func87, Tryd.ntmps87
   go_wp2
   go_ret
   exact ⟨es_, by repeat (first | exact Drawn0.refl _ | apply Drawn0.step)⟩
  ·rw [if_neg c2] at H
   have c2b0 : decide (6 < (l0.length : Int)) = false := decide_eq_false c2
   have c2b1 : decide (6 < l0.length) = false := decide_eq_false (by omega)
   clear c2
   have H' := Aside0.mk H
   clear H
   go_enter Tryd.func87, Tryd.ntmps87
   go_wp2
   go_loopg [10] k (fun kq v10 w' => ∃ (x10_1 : Int), v10 = .int .i64 x10_1 ∧ Aside0 (spec_l22Names.l0 kq l0 l0 (l0.length : Int) x10_1 = some r) ∧ Aside0 (kq ≤ k) ∧ Drawn0 w w')
   case atStart => exact ⟨(0), es_, H', ⟨Nat.le_refl _⟩, by repeat (first | exact Drawn0.refl _ | apply Drawn0.step)⟩
   case round =>
    clear H'
    try clear c2
    try clear c2b0
    try clear c2b1
    try clear p2
    obtain ⟨x10_1, rfl, HA, HK1, ⟨m1, rfl⟩⟩ := hrel
    cases gk with
    | zero => exact absurd HA.out (by simp [spec_l22Names.l0])
    | succ k1 =>
     have H := HA.out
     clear HA
     simp only [spec_l22Names.l0] at H
     by_cases c3 : x10_1 < (l0.length : Int)
     ·rw [if_pos c3] at H
      have c3b0 : decide (x10_1 < (l0.length : Int)) = true := decide_eq_true c3
      clear c3
      by_cases c4 : 0 ≤ x10_1
      ·rw [if_pos c4] at H
       have c4b0 : decide (0 ≤ x10_1) = true := decide_eq_true c4
       clear c4
       by_cases c5 : x10_1 < (l0.length : Int)
       ·rw [if_pos c5] at H
        have c5b0 : decide (x10_1 < (l0.length : Int)) = true := decide_eq_true c5
        clear c5
        replace H := Option.bind_eq_some_iff.mp H
        obtain ⟨t186, A60, H⟩ := H
        replace H : (if t186 = true then (if x10_1 ≤ (l0.length : Int) then ((spec_l22In.f k1 (l0.take (x10_1 : Int).toNat) (rdOf ByteArray.empty l0 x10_1)).bind fun t188 => (if t188 = true then (some false) else (spec_l22Names.l0 k1 l0 l0 (l0.length : Int) (wrap64 (x10_1 + 1))))) else (none)) else (some false)) = some r := H
        have A6 := Aside0.mk A60
        clear A60
        by_cases c7 : t186 = true
        ·subst c7
         rw [if_pos rfl] at H
         have c8b0 := eq_true (of_decide_eq_true as_ : 0 ≤ x10_1)
         by_cases c9 : x10_1 ≤ (l0.length : Int)
         ·rw [if_pos c9] at H
          have c9b0 := eq_true c9
          have c9b1 : decide (x10_1 ≤ (l0.length : Int)) = true := decide_eq_true c9
          clear c9
          replace H := Option.bind_eq_some_iff.mp H
          obtain ⟨t188, A100, H⟩ := H
          replace H : (if t188 = true then (some false) else (spec_l22Names.l0 k1 l0 l0 (l0.length : Int) (wrap64 (x10_1 + 1)))) = some r := H
          have A10 := Aside0.mk A100
          clear A100
          by_cases c11 : t188 = true
          ·subst c11
           rw [if_pos rfl] at H
           obtain rfl := Option.some.inj H
           have p185 : 0 ≤ (x10_1 : Int) := of_decide_eq_true as_
           have q185 : x10_1 < (l0.length : Int) := of_decide_eq_true as_
           obtain ⟨ad185, e185, hx185_0⟩ := Kd.at_string HR0.out x10_1 p185 q185
           cases e185
           replace p185 := eq_true p185
           replace q185 := eq_true q185
           go_wp2_with (first | ((with_reducible refine gate_callee (f := 64) rfl ?_); refine goesL_ (some 16) rfl rfl Tryd.func64 (by kernel_rfl) rfl #[.string (rdOf ByteArray.empty l0 x10_1)] rfl ls_ ?_; (with_reducible refine (spec_l22Name.calls k1 (rdOf ByteArray.empty l0 x10_1) true _ A6.out).mono ?_); rintro e w' ⟨rfl, ⟨nd, rfl⟩⟩; refine ⟨_, rfl, ?_⟩; obtain ⟨i012, hi012, _, hsz12, _⟩ := info_parts info9; obtain ⟨hcut12, hA12, hC12⟩ := print_take_of (P := Tryd.prog) Value.string (⟨#[]⟩ : ByteArray) 22 9 .i64 Tryd.underlying22 hi012 hsz12 (some ad185) c0 l0 x10_1 (of_decide_eq_true as_) (of_decide_eq_true as_) HC0.out; have HR187 := Aside0.mk (Kd.C_of_reads (h1 := fun _ => rfl) (hA12 _ (Kd.reads_of_C HR0.out))); have HC187 := Aside0.mk hC12; clear hA12 hC12 hi012 hsz12) | (go_at_call 68; refine calls_of_args (args' := #[.slice (some ad185) (l0.take (x10_1 : Int).toNat).length c0, .string (rdOf ByteArray.empty l0 x10_1)]) (by first | (rw [show (l0.take (x10_1 : Int).toNat).length = x10_1.toNat from (by rw [List.length_take]; have h_ : (x10_1 : Int) ≤ (l0.length : Int) := of_decide_eq_true as_; omega)] <;> rfl) | rfl) ?_; (with_reducible refine (spec_l22In.calls k1 _ _ (l0.take (x10_1 : Int).toNat) (rdOf ByteArray.empty l0 x10_1) true _ ?side1 ?side2 A10.out).mono ?_); (case side1 => repeat (first | exact HR187.out | (with_reducible refine Kd.C_alloc ?_ _) | (with_reducible refine Kd.C_drewN ?_ _) | (with_reducible refine Kd.C_drew ?_))); (case side2 => exact HC187.out); rintro e w' ⟨rfl, ⟨nd, rfl⟩⟩))
           go_ret
           exact ⟨es_, by repeat (first | exact Drawn0.refl _ | apply Drawn0.step)⟩
          ·replace c11 := Bool.eq_false_iff.mpr c11
           subst c11
           rw [if_neg (show ¬ (false = true) by decide)] at H
           have H' := Aside0.mk H
           clear H
           have p185 : 0 ≤ (x10_1 : Int) := of_decide_eq_true as_
           have q185 : x10_1 < (l0.length : Int) := of_decide_eq_true as_
           obtain ⟨ad185, e185, hx185_0⟩ := Kd.at_string HR0.out x10_1 p185 q185
           cases e185
           replace p185 := eq_true p185
           replace q185 := eq_true q185
           go_wp2_with (first | ((with_reducible refine gate_callee (f := 64) rfl ?_); refine goesL_ (some 16) rfl rfl Tryd.func64 (by kernel_rfl) rfl #[.string (rdOf ByteArray.empty l0 x10_1)] rfl ls_ ?_; (with_reducible refine (spec_l22Name.calls k1 (rdOf ByteArray.empty l0 x10_1) true _ A6.out).mono ?_); rintro e w' ⟨rfl, ⟨nd, rfl⟩⟩; refine ⟨_, rfl, ?_⟩; obtain ⟨i013, hi013, _, hsz13, _⟩ := info_parts info9; obtain ⟨hcut13, hA13, hC13⟩ := print_take_of (P := Tryd.prog) Value.string (⟨#[]⟩ : ByteArray) 22 9 .i64 Tryd.underlying22 hi013 hsz13 (some ad185) c0 l0 x10_1 (of_decide_eq_true as_) (of_decide_eq_true as_) HC0.out; have HR187 := Aside0.mk (Kd.C_of_reads (h1 := fun _ => rfl) (hA13 _ (Kd.reads_of_C HR0.out))); have HC187 := Aside0.mk hC13; clear hA13 hC13 hi013 hsz13) | (go_at_call 68; refine calls_of_args (args' := #[.slice (some ad185) (l0.take (x10_1 : Int).toNat).length c0, .string (rdOf ByteArray.empty l0 x10_1)]) (by first | (rw [show (l0.take (x10_1 : Int).toNat).length = x10_1.toNat from (by rw [List.length_take]; have h_ : (x10_1 : Int) ≤ (l0.length : Int) := of_decide_eq_true as_; omega)] <;> rfl) | rfl) ?_; (with_reducible refine (spec_l22In.calls k1 _ _ (l0.take (x10_1 : Int).toNat) (rdOf ByteArray.empty l0 x10_1) false _ ?side1 ?side2 A10.out).mono ?_); (case side1 => repeat (first | exact HR187.out | (with_reducible refine Kd.C_alloc ?_ _) | (with_reducible refine Kd.C_drewN ?_ _) | (with_reducible refine Kd.C_drew ?_))); (case side2 => exact HC187.out); rintro e w' ⟨rfl, ⟨nd, rfl⟩⟩))
           go_roundg k1
           case measure => have := HK1.out; omega
           case rel => exact ⟨(wrap64 (x10_1 + 1)), es_, H', ⟨by have := HK1.out; omega⟩, by repeat (first | exact Drawn0.refl _ | apply Drawn0.step)⟩
         ·rw [if_neg c9] at H
          exact absurd H (by simp)
        ·replace c7 := Bool.eq_false_iff.mpr c7
         subst c7
         rw [if_neg (show ¬ (false = true) by decide)] at H
         obtain rfl := Option.some.inj H
         have p185 : 0 ≤ (x10_1 : Int) := of_decide_eq_true as_
         have q185 : x10_1 < (l0.length : Int) := of_decide_eq_true as_
         obtain ⟨ad185, e185, hx185_0⟩ := Kd.at_string HR0.out x10_1 p185 q185
         cases e185
         replace p185 := eq_true p185
         replace q185 := eq_true q185
         go_wp2_with (first | ((with_reducible refine gate_callee (f := 64) rfl ?_); refine goesL_ (some 16) rfl rfl Tryd.func64 (by kernel_rfl) rfl #[.string (rdOf ByteArray.empty l0 x10_1)] rfl ls_ ?_; (with_reducible refine (spec_l22Name.calls k1 (rdOf ByteArray.empty l0 x10_1) false _ A6.out).mono ?_); rintro e w' ⟨rfl, ⟨nd, rfl⟩⟩; refine ⟨_, rfl, ?_⟩))
         go_ret
         exact ⟨es_, by repeat (first | exact Drawn0.refl _ | apply Drawn0.step)⟩
       ·rw [if_neg c5] at H
        exact absurd H (by simp)
      ·rw [if_neg c4] at H
       exact absurd H (by simp)
     ·rw [if_neg c3] at H
      have c3b0 : decide (x10_1 < (l0.length : Int)) = false := decide_eq_false c3
      clear c3
      obtain rfl := Option.some.inj H
      go_wp2
      go_ret
      exact ⟨es_, by repeat (first | exact Drawn0.refl _ | apply Drawn0.step)⟩

set_option maxHeartbeats 8000000 in
set_option maxRecDepth 100000 in
theorem spec_l22Good.calls (k : Nat) (A0_0 : Option Addr) (c0_0 : Nat) (l0_0 : List ByteArray) (A0_1 : Option Addr) (c0_1 : Nat) (l0_1 : List ByteArray) (r : Bool) (w : World) (hr0_0 : Kd.C Kd.string w A0_0 l0_0.length l0_0) (hc0_0 : l0_0.length ≤ c0_0) (hr0_1 : Kd.C Kd.string w A0_1 l0_1.length l0_1) (hc0_1 : l0_1.length ≤ c0_1) (h : spec_l22Good.f k l0_0 l0_1 = some r) :
   Calls Tryd.prog 50 #[.agg #[.slice A0_0 l0_0.length c0_0, .slice A0_1 l0_1.length c0_1]] w fun e w' => e = .returned (.bool r) ∧ Below w.heap.size w w' := by
  have hu36 := Tryd.underlying36
  have HR0_0 := Aside0.mk hr0_0
  have HC0_0 := Aside0.mk hc0_0
  clear hr0_0 hc0_0
  have HR0_1 := Aside0.mk hr0_1
  have HC0_1 := Aside0.mk hc0_1
  clear hr0_1 hc0_1
  have HB := Aside0.mk (Below.refl w.heap.size w)
  have H : ((spec_l22Names.f k l0_0).bind fun t190 => (if t190 = true then ((spec_l22Names.f k l0_1).bind fun t191 => (some t191)) else (some false))) = some r := h
  clear h
  replace H := Option.bind_eq_some_iff.mp H
  obtain ⟨t190, A20, H⟩ := H
  replace H : (if t190 = true then ((spec_l22Names.f k l0_1).bind fun t191 => (some t191)) else (some false)) = some r := H
  have A2 := Aside0.mk A20
  clear A20
  by_cases c3 : t190 = true
  ·subst c3
   rw [if_pos rfl] at H
   replace H := Option.bind_eq_some_iff.mp H
   obtain ⟨t191, A40, H⟩ := H
   replace H : (some t191) = some r := H
   have A4 := Aside0.mk A40
   clear A40
   obtain rfl := Option.some.inj H
   go_enter Tryd.func50, Tryd.ntmps50
   go_wp2_with (first | ((with_reducible refine gate_dst (N := 1) rfl ?_); refine box_event ?hg (N := 1) ?hd (cs := #[.slice A0_0 l0_0.length c0_0, .slice A0_1 l0_1.length c0_1]) (t := 36) ?hr ?_; (case hd => rfl); (case hg => rfl); (case hr => first | (go_simp; done) | (go_simp; rfl)); intro gb189 hg w5 hbox hb; have n0_ := Aside0.mk (below_step hb_ hb); have n1_ := Aside0.mk (hbox); have n2_ : Aside0 (w.heap.size ≤ gb189) := gz_; have n3_ : Aside0 (w.heap.size ≤ gb189) := gz_; clear HB; have HB := n0_; have BK189 := n1_; have GW189 := n2_; have GE189 := n3_; clear n0_ n1_ n2_ n3_; clear hb hbox hg; have hcz6_0 : w5.cell? ⟨gb189, 0, none⟩ = some (.slice A0_0 l0_0.length c0_0) := (blk_cell BK189.out 0).trans rfl; have hcz6_1 : w5.cell? ⟨gb189, 1, none⟩ = some (.slice A0_1 l0_1.length c0_1) := (blk_cell BK189.out 1).trans rfl; have hfz6_0 := blk_frozen BK189.out 0; have hfz6_1 := blk_frozen BK189.out 1) | ((with_reducible refine gate_callee (f := 87) rfl ?_); refine goesL_ (some 5) rfl rfl Tryd.func87 (by kernel_rfl) rfl #[.slice A0_0 l0_0.length c0_0] rfl ls_ ?_; (with_reducible refine (spec_l22Names.calls k _ _ l0_0 true _ ?side1 ?side2 A2.out).mono ?_); (case side1 => exact cb_ HR0_0.out); (case side2 => exact HC0_0.out); rintro e w' ⟨rfl, ⟨nd, rfl⟩⟩; refine ⟨_, rfl, ?_⟩) | (go_at_call 87; (with_reducible refine (spec_l22Names.calls k _ _ l0_1 t191 _ ?side1 ?side2 A4.out).mono ?_); (case side1 => repeat (first | exact (Kd.C_below HR0_1.out hb_) | (with_reducible refine Kd.C_alloc ?_ _) | (with_reducible refine Kd.C_drewN ?_ _) | (with_reducible refine Kd.C_drew ?_))); (case side2 => exact HC0_1.out); rintro e w' ⟨rfl, ⟨nd, rfl⟩⟩))
   go_ret
   exact ⟨er_, hb_⟩
  ·replace c3 := Bool.eq_false_iff.mpr c3
   subst c3
   rw [if_neg (show ¬ (false = true) by decide)] at H
   obtain rfl := Option.some.inj H
   go_enter Tryd.func50, Tryd.ntmps50
   go_wp2_with (first | ((with_reducible refine gate_dst (N := 1) rfl ?_); refine box_event ?hg (N := 1) ?hd (cs := #[.slice A0_0 l0_0.length c0_0, .slice A0_1 l0_1.length c0_1]) (t := 36) ?hr ?_; (case hd => rfl); (case hg => rfl); (case hr => first | (go_simp; done) | (go_simp; rfl)); intro gb189 hg w7 hbox hb; have n0_ := Aside0.mk (below_step hb_ hb); have n1_ := Aside0.mk (hbox); have n2_ : Aside0 (w.heap.size ≤ gb189) := gz_; have n3_ : Aside0 (w.heap.size ≤ gb189) := gz_; clear HB; have HB := n0_; have BK189 := n1_; have GW189 := n2_; have GE189 := n3_; clear n0_ n1_ n2_ n3_; clear hb hbox hg; have hcz8_0 : w7.cell? ⟨gb189, 0, none⟩ = some (.slice A0_0 l0_0.length c0_0) := (blk_cell BK189.out 0).trans rfl; have hcz8_1 : w7.cell? ⟨gb189, 1, none⟩ = some (.slice A0_1 l0_1.length c0_1) := (blk_cell BK189.out 1).trans rfl; have hfz8_0 := blk_frozen BK189.out 0; have hfz8_1 := blk_frozen BK189.out 1) | ((with_reducible refine gate_callee (f := 87) rfl ?_); refine goesL_ (some 5) rfl rfl Tryd.func87 (by kernel_rfl) rfl #[.slice A0_0 l0_0.length c0_0] rfl ls_ ?_; (with_reducible refine (spec_l22Names.calls k _ _ l0_0 false _ ?side1 ?side2 A2.out).mono ?_); (case side1 => exact cb_ HR0_0.out); (case side2 => exact HC0_0.out); rintro e w' ⟨rfl, ⟨nd, rfl⟩⟩; refine ⟨_, rfl, ?_⟩))
   go_ret
   exact ⟨er_, hb_⟩

end Go.Proofs.YtdihodboopeakaaDoor.Pr
/- impl.oddRune and impl.goodName by hand: what they compute. -/
namespace Go.Proofs.YtdihodboopeakaaDoor.Pr
open Go.RowKit Go.Proofs.YtdihodboopeakaaDoorW.PrintWords
/-- A rune (with its width) that no name has. -/
def badRune (d : Nat × Nat) : Bool := decide ((d.1 = 65533 ∧ d.2 = 1) ∨ (d.1 < 128 ∧ ¬ ((97 ≤ d.1 ∧ d.1 ≤ 122) ∨ (65 ≤ d.1 ∧ d.1 ≤ 90))))
def oddFrom (s : ByteArray) : Nat → Nat → Int
  | 0, _ => -1
  | f + 1, pos => if pos < s.size then (if badRune (Utf8.decode s pos) = true then (pos : Int) else oddFrom s f (pos + (Utf8.decode s pos).2)) else -1
def oddOf (s : ByteArray) : Int := oddFrom s s.size 0
def impl_oddRune.f (s : ByteArray) : Option Int := if s.size ≤ 140737488355328 then some (oddOf s) else none
def impl_goodName.f (s : ByteArray) : Option Bool := if s.size ≤ 140737488355328 then some (decide (1 ≤ Lib.runeCount s ∧ Lib.runeCount s ≤ 12 ∧ oddOf s < 0)) else none
end Go.Proofs.YtdihodboopeakaaDoor.Pr
/- impl.goodWish by hand: what it computes. -/
namespace Go.Proofs.YtdihodboopeakaaDoor.Pr
open Go.RowKit Go.Proofs.YtdihodboopeakaaDoorW.PrintWords
def nameB (s : ByteArray) : Bool := decide (1 ≤ Lib.runeCount s ∧ Lib.runeCount s ≤ 12 ∧ oddOf s < 0)
def inB (l : List ByteArray) (s : ByteArray) : Bool := l.any fun x => decide (x.toList = s.toList)
def gwFrom (l : List ByteArray) : Nat → Bool
  | 0 => true
  | d + 1 => (nameB (l.getD (l.length - (d + 1)) ByteArray.empty) && !inB (l.take (l.length - (d + 1))) (l.getD (l.length - (d + 1)) ByteArray.empty)) && gwFrom l d
def gwB (l : List ByteArray) : Bool := decide (l.length ≤ 6) && gwFrom l l.length
def okT (l : List ByteArray) : Bool := decide (l.length ≤ 1048576) && l.all fun x => decide (x.size ≤ 1048576)
def impl_goodWish.f (l0 l1 : List ByteArray) : Option Bool := if okT l0 = true then (if okT l1 = true then some (gwB l0 && gwB l1) else none) else none
end Go.Proofs.YtdihodboopeakaaDoor.Pr
-- Written by this session's own print (wip/tools/mkmp.py) out of the translation. Lean checks it.
namespace Go.Proofs.YtdihodboopeakaaDoor.Pr
open Go.RowKit Go.Proofs.YtdihodboopeakaaDoorW.PrintWords Go.Proofs.YtdihodboopeakaaDoorW.PrintLast Go.Proofs.YtdihodboopeakaaDoorW.PrintMore
attribute [local go_sem] max2_int min2_int max_two min_two max_three min_three max_four min_four   -- for this text's walks alone
set_option linter.unusedVariables false
set_option linter.unusedSimpArgs false

/-! ### impl_GoodBoard: function 28 -/
/-! ### slices_Index_string_string: function 94 -/
def slices_Index_string_string.l0 : Nat → List ByteArray → ByteArray → Int → Int → Option (Int)
  | 0, _, _, _, _ => none
  | k + 1, x0, x1, x7, x8 => if x8 < x7 then (if 0 ≤ x8 then (if x8 < (x0.length : Int) then (if x1.toList = (rdOf ByteArray.empty x0 x8).toList then (some x8) else (slices_Index_string_string.l0 k x0 x1 x7 (wrap64 (x8 + 1)))) else (none)) else (none)) else (some (-1))
def slices_Index_string_string.f (k : Nat) (l0 : List ByteArray) (a1 : ByteArray) : Option (Int) := slices_Index_string_string.l0 k l0 a1 (l0.length : Int) 0
/-! ### slices_Contains_string_string: function 73 -/
def slices_Contains_string_string.f (k : Nat) (l0 : List ByteArray) (a1 : ByteArray) : Option (Bool) := (slices_Index_string_string.f k l0 a1).bind fun t215 => (some (decide (t215 ≥ 0)))
end Go.Proofs.YtdihodboopeakaaDoor.Pr
-- Written by this session's own print (wip/tools/mkmp.py) out of the translation. Lean checks it.
namespace Go.Proofs.YtdihodboopeakaaDoor.Pr
open Go.RowKit Go.Proofs.YtdihodboopeakaaDoorW.PrintWords Go.Proofs.YtdihodboopeakaaDoorW.PrintLast Go.Proofs.YtdihodboopeakaaDoorW.PrintMore
attribute [local go_sem] max2_int min2_int max_two min_two max_three min_three max_four min_four   -- for this text's walks alone
set_option linter.unusedVariables false
set_option linter.unusedSimpArgs false

/-! ### impl_Board_shuns: function 79 -/
/-! ### impl_Board_aims: function 63 -/
/-! ### impl_between: function 77 -/
/-! ### slices_Index_int_int: function 100 -/
/-! ### slices_Contains_int_int: function 78 -/
/-! ### impl_WishMet: function 38 -/
/-! ### laws_FnExactWishMet: function 8 -/
/-! ### spec_WriteWish: function 34 -/
mutual
def spec_WriteWish.l0 : Nat → ByteArray → List (List ByteArray) → Int → Int → Option (ByteArray × Bool)
  | 0, _, _, _, _ => none
  | k + 1, x4, x16, x17, x18 => if x18 < x17 then (if 0 ≤ x18 then (if x18 < (x16.length : Int) then (if ((rd_L4 x16 x18).length : Int) = 0 then (spec_WriteWish.l0 k x4 x16 x17 (wrap64 (x18 + 1))) else (if x4.toList = ([] : List UInt8) then (if x18 = 0 then (if x4.size + 5 ≤ 9223372036854775807 then (spec_WriteWish.l1 k (x4 ++ (⟨#[114, 101, 97, 99, 104]⟩ : ByteArray)) x16 x17 x18 (rd_L4 x16 x18) ((rd_L4 x16 x18).length : Int) 0) else (none)) else (if x4.size + 5 ≤ 9223372036854775807 then (spec_WriteWish.l1 k (x4 ++ (⟨#[97, 118, 111, 105, 100]⟩ : ByteArray)) x16 x17 x18 (rd_L4 x16 x18) ((rd_L4 x16 x18).length : Int) 0) else (none))) else (if x4.size + 1 ≤ 9223372036854775807 then (if x18 = 0 then (if (x4 ++ (⟨#[32]⟩ : ByteArray)).size + 5 ≤ 9223372036854775807 then (spec_WriteWish.l1 k ((x4 ++ (⟨#[32]⟩ : ByteArray)) ++ (⟨#[114, 101, 97, 99, 104]⟩ : ByteArray)) x16 x17 x18 (rd_L4 x16 x18) ((rd_L4 x16 x18).length : Int) 0) else (none)) else (if (x4 ++ (⟨#[32]⟩ : ByteArray)).size + 5 ≤ 9223372036854775807 then (spec_WriteWish.l1 k ((x4 ++ (⟨#[32]⟩ : ByteArray)) ++ (⟨#[97, 118, 111, 105, 100]⟩ : ByteArray)) x16 x17 x18 (rd_L4 x16 x18) ((rd_L4 x16 x18).length : Int) 0) else (none))) else (none)))) else (none)) else (none)) else (if (x4.size : Int) > 200 then (some ((⟨#[]⟩ : ByteArray), false)) else (some (x4, true)))
def spec_WriteWish.l1 : Nat → ByteArray → List (List ByteArray) → Int → Int → List ByteArray → Int → Int → Option (ByteArray × Bool)
  | 0, _, _, _, _, _, _, _ => none
  | k + 1, x4, x16, x17, x18, x36, x37, x38 => if x38 < x37 then (if 0 ≤ x38 then (if x38 < (x36.length : Int) then (if (rdOf ByteArray.empty x36 x38).toList = ([114, 101, 97, 99, 104] : List UInt8) then (some ((⟨#[]⟩ : ByteArray), false)) else (if (rdOf ByteArray.empty x36 x38).toList = ([97, 118, 111, 105, 100] : List UInt8) then (some ((⟨#[]⟩ : ByteArray), false)) else (if 1 + (rdOf ByteArray.empty x36 x38).size ≤ 9223372036854775807 then (if x4.size + ((⟨#[32]⟩ : ByteArray) ++ (rdOf ByteArray.empty x36 x38)).size ≤ 9223372036854775807 then (spec_WriteWish.l1 k (x4 ++ ((⟨#[32]⟩ : ByteArray) ++ (rdOf ByteArray.empty x36 x38))) x16 x17 x18 x36 x37 (wrap64 (x38 + 1))) else (none)) else (none)))) else (none)) else (none)) else (spec_WriteWish.l0 k x4 x16 x17 (wrap64 (x18 + 1)))
end
def spec_WriteWish.f (k : Nat) (l0_0 : List ByteArray) (l0_1 : List ByteArray) : Option (ByteArray × Bool) := (spec_l22Good.f k l0_0 l0_1).bind fun t307 => (if t307 = true then ((some (([l0_0, l0_1] : List (List ByteArray)) : List (List ByteArray))).bind fun y308 => (spec_WriteWish.l0 k (⟨#[]⟩ : ByteArray) y308 (y308.length : Int) 0)) else (some ((⟨#[]⟩ : ByteArray), false)))
/-! ### impl_isWord: function 71 -/
def impl_isWord.f (a0 : ByteArray) : Option (Bool) := if a0.toList = ([114, 101, 97, 99, 104] : List UInt8) then (some true) else (some (a0.toList == ([97, 118, 111, 105, 100] : List UInt8)))

end Go.Proofs.YtdihodboopeakaaDoor.Pr
