/-
Own text: RiccatiReal, in the program and in the reference.
-/
import Derived.Test.YtdcnlghcdmiciaaFw9
import Derived.Test.YtdcnlghcdmiciaaFsame
import Derived.Deep.LoopGhost
namespace Go.Proofs.Ytdcnlghcdmiciaa.Fl
open Go Ieee Go.RowKit Go.Proofs.YtdcnlghcdmiciaaW.PrintWords
set_option linter.unusedVariables false
set_option linter.unusedSimpArgs false
def ricS (a b q r : Nat) : Nat → Nat → Nat × Bool
  | 0, p => (p, true)
  | n + 1, p => if rndOk a b q r p then ricS a b q r n (rndR a b q r p) else (0, false)
def ricOk (a b q r : Nat) (n : Int) : Bool := costB a b q r && !decide (n < 0) && !decide (n > 40)
def ricV (a b q r : Nat) (n : Int) : Nat × Bool := if ricOk a b q r n then ricS a b q r n.toNat q else (0, false)
theorem ric_no {a b q r : Nat} {n : Int} (h : ricOk a b q r n = false) : ricV a b q r n = (0, false) := by unfold ricV; rw [h]; rfl
theorem ric_yes {a b q r : Nat} {n : Int} (h : ricOk a b q r n = true) : ricV a b q r n = ricS a b q r n.toNat q := by unfold ricV; rw [h]; rfl
theorem rnd_no {a b q r p n : Nat} (h : rndOk a b q r p = false) : ricS a b q r (n + 1) p = (0, false) := by rw [ricS, h]; rfl
theorem rnd_yes {a b q r p n : Nat} (h : rndOk a b q r p = true) : ricS a b q r (n + 1) p = ricS a b q r n (rndR a b q r p) := by rw [ricS, h]; rfl
theorem rndR_lt' (a b q r p : Nat) : rndR a b q r p < 18446744073709551616 := by
  unfold rndR
  split
  · exact plus_lt (fop_lt _ _ _)
  · decide
set_option maxHeartbeats 2000000 in
set_option maxRecDepth 100000 in
theorem spec_RiccatiReal (a b q r : Nat) (n : Int) (ha : a < 18446744073709551616) (hb : b < 18446744073709551616) (hq : q < 18446744073709551616) (hr : r < 18446744073709551616) (w : World) :
    Calls Try.prog 17 #[.float .f64 a, .float .f64 b, .float .f64 q, .float .f64 r, .int .i64 n] w fun e w' => e = .returned (.tuple #[.float .f64 (ricV a b q r n).1, .bool (ricV a b q r n).2]) ∧ ∃ n, w' = w.drewN n := by
  have HC := Aside0.mk (l15Reals a b q r ha hb hq hr)
  have HN := Aside0.mk (ric_no (a := a) (b := b) (q := q) (r := r) (n := n))
  have HY := Aside0.mk (ric_yes (a := a) (b := b) (q := q) (r := r) (n := n))
  have HO : Aside0 (ricOk a b q r n = (costB a b q r && !decide (n < 0) && !decide (n > 40))) := ⟨rfl⟩
  generalize ricOk a b q r n = ok at *
  generalize ricV a b q r n = R at *
  generalize costB a b q r = x1 at *
  clear ha hb hq hr
  cases x1
  case false =>
    have HN2 := Aside0.mk (HN.out HO.out)
    clear HN HY
    go_enter Try.func17, Try.ntmps17
    go_wp2_with (first | (go_at_call 34; refine (HC.out _).mono ?_; rintro e w' ⟨rfl, rfl⟩))
    go_ret2
    exact ⟨by rw [HN2.out]; rfl, 0, rfl⟩
  by_cases h1 : n < 0
  · have HN2 := Aside0.mk (HN.out (by rw [HO.out, decide_eq_true h1]; rfl))
    clear HN HY HO
    go_enter Try.func17, Try.ntmps17
    go_wp2_with (first | (go_at_call 34; refine (HC.out _).mono ?_; rintro e w' ⟨rfl, rfl⟩))
    go_ret2
    exact ⟨by rw [HN2.out]; rfl, 0, rfl⟩
  by_cases h2 : n > 40
  · have HN2 := Aside0.mk (HN.out (by rw [HO.out, decide_eq_false h1, decide_eq_true h2]; rfl))
    clear HN HY HO
    go_enter Try.func17, Try.ntmps17
    go_wp2_with (first | (go_at_call 34; refine (HC.out _).mono ?_; rintro e w' ⟨rfl, rfl⟩))
    go_ret2
    exact ⟨by rw [HN2.out]; rfl, 0, rfl⟩
  have HY2 := Aside0.mk (HY.out (by rw [HO.out, decide_eq_false h1, decide_eq_false h2]; rfl))
  clear HN HY HO
  obtain ⟨N, rfl⟩ : ∃ N : Nat, n = N := ⟨n.toNat, by omega⟩
  have HY3 : Aside0 (R = ricS a b q r N q) := HY2
  clear HY2
  go_enter Try.func17, Try.ntmps17
  go_wp2_with (first | (go_at_call 34; refine (HC.out _).mono ?_; rintro e w' ⟨rfl, rfl⟩))
  go_loopg [4, 12] N (fun g v4 v12 wr => ∃ (p m : Nat), v4 = .int .i64 (g : Int) ∧ v12 = .float .f64 p ∧ wr = w.drewN m ∧ Aside0 (R = ricS a b q r g p) ∧ Aside0 (g ≤ N))
  case atStart => exact ⟨q, 0, rfl, rfl, rfl, HY3, ⟨Nat.le_refl _⟩⟩
  case round =>
    clear HY3
    obtain ⟨p, m, rfl, rfl, rfl, HR, HG⟩ := hrel
    cases gk with
    | zero =>
      have HR2 : Aside0 (R = (p, true)) := HR
      go_wp2_with fail
      go_ret2
      exact ⟨by rw [HR2.out]; rfl, _, rfl⟩
    | succ k =>
      have hk : (0 : Int) < (k + 1 : Nat) := by omega
      have hk2 : ((k + 1 : Nat) : Int) ≤ 40 := by have := HG.out; omega
      have HX := Aside0.mk (l15Round a b q r p)
      have HN := Aside0.mk (rnd_no (a := a) (b := b) (q := q) (r := r) (p := p) (n := k))
      have HY := Aside0.mk (rnd_yes (a := a) (b := b) (q := q) (r := r) (p := p) (n := k))
      generalize rndOk a b q r p = ok at *
      cases ok
      · have HR2 := Aside0.mk (HR.out.trans (HN.out rfl))
        clear HN HY HR
        go_wp2_with (first | (go_at_call 44; refine (HX.out _).mono ?_; rintro e w' ⟨rfl, n2, rfl⟩))
        go_ret2
        exact ⟨by rw [HR2.out]; rfl, _, rfl⟩
      · have HR2 := Aside0.mk (HR.out.trans (HY.out rfl))
        clear HN HY HR
        generalize rndR a b q r p = p2 at *
        go_wp2_with (first | (go_at_call 44; refine (HX.out _).mono ?_; rintro e w' ⟨rfl, n2, rfl⟩))
        go_roundg k
        case measure => omega
        case rel => exact ⟨p2, _, by go_num, rfl, rfl, HR2, ⟨by have := HG.out; omega⟩⟩
end Go.Proofs.Ytdcnlghcdmiciaa.Fl
