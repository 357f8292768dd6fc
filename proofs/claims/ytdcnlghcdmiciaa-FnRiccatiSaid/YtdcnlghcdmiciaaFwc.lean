/-
Own text: the program's RiccatiReal, and the law.
-/
import Derived.Test.YtdcnlghcdmiciaaFwb
namespace Go.Proofs.Ytdcnlghcdmiciaa.Fl
open Go Ieee Go.RowKit Go.Proofs.YtdcnlghcdmiciaaW.PrintWords
set_option linter.unusedVariables false
set_option linter.unusedSimpArgs false
/-- A number with no nought with a sign. -/
def Neat (p : Nat) : Prop := finB p = true ∧ plusC p = p
theorem neat_good {x : Nat} (h : goodB x = true) : Neat x := by
  unfold goodB at h
  simp only [Bool.and_eq_true, Bool.not_eq_true'] at h
  refine ⟨h.1, ?_⟩
  cases hz : zeroB x with
  | false => exact plus_not hz
  | true =>
    rcases zero_cases hz with rfl | rfl
    · rfl
    · rw [hz] at h; exact absurd h.2 (by decide)
theorem nan_fin {x : Nat} (h : finB x = true) : nanB x = false := by
  cases hn : nanB x with
  | false => rfl
  | true => have := fin_of_nan hn; rw [h] at this; cases this
theorem like_neat {y p : Nat} (h : Like y p) (hp : Neat p) : y = p := by
  have hf : finB y = true := by rw [fin_like h, hp.1]
  rw [← ab_of (nan_fin hf), h.2, hp.2]
theorem rnd_neat {a b q r p : Nat} (h : rndOk a b q r p = true) : Neat (rndR a b q r p) ∧ rndR a b q r p = plusC (rndX a b q r p) := by
  have e : rndR a b q r p = plusC (rndX a b q r p) := by unfold rndR; rw [h]; rfl
  refine ⟨⟨?_, by rw [e, plus_plus]⟩, e⟩
  rw [e, fin_plus]
  unfold rndOk at h
  simp only [Bool.and_eq_true] at h
  exact h.1.2
set_option maxHeartbeats 2000000 in
set_option maxRecDepth 100000 in
theorem impl_RiccatiReal (a b q r : Nat) (n : Int) (ha : a < 18446744073709551616) (hb : b < 18446744073709551616) (hq : q < 18446744073709551616) (hr : r < 18446744073709551616) (w : World) :
    Calls Try.prog 18 #[.float .f64 a, .float .f64 b, .float .f64 q, .float .f64 r, .int .i64 n] w fun e w' => e = .returned (.tuple #[.float .f64 (ricV a b q r n).1, .bool (ricV a b q r n).2]) ∧ Below w.heap.size w w' := by
  have HC := Aside0.mk (costReals a b q r ha hb hq hr)
  have HN := Aside0.mk (ric_no (a := a) (b := b) (q := q) (r := r) (n := n))
  have HY := Aside0.mk (ric_yes (a := a) (b := b) (q := q) (r := r) (n := n))
  have HO : Aside0 (ricOk a b q r n = (costB a b q r && !decide (n < 0) && !decide (n > 40))) := ⟨rfl⟩
  have HG := Aside0.mk (cost_good (a := a) (b := b) (q := q) (r := r))
  have HLT : Aside0 (a < 18446744073709551616 ∧ b < 18446744073709551616 ∧ q < 18446744073709551616 ∧ r < 18446744073709551616) := ⟨ha, hb, hq, hr⟩
  generalize ricOk a b q r n = ok at *
  generalize ricV a b q r n = R at *
  generalize costB a b q r = x1 at *
  clear ha hb hq hr
  cases x1
  case false =>
    have HN2 := Aside0.mk (HN.out HO.out)
    clear HN HY HG
    go_enter Try.func18, Try.ntmps18
    go_wp2_with (first | (go_at_call 38; refine (HC.out _).mono ?_; rintro e w' ⟨rfl, rfl⟩))
    go_ret2
    exact ⟨by rw [HN2.out]; rfl, Below.refl _ _⟩
  by_cases h1 : n < 0
  · have HN2 := Aside0.mk (HN.out (by rw [HO.out, decide_eq_true h1]; rfl))
    clear HN HY HO HG
    go_enter Try.func18, Try.ntmps18
    go_wp2_with (first | (go_at_call 38; refine (HC.out _).mono ?_; rintro e w' ⟨rfl, rfl⟩))
    go_ret2
    exact ⟨by rw [HN2.out]; rfl, Below.refl _ _⟩
  by_cases h2 : n > 40
  · have HN2 := Aside0.mk (HN.out (by rw [HO.out, decide_eq_false h1, decide_eq_true h2]; rfl))
    clear HN HY HO HG
    go_enter Try.func18, Try.ntmps18
    go_wp2_with (first | (go_at_call 38; refine (HC.out _).mono ?_; rintro e w' ⟨rfl, rfl⟩))
    go_ret2
    exact ⟨by rw [HN2.out]; rfl, Below.refl _ _⟩
  have HY2 := Aside0.mk (HY.out (by rw [HO.out, decide_eq_false h1, decide_eq_false h2]; rfl))
  clear HN HY HO
  obtain ⟨N, rfl⟩ : ∃ N : Nat, n = N := ⟨n.toNat, by omega⟩
  have HY3 : Aside0 (R = ricS a b q r N q) := HY2
  clear HY2
  have g := HG.out rfl
  have LA := Aside0.mk (like_good HLT.out.1 g.1)
  have LB := Aside0.mk (like_good HLT.out.2.1 g.2.1)
  have LQ := Aside0.mk (like_good HLT.out.2.2.1 g.2.2.1)
  have LR := Aside0.mk (like_good HLT.out.2.2.2 g.2.2.2.1)
  have NQ := Aside0.mk (neat_good g.2.2.1)
  clear g HG
  go_enter Try.func18, Try.ntmps18
  go_wp2_with (first | (go_at_call 38; refine (HC.out _).mono ?_; rintro e w' ⟨rfl, rfl⟩))
  go_loopg [13, 30] N (fun g v13 v30 wr => ∃ (y p i : Nat) (fb : Bool), v13 = .float .f64 y ∧ v30 = .int .i64 (i : Int) ∧ Aside0 (i + g = N) ∧ Aside0 (Like y p) ∧ Aside0 (St wr w.heap.size fb) ∧ Aside0 (Below w.heap.size w wr) ∧ Aside0 (fb = false → Neat p ∧ R = ricS a b q r g p) ∧ Aside0 (fb = true → R = (0, false)))
  case atStart => exact ⟨q, q, 0, false, rfl, rfl, ⟨Nat.zero_add _⟩, LQ, ⟨blk_new _ _⟩, ⟨below_alloc (Below.refl _ _) _⟩, ⟨fun _ => ⟨NQ.out, HY3.out⟩⟩, ⟨fun h => by cases h⟩⟩
  case round =>
    clear HY3 NQ
    obtain ⟨y, p, i, fb, rfl, rfl, HI, LP, HS, HB, HF, HT⟩ := hrel
    cases gk with
    | zero =>
      have e : i = N := by have := HI.out; omega
      subst e
      cases fb
      · obtain ⟨hp, hR⟩ := HF.out rfl
        have HR2 : Aside0 (R = (p, true)) := ⟨hR⟩
        have HE := Aside0.mk (like_neat LP.out hp)
        clear hp hR HF HT
        go_wp2_with (go_at_call 42; refine (end_ _ _ _ _ (by exact HS.out)).mono ?_; rintro e w' ⟨rfl, rfl⟩)
        go_ret2
        exact ⟨by rw [HR2.out, HE.out]; rfl, HB.out⟩
      · have HR2 := Aside0.mk (HT.out rfl)
        clear HF HT
        go_wp2_with (go_at_call 42; refine (end_ _ _ _ _ (by exact HS.out)).mono ?_; rintro e w' ⟨rfl, rfl⟩)
        go_ret2
        exact ⟨by rw [HR2.out]; rfl, HB.out⟩
    | succ k =>
      have hi : i < N := by have := HI.out; omega
      have hi2 : (i : Int) ≤ 40 := by omega
      have HG : Aside0 ((k + 1) - 1 = k) := ⟨rfl⟩
      go_wp2_with (go_at_call 46; refine (roundL _ (by exact HS.out) LA.out LB.out LQ.out LR.out LP.out).mono ?_; rintro e w1 ⟨x1, t, rfl, l1, ht, s1, k1⟩; have L1 := Aside0.mk l1; have HTT := Aside0.mk ht; have S1 := Aside0.mk s1; have K1 := Aside0.mk (Kp.fresh HB.out (Nat.le_refl _) k1); clear l1 s1 k1 ht)
      go_roundg k
      case measure => omega
      case rel =>
        cases fb
        · obtain ⟨hp, hR⟩ := HF.out rfl
          cases ho : rndOk a b q r p
          · have hS := S1.out
            rw [ho] at hS
            exact ⟨x1, t, i + 1, true, rfl, by go_num, ⟨by have := HI.out; omega⟩, L1, ⟨hS⟩, K1, ⟨fun h => by cases h⟩, ⟨fun _ => hR.trans (rnd_no ho)⟩⟩
          · have hS := S1.out
            rw [ho] at hS
            have ht := HTT.out ho
            have hn := rnd_neat ho
            refine ⟨x1, rndR a b q r p, i + 1, false, rfl, by go_num, ⟨by have := HI.out; omega⟩, ⟨⟨L1.out.1, ?_⟩⟩, ⟨hS⟩, K1, ⟨fun _ => ⟨hn.1, hR.trans (rnd_yes ho)⟩⟩, ⟨fun h => by cases h⟩⟩
            rw [L1.out.2, ht, hn.2, plus_plus]
        · exact ⟨x1, t, i + 1, true, rfl, by go_num, ⟨by have := HI.out; omega⟩, L1, S1, K1, ⟨fun h => by cases h⟩, HT⟩
theorem ricS_lt (a b q r : Nat) : ∀ n p, p < 18446744073709551616 → (ricS a b q r n p).1 < 18446744073709551616
  | 0, p, h => h
  | n + 1, p, h => by
    rw [ricS]
    split
    · exact ricS_lt a b q r n _ (rndR_lt' _ _ _ _ _)
    · decide
theorem ricV_lt (a b q r : Nat) (n : Int) (hq : q < 18446744073709551616) : (ricV a b q r n).1 < 18446744073709551616 := by
  unfold ricV
  split
  · exact ricS_lt _ _ _ _ _ _ hq
  · decide
set_option maxHeartbeats 1000000 in
set_option maxRecDepth 100000 in
theorem law_RiccatiReal (a b q r : Nat) (n : Int) (ha : a < 18446744073709551616) (hb : b < 18446744073709551616) (hq : q < 18446744073709551616) (hr : r < 18446744073709551616) (hn : (Lit.int .i64 n).wf = true) (w : World) :
    Calls Try.prog 5 #[.float .f64 a, .float .f64 b, .float .f64 q, .float .f64 r, .int .i64 n] w fun e w' => e = .returned (.bool true) ∧ Below w.heap.size w w' := by
  have H1 := Aside0.mk (spec_RiccatiReal a b q r n ha hb hq hr)
  have H2 := Aside0.mk (impl_RiccatiReal a b q r n ha hb hq hr)
  have H3 := Aside0.mk (sameFloat (ricV a b q r n).1 (ricV_lt a b q r n hq))
  clear ha hb hq hr hn
  generalize (ricV a b q r n).1 = R at *
  generalize (ricV a b q r n).2 = B at *
  cases B <;> (
    go_enter Try.func5, Try.ntmps5
    go_wp2_with (first | (go_at_call 17; refine (H1.out _).mono ?_; rintro e w' ⟨rfl, m, rfl⟩) | (go_at_call 18; refine (H2.out _).mono ?_; rintro e w1 ⟨rfl, hb⟩; have K1 := Aside0.mk (below_step (pw_below_drewN (Below.refl w.heap.size w) m) hb); clear hb) | (go_at_call 14; refine (H3.out _).mono ?_; rintro e w' ⟨rfl, n2, rfl⟩))
    go_ret
    exact ⟨rfl, pw_below_drewN K1.out _⟩)
end Go.Proofs.Ytdcnlghcdmiciaa.Fl
