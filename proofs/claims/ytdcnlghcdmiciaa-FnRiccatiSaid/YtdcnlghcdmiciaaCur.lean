/-
Own text: the cursor that draws numbers out of a code, as a state of which no more is said than that it goes on.
-/
import Derived.Test.YtdcnlghcdmiciaaPureCur
import Derived.Test.YtdcnlghcdmiciaaPr1
import Derived.Test.YtdcnlghcdmiciaaPr2
namespace Go.Proofs.Ytdcnlghcdmiciaa.Fl
open Go Go.RowKit Go.Proofs.YtdcnlghcdmiciaaW.PrintWords Go.Proofs.Ytdcnlghcdmiciaa.Pr Go.Proofs.Ytdcnlghcdmiciaa.Pure Go.Proofs.Ytdcnlghcdmiciaa.EvKit
set_option linter.unusedVariables false
set_option linter.unusedSimpArgs false
theorem wide_ok {c : List Int} (hc : Pure.Code c) : ∀ (m : Nat) (x3 x4 a s : Int), x4 = 8 - (m : Int) → m ≤ 8 → 0 ≤ a → a + (m : Int) ≤ 4611686018427387100 → ∃ v a' s', spec_l1Cur_wide.l0 (m + 1) x3 x4 c a s = some (v, a', s') ∧ a ≤ a' ∧ a' ≤ a + m
  | 0, x3, x4, a, s, h, _, _, _ => ⟨x3, a, s, by rw [spec_l1Cur_wide.l0, if_neg (by omega)], by omega, by omega⟩
  | m + 1, x3, x4, a, s, h, hm, h0, h1 => by
    rw [spec_l1Cur_wide.l0, if_pos (by omega)]
    obtain ⟨b, s1, e1, _⟩ := next_ok hc a s h0 (by omega)
    rw [e1]
    simp only [Option.bind_some]
    rw [wrap64_id (x := x4 + 1) (by omega) (by omega)]
    obtain ⟨v, a', s', e2, h2, h3⟩ := wide_ok hc m (Go.bits .or .i64 (wrap64 (x3 * 256)) b) (x4 + 1) (a + 1) s1 (by omega) (by omega) (by omega) (by omega)
    exact ⟨v, a', s', e2, by omega, by omega⟩
theorem wideF_ok {c : List Int} (hc : Pure.Code c) (a s : Int) (h0 : 0 ≤ a) (h1 : a ≤ 4611686018427387000) : ∃ v a' s', spec_l1Cur_wide.f 9 c a s = some (v, a', s') ∧ a ≤ a' ∧ a' ≤ a + 8 := by
  obtain ⟨v, a', s', e, h2, h3⟩ := wide_ok hc 8 0 0 a s (by omega) (by omega) h0 (by omega)
  exact ⟨v, a', s', e, h2, h3⟩
theorem u64_nonneg (x : Int) : 0 ≤ IntKind.u64.wrap x := by
  rw [wrap_u64]
  omega
theorem neg_ok {c : List Int} (hc : Pure.Code c) (a s x : Int) (h0 : 0 ≤ a) (h1 : a ≤ 4611686018427387000) : ∃ v a' s', ((spec_l1Cur_one.f c a s 3).bind fun b => if b.1 = true then some (wrap64 (-x), b.2.1, b.2.2) else some (x, b.2.1, b.2.2)) = some (v, a', s') ∧ a ≤ a' ∧ a' ≤ a + 2 := by
  obtain ⟨b, a', s', e, h2, h3⟩ := one_ok hc a s 3 h0 h1
  rw [e]
  simp only [Option.bind_some]
  cases b
  · exact ⟨x, a', s', rfl, h2, h3⟩
  · exact ⟨wrap64 (-x), a', s', rfl, h2, h3⟩
theorem sized_ok {c : List Int} (hc : Pure.Code c) (a s : Int) (h0 : 0 ≤ a) (h1 : a ≤ 4611686018427386000) : ∃ v a' s', spec_l1Cur_sized.f 9 c a s = some (v, a', s') ∧ a ≤ a' ∧ a' ≤ a + 16 := by
  unfold spec_l1Cur_sized.f
  obtain ⟨v1, a1, s1, e1, l1, m1, _⟩ := pick_ok hc a s 5 h0 (by omega)
  rw [e1]
  simp only [Option.bind_some]
  obtain ⟨v2, a2, s2, e2, l2, m2, _⟩ := pick_ok hc a1 s1 8 (by omega) (by omega)
  rw [e2]
  simp only [Option.bind_some]
  by_cases c0 : v2 = 0
  · rw [if_pos c0]
    obtain ⟨v3, a3, s3, e3, l3, m3, _⟩ := pick_ok hc a2 s2 300 (by omega) (by omega)
    rw [e3]
    simp only [Option.bind_some]
    obtain ⟨v, a', s', e, l, m⟩ := neg_ok hc a3 s3 v3 (by omega) (by omega)
    exact ⟨v, a', s', e, by omega, by omega⟩
  rw [if_neg c0]
  by_cases c1 : v2 = 1
  · rw [if_pos c1]
    obtain ⟨v3, a3, s3, e3, l3, m3⟩ := wideF_ok hc a2 s2 (by omega) (by omega)
    rw [e3]
    simp only [Option.bind_some]
    obtain ⟨v4, a4, s4, e4, l4, m4, _⟩ := pick_ok hc a3 s3 64 (by omega) (by omega)
    rw [e4]
    simp only [Option.bind_some]
    rw [if_pos (u64_nonneg _)]
    obtain ⟨v, a', s', e, l, m⟩ := neg_ok hc a4 s4 (shr .i64 v3 (IntKind.u64.wrap v4)) (by omega) (by omega)
    exact ⟨v, a', s', e, by omega, by omega⟩
  rw [if_neg c1]
  by_cases c2 : v2 = 2
  · rw [if_pos c2]
    obtain ⟨v4, a4, s4, e4, l4, m4, _⟩ := pick_ok hc a2 s2 64 (by omega) (by omega)
    rw [e4]
    simp only [Option.bind_some]
    rw [if_pos (u64_nonneg _)]
    obtain ⟨v, a', s', e, l, m⟩ := neg_ok hc a4 s4 (shl .i64 1 (IntKind.u64.wrap v4)) (by omega) (by omega)
    exact ⟨v, a', s', e, by omega, by omega⟩
  rw [if_neg c2]
  by_cases c3 : v2 = 3
  · rw [if_pos c3]
    obtain ⟨v4, a4, s4, e4, l4, m4, _⟩ := pick_ok hc a2 s2 64 (by omega) (by omega)
    rw [e4]
    simp only [Option.bind_some]
    rw [if_pos (u64_nonneg _)]
    obtain ⟨v, a', s', e, l, m⟩ := neg_ok hc a4 s4 (wrap64 ((shl .i64 1 (IntKind.u64.wrap v4)) - 1)) (by omega) (by omega)
    exact ⟨v, a', s', e, by omega, by omega⟩
  rw [if_neg c3]
  obtain ⟨v, a', s', e, l, m⟩ := neg_ok hc a2 s2 v1 (by omega) (by omega)
  exact ⟨v, a', s', e, by omega, by omega⟩
/-- The cursor at block g: it has gone on by no more than n. -/
def CurB (w0 w : World) (g : Nat) (n : Int) : Prop := ∃ (c : List Int) (a s : Int), IsS57 w0 w g c a s ∧ Pure.Code c ∧ (0 ≤ a ∧ a ≤ n) ∧ Below w0.heap.size w0 w
theorem CurB.more {w0 w : World} {g : Nat} {n m : Int} (h : CurB w0 w g n) (hm : n ≤ m) : CurB w0 w g m := by
  obtain ⟨c, a, s, h1, h2, h3, h4⟩ := h
  exact ⟨c, a, s, h1, h2, ⟨h3.1, by omega⟩, h4⟩
theorem CurB.drewN {w0 w : World} {g : Nat} {n : Int} (h : CurB w0 w g n) (k : Nat) : CurB w0 (w.drewN k) g n := by
  obtain ⟨c, a, s, h1, h2, h3, h4⟩ := h
  exact ⟨c, a, s, h1.drewN k, h2, h3, pw_below_drewN h4 k⟩
theorem CurB.below {w0 w w1 : World} {g : Nat} {n : Int} (h : CurB w0 w g n) (hb : Below w.heap.size w w1) : CurB w0 w1 g n := by
  obtain ⟨c, a, s, h1, h2, h3, h4⟩ := h
  exact ⟨c, a, s, h1.below hb, h2, h3, below_step h4 hb⟩
theorem CurB.bel {w0 w : World} {g : Nat} {n : Int} (h : CurB w0 w g n) : Below w0.heap.size w0 w := by
  obtain ⟨_, _, _, _, _, _, h4⟩ := h
  exact h4
theorem pickC {w0 w : World} {g : Nat} {n : Int} (m : Int) (h : CurB w0 w g n) (hn : n ≤ 4611686018427386000) : Calls Try.prog 55 #[.pointer (some ⟨g, 0, none⟩), .int .i64 m] w fun e w' => ∃ v, e = .returned (.int .i64 v) ∧ (0 ≤ v ∧ (1 < m → v < m) ∧ (m ≤ 1 → v = 0)) ∧ CurB w0 w' g (n + 2) := by
  obtain ⟨c, a, s, h1, h2, h3, h4⟩ := h
  obtain ⟨v, a', s', e, l, u, b⟩ := pick_ok h2 a s m h3.1 (by omega)
  refine (spec_l1Cur_pick.calls g c a s m v a' s' w0 w h1 h4 e).mono ?_
  rintro e w' ⟨rfl, hi, hb, _⟩
  exact ⟨v, rfl, b, c, a', s', hi, h2, by omega, hb⟩
theorem oneC {w0 w : World} {g : Nat} {n : Int} (m : Int) (h : CurB w0 w g n) (hn : n ≤ 4611686018427386000) : Calls Try.prog 56 #[.pointer (some ⟨g, 0, none⟩), .int .i64 m] w fun e w' => ∃ v, e = .returned (.bool v) ∧ CurB w0 w' g (n + 2) := by
  obtain ⟨c, a, s, h1, h2, h3, h4⟩ := h
  obtain ⟨v, a', s', e, l, u⟩ := one_ok h2 a s m h3.1 (by omega)
  refine (spec_l1Cur_one.calls g c a s m v a' s' w0 w h1 h4 e).mono ?_
  rintro e w' ⟨rfl, hi, hb, _⟩
  exact ⟨v, rfl, c, a', s', hi, h2, by omega, hb⟩
theorem amongC {w0 w : World} {g : Nat} {n : Int} (A : Option Addr) (cc : Nat) (l : List Int) (h : CurB w0 w g n) (hn : n ≤ 4611686018427386000) (hr : Kd.C (Kd.int .i64) w A l.length l) (hc : l.length ≤ cc) (hf : ∀ ad, A = some ad → 0 < l.length → ad.block ≠ g) (hl : 0 < l.length) : Calls Try.prog 57 #[.pointer (some ⟨g, 0, none⟩), .slice A l.length cc] w fun e w' => ∃ v, e = .returned (.int .i64 v) ∧ v ∈ l ∧ CurB w0 w' g (n + 2) := by
  obtain ⟨c, a, s, h1, h2, h3, h4⟩ := h
  obtain ⟨v, a', s', e, lo, u, hm⟩ := among_ok h2 a s l hl h3.1 (by omega)
  refine (spec_l1Cur_among.calls g c a s A cc l v a' s' w0 w h1 h4 hr hc hf e).mono ?_
  rintro e w' ⟨rfl, hi, hb, _⟩
  exact ⟨v, rfl, hm, c, a', s', hi, h2, by omega, hb⟩
theorem wideC {w0 w : World} {g : Nat} {n : Int} (h : CurB w0 w g n) (hn : n ≤ 4611686018427386000) : Calls Try.prog 79 #[.pointer (some ⟨g, 0, none⟩)] w fun e w' => ∃ v, e = .returned (.int .i64 v) ∧ CurB w0 w' g (n + 16) := by
  obtain ⟨c, a, s, h1, h2, h3, h4⟩ := h
  obtain ⟨v, a', s', e, l, u⟩ := wideF_ok h2 a s h3.1 (by omega)
  refine (spec_l1Cur_wide.calls 9 g c a s v a' s' w0 w h1 h4 e).mono ?_
  rintro e w' ⟨rfl, hi, hb, _⟩
  exact ⟨v, rfl, c, a', s', hi, h2, by omega, hb⟩
theorem sizedC {w0 w : World} {g : Nat} {n : Int} (h : CurB w0 w g n) (hn : n ≤ 4611686018427386000) : Calls Try.prog 83 #[.pointer (some ⟨g, 0, none⟩)] w fun e w' => ∃ v, e = .returned (.int .i64 v) ∧ CurB w0 w' g (n + 16) := by
  obtain ⟨c, a, s, h1, h2, h3, h4⟩ := h
  obtain ⟨v, a', s', e, l, u⟩ := sized_ok h2 a s h3.1 (by omega)
  refine (spec_l1Cur_sized.calls 9 g c a s v a' s' w0 w h1 h4 e).mono ?_
  rintro e w' ⟨rfl, hi, hb, _⟩
  exact ⟨v, rfl, c, a', s', hi, h2, by omega, hb⟩
end Go.Proofs.Ytdcnlghcdmiciaa.Fl
