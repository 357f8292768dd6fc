/-
Own text: counts that are unwrapped: what is drawn, what both come to.
-/
import Derived.Test.YtkhkgfihodljmaaPureCur
import Derived.Test.YtkhkgfihodljmaaPureBase
namespace Go.Proofs.Ytkhkgfihodljmaa.Pure
open Go.RowKit Go.Proofs.YtkhkgfihodljmaaW.PrintWords Go.Proofs.YtkhkgfihodljmaaW.PrintLast Go.Proofs.Ytkhkgfihodljmaa.Pr Go.Proofs.Ytkhkgfihodljmaa.EvKit

theorem mod_ok (x n : Int) (hn : 1 ≤ n) (hn2 : n ≤ 2000000) : ∃ v, spec_l8Mod.f x n = some v ∧ v = x % n ∧ 0 ≤ v ∧ v < n := by
  unfold spec_l8Mod.f
  rw [if_neg (by omega)]
  have h1 := Int.emod_nonneg x (show n ≠ 0 by omega)
  have h2 := Int.emod_lt_of_pos x (show 0 < n by omega)
  have h3 : x.tmod n = x % n ∨ x.tmod n = x % n - n := by
    rw [Int.tmod_eq_emod]
    split
    · exact Or.inl (by omega)
    · exact Or.inr (by omega)
  by_cases h4 : x.tmod n < 0
  · rw [if_pos h4, wrap64_id (by omega) (by omega)]
    exact ⟨_, rfl, by omega, by omega, by omega⟩
  · rw [if_neg h4]
    exact ⟨_, rfl, by omega, by omega, by omega⟩

/-- A drawn count. -/
def Cnt (v : Int) : Prop := -1 ≤ v ∧ v ≤ 1000001

theorem draw_j2 {c : List Int} (hc : Code c) (n : Int) (hn : 1 ≤ n) (hn2 : n ≤ 1000001) (x : List Int) (hx : ∀ v ∈ x, Cnt v) (b : Bool) (hb : b = true → 0 < x.length) (a s : Int) (h0 : 0 ≤ a) (h1 : a ≤ 1000000) :
    ∃ r : List Int, r.length = x.length ∧ (∀ v ∈ r, Cnt v) ∧ Ev (fun k => spec_DrawUnwrapCounts.j2 k n x b c a s) (r, n) := by
  cases b with
  | false =>
    refine ⟨x, rfl, hx, Ev.succ ?_⟩
    simp only [spec_DrawUnwrapCounts.j2]
    exact Ev.neg (by simp) (Ev.some rfl)
  | true =>
    have hl := hb rfl
    obtain ⟨i, a1, s1, e1, p1, p2, p3, p4, p5⟩ := pick_ok hc a s (x.length : Int) h0 (by omega)
    have hi : i < (x.length : Int) := by
      by_cases h : (1 : Int) < x.length
      · exact p4 h
      · have := p5 (by omega)
        omega
    obtain ⟨v, a2, s2, e2, _, _, hv⟩ := among_ok hc a1 s1 [-1, n, wrap64 (n - 1)] (by simp) (by omega) (by omega)
    rw [wrap64_id (x := n - 1) (by omega) (by omega)] at e2 hv
    refine ⟨x.set i.toNat v, by simp, fun y hy => ?_, Ev.succ ?_⟩
    · rcases List.mem_or_eq_of_mem_set hy with h | h
      · exact hx y h
      · subst h
        simp only [List.mem_cons, List.not_mem_nil, or_false] at hv
        unfold Cnt
        omega
    · simp only [spec_DrawUnwrapCounts.j2, wrap64_id (x := n - 1) (by omega) (by omega)]
      exact Ev.pos trivial (Ev.bnd0 e1 (Ev.bnd0 e2 (Ev.pos p3 (Ev.pos hi (Ev.some rfl)))))

theorem draw_l0 {c : List Int} (hc : Code c) (n : Int) (hn : 1 ≤ n) (hn2 : n ≤ 1000001) (d : Nat) : ∀ (x : List Int) (at_ a s : Int), (∀ v ∈ x, Cnt v) → x.length + d ≤ 100 → 0 ≤ a → a + 4 * d ≤ 900000 →
    ∃ r : List Int, r.length ≤ 100 ∧ (∀ v ∈ r, Cnt v) ∧ Ev (fun k => spec_DrawUnwrapCounts.l0 k n x (d : Int) at_ c a s) (r, n) := by
  induction d with
  | zero =>
    intro x at_ a s hx hl h0 h1
    obtain ⟨b, a1, s1, e1, p1, p2⟩ := one_ok hc a s 16 h0 (by omega)
    cases b with
    | false =>
      obtain ⟨r, r1, r2, r3⟩ := draw_j2 hc n hn hn2 x hx false (by simp) a1 s1 (by omega) (by omega)
      refine ⟨r, by omega, r2, Ev.succ ?_⟩
      simp only [spec_DrawUnwrapCounts.l0]
      exact Ev.neg (by simp) (Ev.bnd0 e1 (Ev.neg (by simp) r3))
    | true =>
      obtain ⟨r, r1, r2, r3⟩ := draw_j2 hc n hn hn2 x hx (decide ((x.length : Int) > 0)) (by simp) a1 s1 (by omega) (by omega)
      refine ⟨r, by omega, r2, Ev.succ ?_⟩
      simp only [spec_DrawUnwrapCounts.l0]
      exact Ev.neg (by simp) (Ev.bnd0 e1 (Ev.pos rfl r3))
  | succ d ih =>
    intro x at_ a s hx hl h0 h1
    obtain ⟨v, e0, _, v0, v1⟩ := mod_ok at_ n hn (by omega)
    obtain ⟨i, a1, s1, e1, p1, p2, _⟩ := pick_ok hc a s (wrap64 ((wrap64 (Int.tdiv n 2)) + 2)) h0 (by omega)
    obtain ⟨j, a2, s2, e2, q1, q2, _⟩ := pick_ok hc a1 s1 (wrap64 ((wrap64 (Int.tdiv n 2)) + 2)) (by omega) (by omega)
    obtain ⟨r, r1, r2, r3⟩ := ih (x ++ [v]) (wrap64 (at_ + (wrap64 (i - j)))) a2 s2 (fun y hy => by
      rcases List.mem_append.1 hy with h | h
      · exact hx y h
      · rw [List.mem_singleton.1 h]
        exact ⟨by omega, by omega⟩) (by simp; omega) (by omega) (by omega)
    refine ⟨r, r1, r2, Ev.succ ?_⟩
    have em : wrap64 (((d + 1 : Nat) : Int) - 1) = (d : Int) := by rw [wrap64_id (by omega) (by omega)]; omega
    simp only [spec_DrawUnwrapCounts.l0, em]
    exact Ev.pos (by omega) (Ev.bnd0 e0 (Ev.pos (by omega) (Ev.bnd0 e1 (Ev.bnd0 e2 r3))))

theorem draw_counts {c : List Int} (hc : Code c) : ∃ (r : List Int) (n : Int), r.length ≤ 100 ∧ (∀ v ∈ r, Cnt v) ∧ 1 ≤ n ∧ n ≤ 1000001 ∧ Ev (fun k => spec_DrawUnwrapCounts.f k c) (r, n) := by
  simp only [spec_DrawUnwrapCounts.f]
  obtain ⟨n, a0, s0, e0, z1, z2, hm⟩ := among_ok hc 0 0 [2, 3, 4, 7, 10, 100, 4096, 1000000, 1, 1000001] (by simp) (by omega) (by omega)
  have hn : 1 ≤ n ∧ n ≤ 1000001 := by
    simp only [List.mem_cons, List.not_mem_nil, or_false] at hm
    omega
  have es : spec_l1Cur_size.f c 0 0 = some (n, a0, s0) := by
    unfold spec_l1Cur_size.f
    rw [e0]
    rfl
  obtain ⟨m, a1, s1, e1, p1, p2, p3, p4, _⟩ := pick_ok hc a0 s0 12 (by omega) (by omega)
  have := p4 (by omega)
  obtain ⟨b, a2, s2, e2, q1, q2⟩ := one_ok hc a1 s1 16 (by omega) (by omega)
  have go : ∀ (m a s : Int), 0 ≤ m → m ≤ 70 → 0 ≤ a → a ≤ 100 → ∃ r : List Int, r.length ≤ 100 ∧ (∀ v ∈ r, Cnt v) ∧ Ev (fun k => spec_DrawUnwrapCounts.j0 k n [] m c a s) (r, n) := by
    intro m a s h0 h1 h2 h3
    obtain ⟨v, a', s', e, t1, t2, _⟩ := pick_ok hc a s n h2 (by omega)
    obtain ⟨d, rfl⟩ := nat_of h0
    obtain ⟨r, r1, r2, r3⟩ := draw_l0 hc n hn.1 hn.2 d [] v a' s' (by simp) (by simp; omega) (by omega) (by omega)
    refine ⟨r, r1, r2, Ev.succ ?_⟩
    simp only [spec_DrawUnwrapCounts.j0]
    exact Ev.bnd0 e r3
  cases b with
  | false =>
    obtain ⟨r, r1, r2, r3⟩ := go m a2 s2 p3 (by omega) (by omega) (by omega)
    exact ⟨r, n, r1, r2, hn.1, hn.2, Ev.bnd0 es (Ev.bnd0 e1 (Ev.bnd0 e2 (Ev.neg (by simp) r3)))⟩
  | true =>
    obtain ⟨t, a3, s3, e3, u1, u2, u3, u4, _⟩ := pick_ok hc a2 s2 3 (by omega) (by omega)
    have := u4 (by omega)
    obtain ⟨r, r1, r2, r3⟩ := go (wrap64 (59 + t)) a3 s3 (by rw [wrap64_id (by omega) (by omega)]; omega) (by rw [wrap64_id (by omega) (by omega)]; omega) (by omega) (by omega)
    exact ⟨r, n, r1, r2, hn.1, hn.2, Ev.bnd0 es (Ev.bnd0 e1 (Ev.bnd0 e2 (Ev.pos rfl (Ev.bnd0 e3 r3))))⟩

/-! ### unwrapping -/
open Classical
def Okc (l : List Int) (n : Int) (j : Nat) : Prop := 0 ≤ l.getD j 0 ∧ l.getD j 0 < n
/-- What has been unwrapped so far. -/
def Unw (l : List Int) (n : Int) (u : List Int) : Prop := ∀ j, j < u.length → u.getD j 0 % n = l.getD j 0 ∧ -(1000000 * ((j : Int) + 1)) ≤ u.getD j 0 ∧ u.getD j 0 ≤ 1000000 * ((j : Int) + 1) ∧ (0 < j → 2 * (u.getD j 0 - u.getD (j - 1) 0) ≤ n ∧ -n < 2 * (u.getD j 0 - u.getD (j - 1) 0))

theorem wrap_eq (x n : Int) (hn : 2 ≤ n) (hn2 : n ≤ 1000000) : impl_wrap.f x n = some (x % n) := by
  unfold impl_wrap.f
  rw [if_neg (by omega)]
  have h1 := Int.emod_nonneg x (show n ≠ 0 by omega)
  have h2 := Int.emod_lt_of_pos x (show 0 < n by omega)
  have h3 : x.tmod n = x % n ∨ x.tmod n = x % n - n := by
    rw [Int.tmod_eq_emod]
    split
    · exact Or.inl (by omega)
    · exact Or.inr (by omega)
  rw [wrap64_id (x := x.tmod n + n) (by omega) (by omega), Int.tmod_eq_emod_of_nonneg (by omega)]
  congr 1
  rcases h3 with h | h
  · rw [h, Int.add_emod_right, Int.emod_emod]
  · rw [h, Int.sub_add_cancel, Int.emod_emod]

theorem getD_push (u : List Int) (v : Int) (j : Nat) : (u ++ [v]).getD j 0 = if j < u.length then u.getD j 0 else if j = u.length then v else 0 := by
  simp only [List.getD_eq_getElem?_getD, List.getElem?_append]
  by_cases h : j < u.length
  · rw [if_pos h, if_pos h]
  · rw [if_neg h, if_neg h]
    by_cases h2 : j = u.length
    · subst h2
      simp
    · rw [if_neg h2, List.getElem?_eq_none (by simp; omega)]
      rfl
theorem Unw.push {l : List Int} {n : Int} {u : List Int} (h : Unw l n u) {v : Int} (h1 : v % n = l.getD u.length 0) (h2 : -(1000000 * ((u.length : Int) + 1)) ≤ v) (h3 : v ≤ 1000000 * ((u.length : Int) + 1)) (h4 : 0 < u.length → 2 * (v - u.getD (u.length - 1) 0) ≤ n ∧ -n < 2 * (v - u.getD (u.length - 1) 0)) : Unw l n (u ++ [v]) := by
  intro j hj
  rw [getD_push, getD_push]
  have hl : (u ++ [v]).length = u.length + 1 := by simp
  by_cases hlt : j < u.length
  · rw [if_pos hlt]
    obtain ⟨a, b, c, d⟩ := h j hlt
    refine ⟨a, b, c, fun h0 => ?_⟩
    rw [if_pos (by omega)]
    exact d h0
  · have e : j = u.length := by omega
    subst e
    rw [if_neg (by omega), if_pos rfl]
    refine ⟨h1, h2, h3, fun h0 => ?_⟩
    rw [if_pos (by omega)]
    exact h4 h0

theorem unw_impl (l : List Int) (n : Int) (hl : l.length ≤ 60) (hn : 2 ≤ n) (hn2 : n ≤ 1000000) (d : Nat) : ∀ (i : Nat) (u : List Int), i + d = l.length → u.length = i → Unw l n u →
    ∃ r : List Int, Ev (fun k => impl_UnwrapCounts.l0 k n u l (l.length : Int) i) (r, decide (From l.length i (Okc l n))) ∧ (From l.length i (Okc l n) → r.length = l.length ∧ Unw l n r) := by
  induction d with
  | zero =>
    intro i u hi hu hU
    have hF : From l.length i (Okc l n) := From.end_ (by omega)
    refine ⟨u, Ev.succ ?_, fun _ => ⟨by omega, hU⟩⟩
    rw [decide_eq_true hF]
    simp only [impl_UnwrapCounts.l0]
    exact Ev.neg (by omega) (Ev.some rfl)
  | succ d ih =>
    intro i u hi hu hU
    have step := From.step (n := l.length) (i := i) (C := Okc l n) (by omega)
    have e1 : rd l (i : Int) = l.getD i 0 := rfl
    have no : ¬ Okc l n i → ∃ r : List Int, Ev (fun k => impl_UnwrapCounts.j2 k n u i (l.getD i 0) l (l.length : Int) i true) (r, decide (From l.length i (Okc l n))) ∧ (From l.length i (Okc l n) → r.length = l.length ∧ Unw l n r) := by
      intro h
      have hF : ¬ From l.length i (Okc l n) := fun a => h (step.1 a).1
      refine ⟨[], Ev.succ ?_, fun a => absurd a hF⟩
      rw [decide_eq_false hF]
      simp only [impl_UnwrapCounts.j2]
      exact Ev.pos trivial (Ev.some rfl)
    by_cases h0 : l.getD i 0 < 0
    · obtain ⟨r, a, b⟩ := no (fun h => by have := h.1; omega)
      refine ⟨r, Ev.succ ?_, b⟩
      simp only [impl_UnwrapCounts.l0, e1]
      exact Ev.pos (by omega) (Ev.pos (by omega) (Ev.pos (by omega) (Ev.pos h0 a)))
    · by_cases h1 : l.getD i 0 ≥ n
      · obtain ⟨r, a, b⟩ := no (fun h => by have := h.2; omega)
        refine ⟨r, Ev.succ ?_, b⟩
        simp only [impl_UnwrapCounts.l0, e1, decide_eq_true h1]
        exact Ev.pos (by omega) (Ev.pos (by omega) (Ev.pos (by omega) (Ev.neg h0 a)))
      · have hok : Okc l n i := ⟨by omega, by omega⟩
        have same : decide (From l.length i (Okc l n)) = decide (From l.length (i + 1) (Okc l n)) := by
          rw [decide_eq_decide]
          exact ⟨fun x => (step.1 x).2, fun x => step.2 ⟨hok, x⟩⟩
        have next : ∀ v : Int, Unw l n (u ++ [v]) → ∃ r : List Int, Ev (fun k => impl_UnwrapCounts.l0 k n (u ++ [v]) l (l.length : Int) ((i + 1 : Nat) : Int)) (r, decide (From l.length i (Okc l n))) ∧ (From l.length i (Okc l n) → r.length = l.length ∧ Unw l n r) := by
          intro v hv
          obtain ⟨r, a, b⟩ := ih (i + 1) (u ++ [v]) (by omega) (by simp; omega) hv
          rw [same]
          exact ⟨r, a, fun x => b (step.1 x).2⟩
        have head : ∀ r : List Int, Ev (fun k => impl_UnwrapCounts.j2 k n u i (l.getD i 0) l (l.length : Int) i false) (r, decide (From l.length i (Okc l n))) → Ev (fun k => impl_UnwrapCounts.l0 k n u l (l.length : Int) i) (r, decide (From l.length i (Okc l n))) := by
          intro r a
          apply Ev.succ
          simp only [impl_UnwrapCounts.l0, e1, decide_eq_false h1]
          exact Ev.pos (by omega) (Ev.pos (by omega) (Ev.pos (by omega) (Ev.neg h0 a)))
        by_cases hz : i = 0
        · obtain ⟨r, a, b⟩ := next (l.getD i 0) (hU.push (by rw [hu]; exact Int.emod_eq_of_lt hok.1 hok.2) (by omega) (by omega) (by omega))
          refine ⟨r, head r (Ev.succ ?_), b⟩
          simp only [impl_UnwrapCounts.j2, succ_w (show i < 35184372088833 by omega)]
          exact Ev.neg (by simp) (Ev.pos (by omega) (Ev.pos (by omega) a))
        · have em : wrap64 ((i : Int) - 1) = ((i - 1 : Nat) : Int) := by rw [wrap64_id (by omega) (by omega)]; omega
          have ep : rd u ((i - 1 : Nat) : Int) = u.getD (i - 1) 0 := rfl
          obtain ⟨q1, q2, q3, _⟩ := hU (i - 1) (by omega)
          generalize hp : u.getD (i - 1) 0 = p at *
          have hpi : ((i - 1 : Nat) : Int) + 1 = i := by omega
          rw [hpi] at q2 q3
          have t0 := Int.emod_nonneg (l.getD i 0 - p) (show n ≠ 0 by omega)
          have t1 := Int.emod_lt_of_pos (l.getD i 0 - p) (show 0 < n by omega)
          have tm : (p + (l.getD i 0 - p) % n) % n = l.getD i 0 := by
            rw [Int.add_emod_emod, show p + (l.getD i 0 - p) = l.getD i 0 by omega]
            exact Int.emod_eq_of_lt hok.1 hok.2
          have wr := wrap_eq (l.getD i 0 - p) n hn hn2
          have ew : wrap64 (l.getD i 0 - p) = l.getD i 0 - p := wrap64_id (by omega) (by omega)
          generalize (l.getD i 0 - p) % n = t at *
          by_cases h2 : 2 * t > n
          · have hv : Unw l n (u ++ [p + (t - n)]) := hU.push (by rw [hu, show p + (t - n) = p + t + n * (-1) by omega, Int.add_mul_emod_self_left]; exact tm) (by rw [hu]; omega) (by rw [hu]; omega) (fun _ => by rw [hu, hp]; omega)
            obtain ⟨r, a, b⟩ := next _ hv
            refine ⟨r, head r (Ev.succ ?_), b⟩
            simp only [impl_UnwrapCounts.j2, em, ep, ew, succ_w (show i < 35184372088833 by omega)]
            refine Ev.neg (by simp) (Ev.neg (by omega) (Ev.pos (by omega) (Ev.pos (by omega) (Ev.bnd0 wr ?_))))
            simp only [wrap64_id (x := 2 * t) (by omega) (by omega), wrap64_id (x := t - n) (by omega) (by omega), wrap64_id (x := p + (t - n)) (by omega) (by omega)]
            exact Ev.pos h2 (Ev.pos (by omega) a)
          · have hv : Unw l n (u ++ [p + t]) := hU.push (by rw [hu]; exact tm) (by rw [hu]; omega) (by rw [hu]; omega) (fun _ => by rw [hu, hp]; omega)
            obtain ⟨r, a, b⟩ := next _ hv
            refine ⟨r, head r (Ev.succ ?_), b⟩
            simp only [impl_UnwrapCounts.j2, em, ep, ew, succ_w (show i < 35184372088833 by omega)]
            refine Ev.neg (by simp) (Ev.neg (by omega) (Ev.pos (by omega) (Ev.pos (by omega) (Ev.bnd0 wr ?_))))
            simp only [wrap64_id (x := 2 * t) (by omega) (by omega), wrap64_id (x := p + t) (by omega) (by omega)]
            exact Ev.neg h2 (Ev.pos (by omega) a)

theorem unw_spec (l : List Int) (n : Int) (hl : l.length ≤ 60) (hn : 2 ≤ n) (hn2 : n ≤ 1000000) (d : Nat) : ∀ (i : Nat) (u : List Int), i + d = l.length → u.length = i →
    ∃ r : List Int, Ev (fun k => spec_UnwrapCounts.l0 k l n u l (l.length : Int) i) (r, decide (From l.length i (Okc l n))) := by
  induction d with
  | zero =>
    intro i u hi hu
    have hF : From l.length i (Okc l n) := From.end_ (by omega)
    refine ⟨u, Ev.succ ?_⟩
    rw [decide_eq_true hF]
    simp only [spec_UnwrapCounts.l0]
    exact Ev.neg (by omega) (Ev.some rfl)
  | succ d ih =>
    intro i u hi hu
    have step := From.step (n := l.length) (i := i) (C := Okc l n) (by omega)
    have e1 : rd l (i : Int) = l.getD i 0 := rfl
    have no : ¬ Okc l n i → ∃ r : List Int, Ev (fun k => spec_UnwrapCounts.j2 k l n u i (l.getD i 0) l (l.length : Int) i true) (r, decide (From l.length i (Okc l n))) := by
      intro h
      have hF : ¬ From l.length i (Okc l n) := fun a => h (step.1 a).1
      refine ⟨[], Ev.succ ?_⟩
      rw [decide_eq_false hF]
      simp only [spec_UnwrapCounts.j2]
      exact Ev.pos trivial (Ev.some rfl)
    by_cases h0 : l.getD i 0 < 0
    · obtain ⟨r, a⟩ := no (fun h => by have := h.1; omega)
      refine ⟨r, Ev.succ ?_⟩
      simp only [spec_UnwrapCounts.l0, e1]
      exact Ev.pos (by omega) (Ev.pos (by omega) (Ev.pos (by omega) (Ev.pos h0 a)))
    · by_cases h1 : l.getD i 0 ≥ n
      · obtain ⟨r, a⟩ := no (fun h => by have := h.2; omega)
        refine ⟨r, Ev.succ ?_⟩
        simp only [spec_UnwrapCounts.l0, e1, decide_eq_true h1]
        exact Ev.pos (by omega) (Ev.pos (by omega) (Ev.pos (by omega) (Ev.neg h0 a)))
      · have hok : Okc l n i := ⟨by omega, by omega⟩
        have same : decide (From l.length i (Okc l n)) = decide (From l.length (i + 1) (Okc l n)) := by
          rw [decide_eq_decide]
          exact ⟨fun x => (step.1 x).2, fun x => step.2 ⟨hok, x⟩⟩
        have next : ∀ v : Int, ∃ r : List Int, Ev (fun k => spec_UnwrapCounts.l0 k l n (u ++ [v]) l (l.length : Int) ((i + 1 : Nat) : Int)) (r, decide (From l.length i (Okc l n))) := by
          intro v
          rw [same]
          exact ih (i + 1) (u ++ [v]) (by omega) (by simp; omega)
        have head : ∀ r : List Int, Ev (fun k => spec_UnwrapCounts.j2 k l n u i (l.getD i 0) l (l.length : Int) i false) (r, decide (From l.length i (Okc l n))) → Ev (fun k => spec_UnwrapCounts.l0 k l n u l (l.length : Int) i) (r, decide (From l.length i (Okc l n))) := by
          intro r a
          apply Ev.succ
          simp only [spec_UnwrapCounts.l0, e1, decide_eq_false h1]
          exact Ev.pos (by omega) (Ev.pos (by omega) (Ev.pos (by omega) (Ev.neg h0 a)))
        by_cases hz : i = 0
        · obtain ⟨r, a⟩ := next (l.getD i 0)
          refine ⟨r, head r (Ev.succ ?_)⟩
          simp only [spec_UnwrapCounts.j2, succ_w (show i < 35184372088833 by omega)]
          exact Ev.neg (by simp) (Ev.pos (by omega) (Ev.pos (by omega) a))
        · have em : wrap64 ((i : Int) - 1) = ((i - 1 : Nat) : Int) := by rw [wrap64_id (by omega) (by omega)]; omega
          obtain ⟨t, et, _, _, _⟩ := mod_ok (wrap64 (l.getD i 0 - rd l ((i - 1 : Nat) : Int))) n (by omega) (by omega)
          by_cases h2 : wrap64 (2 * t) > n
          · obtain ⟨r, a⟩ := next (wrap64 (rd u ((i - 1 : Nat) : Int) + wrap64 (t - n)))
            refine ⟨r, head r (Ev.succ ?_)⟩
            simp only [spec_UnwrapCounts.j2, em, succ_w (show i < 35184372088833 by omega)]
            exact Ev.neg (by simp) (Ev.neg (by omega) (Ev.pos (by omega) (Ev.pos (by omega) (Ev.bnd0 et (Ev.pos h2 (Ev.pos (by omega) (Ev.pos (by omega) a)))))))
          · obtain ⟨r, a⟩ := next (wrap64 (rd u ((i - 1 : Nat) : Int) + t))
            refine ⟨r, head r (Ev.succ ?_)⟩
            simp only [spec_UnwrapCounts.j2, em, succ_w (show i < 35184372088833 by omega)]
            exact Ev.neg (by simp) (Ev.neg (by omega) (Ev.pos (by omega) (Ev.pos (by omega) (Ev.bnd0 et (Ev.neg h2 (Ev.pos (by omega) (Ev.pos (by omega) a)))))))

theorem unw_both (l : List Int) (n : Int) : ∃ (r r2 : List Int) (b : Bool), Ev (fun k => impl_UnwrapCounts.f k l n) (r, b) ∧ Ev (fun k => spec_UnwrapCounts.f k l n) (r2, b) ∧ (b = true → r.length = l.length ∧ l.length ≤ 60 ∧ 2 ≤ n ∧ n ≤ 1000000 ∧ Unw l n r) := by
  have no1 : Ev (fun k => impl_UnwrapCounts.j0 k l n true) ([], false) := by
    apply Ev.succ
    simp only [impl_UnwrapCounts.j0]
    exact Ev.pos trivial (Ev.some rfl)
  have no2 : Ev (fun k => spec_UnwrapCounts.j0 k l n true) ([], false) := by
    apply Ev.succ
    simp only [spec_UnwrapCounts.j0]
    exact Ev.pos trivial (Ev.some rfl)
  have gs : impl_goodSize.f n = some (decide (2 ≤ n ∧ n ≤ 1000000)) := by
    unfold impl_goodSize.f
    by_cases h : n ≥ 2
    · rw [if_pos h]
      simp [show 2 ≤ n from h]
    · rw [if_neg h]
      simp [show ¬ 2 ≤ n from h]
  have gs2 : spec_l8Size.f n = some (decide (2 ≤ n ∧ n ≤ 1000000)) := gs
  simp only [impl_UnwrapCounts.f, spec_UnwrapCounts.f]
  by_cases hn : 2 ≤ n ∧ n ≤ 1000000
  · by_cases h1 : (l.length : Int) < 1
    · exact ⟨[], [], false, Ev.pos h1 no1, Ev.bnd0 gs2 (Ev.pos (by simpa using hn) (Ev.pos h1 no2)), by simp⟩
    · by_cases h2 : (l.length : Int) > 60
      · refine ⟨[], [], false, Ev.neg h1 (Ev.pos h2 no1), Ev.bnd0 gs2 (Ev.pos (by simpa using hn) (Ev.neg h1 ?_)), by simp⟩
        rw [decide_eq_true h2]
        exact no2
      · obtain ⟨r, a, b⟩ := unw_impl l n (by omega) hn.1 hn.2 l.length 0 [] (by omega) rfl (fun j hj => absurd hj (Nat.not_lt_zero j))
        obtain ⟨r2, a2⟩ := unw_spec l n (by omega) hn.1 hn.2 l.length 0 [] (by omega) rfl
        refine ⟨r, r2, decide (From l.length 0 (Okc l n)), Ev.neg h1 (Ev.neg h2 (Ev.bnd0 gs ?_)), Ev.bnd0 gs2 (Ev.pos (by simpa using hn) (Ev.neg h1 ?_)), fun h => ⟨(b (of_decide_eq_true h)).1, by omega, hn.1, hn.2, (b (of_decide_eq_true h)).2⟩⟩
        · rw [decide_eq_true hn]
          apply Ev.succ
          simp only [impl_UnwrapCounts.j0, Bool.not_true]
          exact Ev.neg (by simp) a
        · rw [decide_eq_false h2]
          apply Ev.succ
          simp only [spec_UnwrapCounts.j0]
          exact Ev.neg (by simp) a2
  · refine ⟨[], [], false, Ev.ite (fun _ => no1) (fun _ => Ev.ite (fun _ => no1) (fun _ => Ev.bnd0 gs ?_)), Ev.bnd0 gs2 (Ev.neg (by simpa using hn) no2), by simp⟩
    rw [decide_eq_false hn]
    exact no1
end Go.Proofs.Ytkhkgfihodljmaa.Pure
