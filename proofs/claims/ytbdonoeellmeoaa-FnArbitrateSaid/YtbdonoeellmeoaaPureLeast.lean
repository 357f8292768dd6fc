/-
Own text: who wins is the least; each other leaves at the first bit at which it differs from the least.
-/
import Derived.Test.YtbdonoeellmeoaaPureArbitrate
import Derived.Test.YtbdonoeellmeoaaPureCur
namespace Go.Proofs.Ytbdonoeellmeoaa.Pure
open Go.RowKit Go.Proofs.YtbdonoeellmeoaaW.PrintWords Go.Proofs.YtbdonoeellmeoaaW.PrintLast Go.Proofs.Ytbdonoeellmeoaa.Pr Go.Proofs.Ytbdonoeellmeoaa.EvKit
open Classical

/-- Where j stands behind k bits, p being the least. -/
def Left (l x : List Int) (p k j : Nat) : Prop := (x.getD j 0 = -1 ∧ ∀ b, b < k → Bk l j b = Bk l p b) ∨ (∃ b : Nat, b < k ∧ x.getD j 0 = b ∧ Bk l j b ≠ Bk l p b ∧ ∀ b', b' < b → Bk l j b' = Bk l p b')

theorem half (a k : Nat) (hk : k < 11) : a / 2 ^ (10 - k) = 2 * (a / 2 ^ (11 - k)) + a / 2 ^ (10 - k) % 2 := by
  have e : 2 ^ (11 - k) = 2 ^ (10 - k) * 2 := by rw [show 11 - k = (10 - k) + 1 by omega, Nat.pow_succ]
  rw [e, ← Nat.div_div_eq_div_mul]
  omega
theorem top_eq (l : List Int) (h : Ids l 0) (j p : Nat) (hj : j < l.length) (hp : p < l.length) (k : Nat) : k ≤ 11 → (∀ b, b < k → Bk l j b = Bk l p b) → (l.getD j 0).toNat / 2 ^ (11 - k) = (l.getD p 0).toNat / 2 ^ (11 - k) := by
  induction k with
  | zero =>
    intro _ _
    have a := h j (by omega) hj
    have b := h p (by omega) hp
    rw [Nat.div_eq_of_lt (by omega), Nat.div_eq_of_lt (by omega)]
  | succ k ih =>
    intro hk hb
    have a := ih (by omega) (fun b hb' => hb b (by omega))
    have c := hb k (by omega)
    unfold Bk at c
    rw [show 11 - (k + 1) = 10 - k by omega, half _ k (by omega), half (l.getD p 0).toNat k (by omega), a, c]

theorem left_p (l x : List Int) (p k : Nat) (h : Left l x p k p) : x.getD p 0 = -1 := by
  rcases h with h | ⟨b, _, _, h, _⟩
  · exact h.1
  · exact absurd rfl h

theorem low_iff (l x : List Int) (h : Ids l 0) (hx : x.length = l.length) (p k : Nat) (hp : p < l.length) (hmin : ∀ j, j < l.length → l.getD p 0 ≤ l.getD j 0) (hk : k < 11) (hL : ∀ j, j < l.length → Left l x p k j) : Low l x k x.length ↔ Bk l p k = 0 := by
  constructor
  · rintro ⟨j, hj, hj2, hj3⟩
    rcases Bk_or l p k with hb | hb
    · exact hb
    · exfalso
      have hjl : j < l.length := by omega
      rcases hL j hjl with ⟨_, h2⟩ | ⟨b, _, h2, _⟩
      · have t := top_eq l h j p hjl hp k (by omega) h2
        have m := hmin j hjl
        have m2 : (l.getD p 0).toNat ≤ (l.getD j 0).toNat := by omega
        have m3 := Nat.div_le_div_right (c := 2 ^ (10 - k)) m2
        rw [half _ k hk, half (l.getD j 0).toNat k hk, t] at m3
        unfold Bk at hb hj3
        omega
      · omega
  · intro hb
    exact ⟨p, by omega, by rw [left_p l x p k (hL p hp)]; decide, hb⟩

theorem left_step (l x : List Int) (h : Ids l 0) (hx : x.length = l.length) (p k : Nat) (hp : p < l.length) (hmin : ∀ j, j < l.length → l.getD p 0 ≤ l.getD j 0) (hk : k < 11) (hL : ∀ j, j < l.length → Left l x p k j) : ∀ j, j < l.length → Left l (Mrk l x k x.length) p (k + 1) j := by
  intro j hj
  have hlow := low_iff l x h hx p k hp hmin hk hL
  unfold Left
  rw [Mrk_get _ _ _ _ _ (by omega)]
  rcases hL j hj with ⟨h1, h2⟩ | ⟨b, h1, h2, h3, h4⟩
  · by_cases hc : Low l x k x.length ∧ Bk l j k = 1
    · rw [if_pos ⟨by omega, by omega, hc.1, hc.2⟩]
      refine Or.inr ⟨k, by omega, rfl, ?_, h2⟩
      rw [hc.2, hlow.1 hc.1]
      decide
    · rw [if_neg (fun a => hc a.2.2)]
      refine Or.inl ⟨h1, fun b hb => ?_⟩
      by_cases e : b = k
      · subst e
        by_cases hl : Low l x b x.length
        · rw [hlow.1 hl]
          rcases Bk_or l j b with hb2 | hb2
          · exact hb2
          · exact absurd ⟨hl, hb2⟩ hc
        · have h5 : Bk l p b = 1 := (Bk_or l p b).resolve_left (fun a => hl (hlow.2 a))
          rw [h5]
          exact (Bk_or l j b).resolve_left (fun a => hl ⟨j, by omega, by omega, a⟩)
      · exact h2 b (by omega)
  · rw [if_neg (fun a => by omega)]
    exact Or.inr ⟨b, by omega, h2, h3, h4⟩

theorem left_rnds (l : List Int) (h : Ids l 0) (p : Nat) (hp : p < l.length) (hmin : ∀ j, j < l.length → l.getD p 0 ≤ l.getD j 0) (d : Nat) : ∀ (k : Nat) (x : List Int), k + d = 11 → x.length = l.length → (∀ j, j < l.length → Left l x p k j) → ∀ j, j < l.length → Left l (rnds l d k x) p 11 j := by
  induction d with
  | zero =>
    intro k x hk _ hL
    rw [show k = 11 by omega] at hL
    exact hL
  | succ d ih =>
    intro k x hk hx hL
    exact ih (k + 1) (Mrk l x k x.length) (by omega) (by rw [Mrk_length]; exact hx) (left_step l x h hx p k hp hmin (by omega) hL)

theorem least_ex (l : List Int) (n : Nat) : n ≤ l.length → 0 < n → ∃ p, p < n ∧ ∀ j, j < n → l.getD p 0 ≤ l.getD j 0 := by
  induction n with
  | zero => intro _ h; omega
  | succ n ih =>
    intro hn _
    by_cases h0 : n = 0
    · exact ⟨0, by omega, fun j hj => by rw [show j = 0 by omega]; exact Int.le_refl _⟩
    · obtain ⟨p, hp, hm⟩ := ih (by omega) (by omega)
      by_cases hc : l.getD p 0 ≤ l.getD n 0
      · refine ⟨p, by omega, fun j hj => ?_⟩
        by_cases e : j = n
        · exact e ▸ hc
        · exact hm j (by omega)
      · refine ⟨n, by omega, fun j hj => ?_⟩
        by_cases e : j = n
        · exact e ▸ Int.le_refl _
        · have := hm j (by omega)
          omega

/-- Behind all bits: w is the least, and each other has left at the first bit at which it differs. -/
theorem fin_left (l : List Int) (h : Fine l) (w : Nat) (hw : w < l.length) (hw2 : (Fin l).getD w 0 < 0) : (∀ j, j < l.length → l.getD w 0 ≤ l.getD j 0) ∧ ∀ j, j < l.length → Left l (Fin l) w 11 j := by
  obtain ⟨h1, h2, h3⟩ := h
  obtain ⟨p, hp, hm⟩ := least_ex l l.length (Nat.le_refl _) (by omega)
  have hL := left_rnds l h3 p hp hm 11 0 (List.replicate l.length (-1)) rfl (by simp) (fun j hj => Or.inl ⟨by simp [List.getD_eq_getElem?_getD, hj], fun b hb => by omega⟩)
  have hLw : ∀ b, b < 11 → Bk l w b = Bk l p b := by
    rcases hL w hw with ⟨_, a⟩ | ⟨b, _, a, _⟩
    · exact a
    · exfalso
      have a2 : (Fin l).getD w 0 = (b : Int) := a
      omega
  have t := top_eq l h3 w p hw hp 11 (Nat.le_refl _) hLw
  simp only [Nat.sub_self, Nat.pow_zero, Nat.div_one] at t
  have i1 := h3 w (by omega) hw
  have i2 := h3 p (by omega) hp
  have e : l.getD w 0 = l.getD p 0 := by omega
  refine ⟨fun j hj => by rw [e]; exact hm j hj, fun j hj => ?_⟩
  rcases hL j hj with ⟨a, b⟩ | ⟨b, c1, c2, c3, c4⟩
  · exact Or.inl ⟨a, fun q hq => by rw [b q hq, hLw q hq]⟩
  · exact Or.inr ⟨b, c1, c2, by rw [hLw b c1]; exact c3, fun q hq => by rw [c4 q hq, hLw q (by omega)]⟩

theorem least_l1 (l : List Int) (h : Fine l) (w i : Nat) (hw : w < l.length) (hi : i < l.length) (hx : (Fin l).length = l.length) (hL : Left l (Fin l) w 11 i)
    (hN : Ev (fun k => spec_LeastFirst.l0 k w (Fin l) (rd l (w : Int)) l (l.length : Int) ((i + 1 : Nat) : Int)) true) (d : Nat) : ∀ k : Nat, k + d = 11 → (∀ b, b < k → Bk l i b = Bk l w b) →
    Ev (fun q => spec_LeastFirst.l1 q w (Fin l) (rd l (w : Int)) i (rd l (i : Int)) (-1) (10 - (k : Int)) l (l.length : Int) i) true := by
  have h2 := h.2.1
  have h3 := h.2.2
  have ex : rd (Fin l) (i : Int) = (Fin l).getD i 0 := rfl
  induction d with
  | zero =>
    intro k hk hb
    have e : (Fin l).getD i 0 = -1 := by
      rcases hL with a | ⟨b, b1, _, b3, _⟩
      · exact a.1
      · exact absurd (hb b (by omega)) b3
    apply Ev.succ
    simp only [spec_LeastFirst.l1, ex, e, succ_w (show i < 35184372088833 by omega)]
    exact Ev.neg (by omega) (Ev.pos (by omega) (Ev.pos (by omega) (Ev.pos (by first | rfl | trivial) hN)))
  | succ d ih =>
    intro k hk hb
    have eu : IntKind.u64.wrap (10 - (k : Int)) = 10 - (k : Int) := u64_id (by omega) (by omega)
    have b1 := bit_of l h3 i k hi (by omega) (10 - (k : Int)) (by omega)
    have b2 := bit_of l h3 w k hw (by omega) (10 - (k : Int)) (by omega)
    apply Ev.succ
    simp only [spec_LeastFirst.l1, eu, b1, b2]
    refine Ev.pos (by omega) (Ev.pos (by omega) ?_)
    by_cases hc : Bk l i k = Bk l w k
    · have a := ih (k + 1) (by omega) (fun b hb' => by
        by_cases e : b = k
        · exact e ▸ hc
        · exact hb b (by omega))
      have e : wrap64 (10 - (k : Int) - 1) = 10 - ((k + 1 : Nat) : Int) := by rw [wrap64_id (by omega) (by omega)]; omega
      rw [e]
      exact Ev.pos (by omega) a
    · have e : (Fin l).getD i 0 = (k : Int) := by
        rcases hL with a | ⟨b, c1, c2, c3, c4⟩
        · exact absurd (a.2 k (by omega)) hc
        · by_cases hbk : b < k
          · exact absurd (hb b hbk) c3
          · by_cases hkb : k < b
            · exact absurd (c4 k hkb) hc
            · rw [c2, show b = k by omega]
      simp only [ex, e, succ_w (show i < 35184372088833 by omega), wrap64_id (x := 10 - (10 - (k : Int))) (by omega) (by omega)]
      exact Ev.neg (by omega) (Ev.pos (by omega) (Ev.pos (by omega) (Ev.pos (by omega) hN)))

theorem least_ev (l : List Int) (h : Fine l) (w : Nat) (hw : w < l.length) (hx : (Fin l).length = l.length) (hw2 : (Fin l).getD w 0 < 0) (hw3 : ∀ j, j < w → 0 ≤ (Fin l).getD j 0) (d : Nat) : ∀ i : Nat, i + d = l.length →
    Ev (fun k => spec_LeastFirst.l0 k w (Fin l) (rd l (w : Int)) l (l.length : Int) i) true := by
  obtain ⟨hm, hL⟩ := fin_left l h w hw hw2
  have h2 := h.2.1
  induction d with
  | zero =>
    intro i hi
    apply Ev.succ
    simp only [spec_LeastFirst.l0]
    exact Ev.neg (by omega) (Ev.some rfl)
  | succ d ih =>
    intro i hi
    have nx := ih (i + 1) (by omega)
    have go : Ev (fun k => spec_LeastFirst.j2 k w (Fin l) (rd l (w : Int)) i (rd l (i : Int)) l (l.length : Int) i false) true := by
      apply Ev.succ
      simp only [spec_LeastFirst.j2]
      have a := least_l1 l h w i hw (by omega) hx (hL i (by omega)) nx 11 0 rfl (fun b hb => by omega)
      exact Ev.neg (by simp) a
    have m : rd l (w : Int) ≤ rd l (i : Int) := hm i (by omega)
    apply Ev.succ
    simp only [spec_LeastFirst.l0]
    refine Ev.pos (by omega) (Ev.pos (by omega) (Ev.pos (by omega) (Ev.neg (by omega) (Ev.ite (fun he => ?_) (fun _ => go)))))
    have hlt : ¬ ((i : Int) < (w : Int)) := by
      intro hlt
      have q := hw3 i (by omega)
      have e : l.getD i 0 = l.getD w 0 := he
      rcases hL i (by omega) with a | ⟨b, _, _, c3, _⟩
      · omega
      · apply c3
        unfold Bk
        rw [e]
    rw [decide_eq_false hlt]
    exact go

theorem least_first (l : List Int) (h : Fine l) (w : Nat) (hw : w < l.length) (hx : (Fin l).length = l.length) (hw2 : (Fin l).getD w 0 < 0) (hw3 : ∀ j, j < w → 0 ≤ (Fin l).getD j 0) : Ev (fun k => spec_LeastFirst.f k l w (Fin l)) true := by
  have h2 := h.2.1
  have a := least_ev l h w hw hx hw2 hw3 l.length 0 (by omega)
  simp only [spec_LeastFirst.f]
  rw [decide_eq_false (show ¬ ((w : Int) ≥ (l.length : Int)) by omega)]
  refine Ev.neg (by omega) (Ev.succ ?_)
  simp only [spec_LeastFirst.j0]
  exact Ev.neg (by simp) (Ev.pos (by omega) (Ev.pos (by omega) a))

/-! ### what is drawn -/
theorem drawA_l0 {c : List Int} (hc : Code c) (d : Nat) : ∀ (x : List Int) (a s : Int), x.length + d ≤ 100 → 0 ≤ a → a + 8 * d ≤ 900000 →
    ∃ r : List Int, Ev (fun k => spec_DrawArbitrate.l0 k x (d : Int) c a s) r := by
  induction d with
  | zero =>
    intro x a s hl h0 h1
    refine ⟨x, Ev.succ ?_⟩
    simp only [spec_DrawArbitrate.l0]
    exact Ev.neg (by simp) (Ev.some rfl)
  | succ d ih =>
    intro x a s hl h0 h1
    have em : wrap64 (((d + 1 : Nat) : Int) - 1) = (d : Int) := by rw [wrap64_id (by omega) (by omega)]; omega
    obtain ⟨v, a1, s1, e1, p1, p2, _⟩ := pick_ok hc a s 12 h0 (by omega)
    obtain ⟨b, a2, s2, e2, q1, q2⟩ := one_ok hc a1 s1 4 (by omega) (by omega)
    have fin : ∀ (v a s : Int), 0 ≤ a → a + 8 * d + 2 ≤ 900000 → ∃ r : List Int, Ev (fun k => (spec_l1Cur_one.f c a s 60).bind fun bt => (if bt.1 = true then (if x.length < 17592186044416 then (spec_DrawArbitrate.l0 k (x ++ [(-1)]) (d : Int) c bt.2.1 bt.2.2) else (none)) else (if x.length < 17592186044416 then (spec_DrawArbitrate.l0 k (x ++ [v]) (d : Int) c bt.2.1 bt.2.2) else (none)))) r := by
      intro v a s g0 g1
      obtain ⟨b, a3, s3, e3, u1, u2⟩ := one_ok hc a s 60 g0 (by omega)
      cases b with
      | true =>
        obtain ⟨r, hr⟩ := ih (x ++ [(-1)]) a3 s3 (by simp; omega) (by omega) (by omega)
        exact ⟨r, Ev.bnd0 e3 (Ev.pos rfl (Ev.pos (by omega) hr))⟩
      | false =>
        obtain ⟨r, hr⟩ := ih (x ++ [v]) a3 s3 (by simp; omega) (by omega) (by omega)
        exact ⟨r, Ev.bnd0 e3 (Ev.neg (by simp) (Ev.pos (by omega) hr))⟩
    cases b with
    | true =>
      obtain ⟨u, a4, s4, e4, t1, t2, _⟩ := pick_ok hc a2 s2 2048 (by omega) (by omega)
      obtain ⟨r, hr⟩ := fin u a4 s4 (by omega) (by omega)
      refine ⟨r, Ev.succ ?_⟩
      simp only [spec_DrawArbitrate.l0, em]
      exact Ev.pos (by omega) (Ev.bnd0 e1 (Ev.bnd0 e2 (Ev.pos rfl (Ev.bnd0 e4 hr))))
    | false =>
      obtain ⟨r, hr⟩ := fin v a2 s2 (by omega) (by omega)
      refine ⟨r, Ev.succ ?_⟩
      simp only [spec_DrawArbitrate.l0, em]
      exact Ev.pos (by omega) (Ev.bnd0 e1 (Ev.bnd0 e2 (Ev.neg (by simp) hr)))

theorem drawA {c : List Int} (hc : Code c) : ∃ r : List Int, Ev (fun k => spec_DrawArbitrate.f k c) r := by
  simp only [spec_DrawArbitrate.f]
  obtain ⟨m, a1, s1, e1, p1, p2, p3, p4, _⟩ := pick_ok hc 0 0 5 (by omega) (by omega)
  have := p4 (by omega)
  obtain ⟨b, a2, s2, e2, q1, q2⟩ := one_ok hc a1 s1 12 (by omega) (by omega)
  have go : ∀ (m a s : Int), 0 ≤ m → m ≤ 70 → 0 ≤ a → a ≤ 100 → ∃ r : List Int, Ev (fun k => spec_DrawArbitrate.j0 k [] m c a s) r := by
    intro m a s h0 h1 h2 h3
    obtain ⟨d, rfl⟩ := nat_of h0
    obtain ⟨r, hr⟩ := drawA_l0 hc d [] a s (by simp; omega) h2 (by omega)
    refine ⟨r, Ev.succ ?_⟩
    simp only [spec_DrawArbitrate.j0]
    exact hr
  cases b with
  | true =>
    obtain ⟨v, a3, s3, e3, u1, u2, hv⟩ := among_ok hc a2 s2 [0, 6, 7] (by simp) (by omega) (by omega)
    simp only [List.mem_cons, List.not_mem_nil, or_false] at hv
    obtain ⟨r, hr⟩ := go v a3 s3 (by omega) (by omega) (by omega) (by omega)
    exact ⟨r, Ev.bnd0 e1 (Ev.bnd0 e2 (Ev.pos rfl (Ev.bnd0 e3 hr)))⟩
  | false =>
    obtain ⟨r, hr⟩ := go (wrap64 (1 + m)) a2 s2 (by rw [wrap64_id (by omega) (by omega)]; omega) (by rw [wrap64_id (by omega) (by omega)]; omega) (by omega) (by omega)
    exact ⟨r, Ev.bnd0 e1 (Ev.bnd0 e2 (Ev.neg (by simp) hr))⟩
end Go.Proofs.Ytbdonoeellmeoaa.Pure
