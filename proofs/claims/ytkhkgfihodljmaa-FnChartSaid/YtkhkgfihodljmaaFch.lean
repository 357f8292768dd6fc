/- FnChart: the walk and the plain law, joined. -/
import Derived.Test.YtkhkgfihodljmaaFcx
import Derived.Test.YtkhkgfihodljmaaPureCur
import Derived.Test.YtkhkgfihodljmaaPureFlat
import Derived.Test.YtkhkgfihodljmaaPureRfl
namespace Go.Proofs.Ytkhkgfihodljmaa.Pure
open Go.RowKit Go.Proofs.YtkhkgfihodljmaaW.PrintWords Go.Proofs.YtkhkgfihodljmaaW.PrintLast Go.Proofs.Ytkhkgfihodljmaa.Pr Go.Proofs.Ytkhkgfihodljmaa.EvKit
set_option linter.unusedVariables false
def X {α : Type} (F : α → Prop) (g : Nat → Option α) : Prop := ∃ R, Ev g R ∧ F R
section
variable {α β : Type} {F : α → Prop} {g f : Nat → Option α}
theorem X.succ (h : X F (fun k => g (k + 1))) : X F g := by obtain ⟨R, h1, h2⟩ := h; exact ⟨R, Ev.succ h1, h2⟩
theorem X.bnd0 {q : Option β} {a : β} {f : Nat → β → Option α} (h : q = some a) (k : X F (fun n => f n a)) : X F (fun n => q.bind (f n)) := by obtain ⟨R, h1, h2⟩ := k; exact ⟨R, Ev.bnd0 h h1, h2⟩
theorem X.bnd {G : β → Prop} {q : Nat → Option β} {f : Nat → β → Option α} (h : X G q) (k : ∀ a, G a → X F (fun n => f n a)) : X F (fun n => (q n).bind (f n)) := by
  obtain ⟨a, h1, h2⟩ := h
  obtain ⟨R, h3, h4⟩ := k a h2
  exact ⟨R, Ev.bnd h1 h3, h4⟩
theorem X.ite {c : Prop} [Decidable c] (h1 : c → X F g) (h2 : ¬ c → X F f) : X F (fun k => if c then g k else f k) := by
  by_cases h : c
  · obtain ⟨R, a, b⟩ := h1 h; exact ⟨R, Ev.pos h a, b⟩
  · obtain ⟨R, a, b⟩ := h2 h; exact ⟨R, Ev.neg h a, b⟩
theorem X.pos {c : Prop} [Decidable c] (hc : c) (h : X F g) : X F (fun k => if c then g k else f k) := X.ite (fun _ => h) (fun n => absurd hc n)
theorem X.neg {c : Prop} [Decidable c] (hc : ¬ c) (h : X F f) : X F (fun k => if c then g k else f k) := X.ite (fun n => absurd n hc) (fun _ => h)
theorem X.some {r : α} (h : F r) : X F (fun _ => Option.some r) := ⟨r, Ev.some rfl, h⟩
end
theorem evs_l0 {c : List Int} (hc : Code c) (m : Nat) : ∀ (x : List Int) (a s : Int), x.length + m ≤ 100 → 0 ≤ a → a + 10 * m ≤ 200000 → X (fun R : List Int × Int × Int => R.1.length ≤ 100) (fun k => spec_l1Cur_events.l0 k x m c a s) := by
  induction m with
  | zero =>
    intro x a s h1 h2 h3
    refine X.succ ?_
    simp only [spec_l1Cur_events.l0, show ¬ (((0 : Nat) : Int) > 0) by first | omega | (dsimp only; omega), if_false]
    exact X.some (by simp; first | omega | (dsimp only; omega))
  | succ m ih =>
    intro x a s h1 h2 h3
    refine X.succ ?_
    simp only [spec_l1Cur_events.l0, show (((m + 1 : Nat) : Int) > 0) by first | omega | (dsimp only; omega), if_true]
    obtain ⟨v, a1, s1, e1, p1, p2, _⟩ := pick_ok hc a s 6 h2 (by first | omega | (dsimp only; omega))
    obtain ⟨b, a2, s2, e2, q1, q2⟩ := one_ok hc a1 s1 100 (by first | omega | (dsimp only; omega)) (by first | omega | (dsimp only; omega))
    refine X.bnd0 e1 (X.bnd0 e2 ?_)
    rw [show wrap64 (((m + 1 : Nat) : Int) - 1) = (m : Int) by rw [wrap64_id (by first | omega | (dsimp only; omega)) (by first | omega | (dsimp only; omega))]; omega]
    have : x.length < 17592186044416 := by first | omega | (dsimp only; omega)
    refine X.ite (fun _ => X.pos this ?_) (fun _ => X.pos this ?_)
    · exact ih _ _ _ (by simp; first | omega | (dsimp only; omega)) (by first | omega | (dsimp only; omega)) (by first | omega | (dsimp only; omega))
    · exact ih _ _ _ (by simp; first | omega | (dsimp only; omega)) (by first | omega | (dsimp only; omega)) (by first | omega | (dsimp only; omega))
theorem evs {c : List Int} (hc : Code c) (a s : Int) (h0 : 0 ≤ a) (h1 : a ≤ 100000) : X (fun R : List Int × Int × Int => R.1.length ≤ 100) (fun k => spec_l1Cur_events.f k c a s) := by
  simp only [spec_l1Cur_events.f]
  obtain ⟨v, a1, s1, e1, p1, p2, p3, p4, _⟩ := pick_ok hc a s 12 h0 (by first | omega | (dsimp only; omega))
  obtain ⟨b, a2, s2, e2, q1, q2⟩ := one_ok hc a1 s1 20 (by first | omega | (dsimp only; omega)) (by first | omega | (dsimp only; omega))
  have hv := p4 (by first | omega | (dsimp only; omega))
  obtain ⟨n, rfl⟩ := nat_of p3
  refine X.bnd0 e1 (X.bnd0 e2 (X.ite (fun _ => ?_) (fun _ => ?_)))
  · obtain ⟨v3, a3, s3, e3, r1, r2, r3, r4, _⟩ := pick_ok hc a2 s2 3 (by first | omega | (dsimp only; omega)) (by first | omega | (dsimp only; omega))
    have hv3 := r4 (by first | omega | (dsimp only; omega))
    obtain ⟨n3, rfl⟩ := nat_of r3
    refine X.bnd0 e3 (X.succ ?_)
    simp only [spec_l1Cur_events.j0]
    rw [show wrap64 (59 + (n3 : Int)) = ((59 + n3 : Nat) : Int) by rw [wrap64_id (by first | omega | (dsimp only; omega)) (by first | omega | (dsimp only; omega))]; omega]
    exact evs_l0 hc _ _ _ _ (by simp; first | omega | (dsimp only; omega)) (by first | omega | (dsimp only; omega)) (by first | omega | (dsimp only; omega))
  · refine X.succ ?_
    simp only [spec_l1Cur_events.j0]
    exact evs_l0 hc _ _ _ _ (by simp; first | omega | (dsimp only; omega)) (by first | omega | (dsimp only; omega)) (by first | omega | (dsimp only; omega))
def Fin4 (R : List S88 × List S90 × Int × Int) : Prop := 0 ≤ R.2.2.1 ∧ R.2.2.1 ≤ 100000
def Up (n : Nat) (st : List S88) : Prop := st.length = n ∧ ∀ j : Nat, 1 ≤ j → j < n → 0 ≤ (rd_T88 st (j : Int)).f0 ∧ (rd_T88 st (j : Int)).f0 < n
theorem rdT_set (st : List S88) (m j : Nat) (v : S88) (hm : m < st.length) : rd_T88 (st.set m v) (j : Int) = if j = m then v else rd_T88 st (j : Int) := by
  unfold rd_T88
  rw [Int.toNat_natCast, List.getD_eq_getElem?_getD, List.getD_eq_getElem?_getD, List.getElem?_set]
  by_cases h : j = m
  · subst h; simp [hm]
  · rw [if_neg (by first | omega | (dsimp only; omega)), if_neg h]
theorem rdT_app (st : List S88) (v : S88) (j : Nat) : rd_T88 (st ++ [v]) (j : Int) = if j < st.length then rd_T88 st (j : Int) else if j = st.length then v else rd_T88 st (j : Int) := by
  unfold rd_T88
  rw [Int.toNat_natCast, List.getD_eq_getElem?_getD, List.getD_eq_getElem?_getD]
  by_cases h : j < st.length
  · rw [List.getElem?_append_left h, if_pos h]
  · rw [List.getElem?_append_right (by first | omega | (dsimp only; omega)), if_neg h]
    by_cases h2 : j = st.length
    · subst h2; simp
    · rw [if_neg h2, List.getElem?_eq_none (by simp; first | omega | (dsimp only; omega)), List.getElem?_eq_none (by first | omega | (dsimp only; omega))]
theorem ch_l2 {c : List Int} (hc : Code c) (n : Nat) (hn1 : 1 ≤ n) (hn : n ≤ 13) (st : List S88) (hst : st.length = n) (m : Nat) : ∀ (ar : List S90) (a s : Int), ar.length + m ≤ 100 → 0 ≤ a → a + 10 * m ≤ 50000 → X Fin4 (fun k => spec_l1Cur_chart.l2 k n m c a s st ar) := by
  induction m with
  | zero =>
    intro ar a s h1 h2 h3
    refine X.succ ?_
    simp only [spec_l1Cur_chart.l2, show ¬ (((0 : Nat) : Int) > 0) by first | omega | (dsimp only; omega), if_false]
    obtain ⟨v, a1, s1, e1, p1, p2, _⟩ := pick_ok hc a s 24 h2 (by first | omega | (dsimp only; omega))
    refine X.bnd0 e1 (X.ite (fun _ => ?_) (fun _ => X.ite (fun _ => X.pos (by first | omega | (dsimp only; omega)) (X.some ⟨by simp; first | omega | (dsimp only; omega), by simp; first | omega | (dsimp only; omega)⟩)) (fun _ => X.ite (fun _ => ?_) (fun _ => X.some ⟨by simp; first | omega | (dsimp only; omega), by simp; first | omega | (dsimp only; omega)⟩))))
    · obtain ⟨v2, a2, s2, e2, q1, q2, q3, q4, q5⟩ := pick_ok hc a1 s1 n (by first | omega | (dsimp only; omega)) (by first | omega | (dsimp only; omega))
      obtain ⟨v3, a3, s3, e3, r1, r2, _⟩ := pick_ok hc a2 s2 n (by first | omega | (dsimp only; omega)) (by first | omega | (dsimp only; omega))
      refine X.bnd0 e2 (X.bnd0 e3 (X.pos q3 (X.pos ?_ (X.some ⟨by simp; first | omega | (dsimp only; omega), by simp; first | omega | (dsimp only; omega)⟩))))
      by_cases h : 1 < (n : Int)
      · have := q4 h; simp only []; omega
      · have := q5 (by first | omega | (dsimp only; omega)); simp only []; omega
    · rw [show wrap64 ((n : Int) - 1) = (n : Int) - 1 by rw [wrap64_id (by first | omega | (dsimp only; omega)) (by first | omega | (dsimp only; omega))]]
      exact X.pos (by first | omega | (dsimp only; omega)) (X.pos (by first | omega | (dsimp only; omega)) (X.some ⟨by simp; first | omega | (dsimp only; omega), by simp; first | omega | (dsimp only; omega)⟩))
  | succ m ih =>
    intro ar a s h1 h2 h3
    refine X.succ ?_
    simp only [spec_l1Cur_chart.l2, show (((m + 1 : Nat) : Int) > 0) by first | omega | (dsimp only; omega), if_true]
    obtain ⟨v, a1, s1, e1, p1, p2, _⟩ := pick_ok hc a s n h2 (by first | omega | (dsimp only; omega))
    obtain ⟨v2, a2, s2, e2, q1, q2, _⟩ := pick_ok hc a1 s1 6 (by first | omega | (dsimp only; omega)) (by first | omega | (dsimp only; omega))
    obtain ⟨v3, a3, s3, e3, r1, r2, _⟩ := pick_ok hc a2 s2 n (by first | omega | (dsimp only; omega)) (by first | omega | (dsimp only; omega))
    rw [show wrap64 (((m + 1 : Nat) : Int) - 1) = (m : Int) by rw [wrap64_id (by first | omega | (dsimp only; omega)) (by first | omega | (dsimp only; omega))]; omega]
    exact X.bnd0 e1 (X.bnd0 e2 (X.bnd0 e3 (X.pos (by first | omega | (dsimp only; omega)) (ih _ _ _ (by simp; first | omega | (dsimp only; omega)) (by first | omega | (dsimp only; omega)) (by first | omega | (dsimp only; omega))))))
theorem Up.set {n : Nat} {st : List S88} (h : Up n st) (m : Nat) (hm : m < n) (f1 : Int) : Up n (st.set m ⟨(rd_T88 st (m : Int)).f0, f1⟩) := by
  refine ⟨by rw [List.length_set]; exact h.1, fun j h1 h2 => ?_⟩
  rw [rdT_set st m j _ (by rw [h.1]; exact hm)]
  by_cases e : j = m
  · subst e; rw [if_pos rfl]; exact h.2 j h1 h2
  · rw [if_neg e]; exact h.2 j h1 h2
theorem ch_l1 {c : List Int} (hc : Code c) (n : Nat) (hn : n ≤ 13) (d : Nat) : ∀ (i : Nat) (st : List S88) (a s : Int), 1 ≤ i → n ≤ i + d → Up n st → 0 ≤ a → a + 10 * d ≤ 20000 → X Fin4 (fun k => spec_l1Cur_chart.l1 k n i c a s st) := by
  have done : ∀ (i : Nat) (st : List S88) (a s : Int), n ≤ i → Up n st → 0 ≤ a → a ≤ 20000 → X Fin4 (fun k => spec_l1Cur_chart.l1 k n i c a s st) := by
    intro i st a s h1 hu h2 h3
    refine X.succ ?_
    simp only [spec_l1Cur_chart.l1, show ¬ ((i : Int) < (n : Int)) by first | omega | (dsimp only; omega), if_false]
    refine X.ite (fun _ => X.some ⟨by simp; first | omega | (dsimp only; omega), by simp; first | omega | (dsimp only; omega)⟩) (fun hz => ?_)
    obtain ⟨v, a1, s1, e1, p1, p2, p3, p4, _⟩ := pick_ok hc a s 10 h2 (by first | omega | (dsimp only; omega))
    have := p4 (by first | omega | (dsimp only; omega))
    obtain ⟨m, rfl⟩ := nat_of p3
    exact X.bnd0 e1 (ch_l2 hc n (by first | omega | (dsimp only; omega)) hn st hu.1 m _ _ _ (by simp; first | omega | (dsimp only; omega)) (by first | omega | (dsimp only; omega)) (by first | omega | (dsimp only; omega)))
  induction d with
  | zero => intro i st a s h0 h1 hu h2 h3; exact done i st a s (by first | omega | (dsimp only; omega)) hu h2 (by first | omega | (dsimp only; omega))
  | succ d ih =>
    intro i st a s h0 h1 hu h2 h3
    by_cases hi : n ≤ i
    · exact done i st a s hi hu h2 (by first | omega | (dsimp only; omega))
    have hl := hu.1
    have hj := hu.2 i h0 (by first | omega | (dsimp only; omega))
    obtain ⟨m, hm⟩ := nat_of hj.1
    refine X.succ ?_
    simp only [spec_l1Cur_chart.l1, hl, hm, show ((i : Int) < (n : Int)) by first | omega | (dsimp only; omega), show (0 : Int) ≤ (i : Int) by first | omega | (dsimp only; omega), show (0 : Int) ≤ (m : Int) by first | omega | (dsimp only; omega), show (m : Int) < (n : Int) by first | omega | (dsimp only; omega), if_true, Int.toNat_natCast]
    rw [show wrap64 ((i : Int) + 1) = ((i + 1 : Nat) : Int) by rw [wrap64_id (by first | omega | (dsimp only; omega)) (by first | omega | (dsimp only; omega))]; omega]
    have hs := hu.set m (by first | omega | (dsimp only; omega)) (i : Int)
    refine X.ite (fun _ => ih (i + 1) _ _ _ (by first | omega | (dsimp only; omega)) (by first | omega | (dsimp only; omega)) hs h2 (by first | omega | (dsimp only; omega))) (fun _ => ?_)
    obtain ⟨b, a2, s2, e2, q1, q2⟩ := one_ok hc a s 3 (by first | omega | (dsimp only; omega)) (by first | omega | (dsimp only; omega))
    exact X.bnd0 e2 (X.ite (fun _ => ih (i + 1) _ _ _ (by first | omega | (dsimp only; omega)) (by first | omega | (dsimp only; omega)) hs (by first | omega | (dsimp only; omega)) (by first | omega | (dsimp only; omega))) (fun _ => ih (i + 1) _ _ _ (by first | omega | (dsimp only; omega)) (by first | omega | (dsimp only; omega)) hu (by first | omega | (dsimp only; omega)) (by first | omega | (dsimp only; omega))))
theorem ch_l0 {c : List Int} (hc : Code c) (n : Nat) (hn : n ≤ 13) (d : Nat) : ∀ (i : Nat) (st : List S88) (a s : Int), i + d = n → st.length = i → (∀ j : Nat, 1 ≤ j → j < i → 0 ≤ (rd_T88 st (j : Int)).f0 ∧ (rd_T88 st (j : Int)).f0 < n) → 0 ≤ a → a + 10 * d ≤ 10000 → X Fin4 (fun k => spec_l1Cur_chart.l0 k n i c a s st) := by
  induction d with
  | zero =>
    intro i st a s h1 hl hu h2 h3
    refine X.succ ?_
    simp only [spec_l1Cur_chart.l0, show ¬ ((i : Int) < (n : Int)) by first | omega | (dsimp only; omega), if_false]
    exact ch_l1 hc n hn n 1 st a s (by first | omega | (dsimp only; omega)) (by first | omega | (dsimp only; omega)) ⟨by first | omega | (dsimp only; omega), fun j h1 h2 => hu j h1 (by first | omega | (dsimp only; omega))⟩ h2 (by first | omega | (dsimp only; omega))
  | succ d ih =>
    intro i st a s h1 hl hu h2 h3
    refine X.succ ?_
    simp only [spec_l1Cur_chart.l0, show ((i : Int) < (n : Int)) by first | omega | (dsimp only; omega), if_true]
    rw [show wrap64 ((i : Int) + 1) = ((i + 1 : Nat) : Int) by rw [wrap64_id (by first | omega | (dsimp only; omega)) (by first | omega | (dsimp only; omega))]; omega]
    have more : ∀ v : S88, (1 ≤ i → 0 ≤ v.f0 ∧ v.f0 < n) → ∀ j : Nat, 1 ≤ j → j < i + 1 → 0 ≤ (rd_T88 (st ++ [v]) (j : Int)).f0 ∧ (rd_T88 (st ++ [v]) (j : Int)).f0 < n := by
      intro v hv j j1 j2
      rw [rdT_app]
      by_cases e : j < st.length
      · rw [if_pos e]; exact hu j j1 (by first | omega | (dsimp only; omega))
      · rw [if_neg e, if_pos (by first | omega | (dsimp only; omega))]; exact hv (by first | omega | (dsimp only; omega))
    refine X.ite (fun hp => ?_) (fun hp => X.pos (by first | omega | (dsimp only; omega)) (ih (i + 1) _ _ _ (by first | omega | (dsimp only; omega)) (by simp; first | omega | (dsimp only; omega)) (more _ (fun h => by first | omega | (dsimp only; omega))) h2 (by first | omega | (dsimp only; omega))))
    obtain ⟨v, a1, s1, e1, p1, p2, p3, p4, p5⟩ := pick_ok hc a s i h2 (by first | omega | (dsimp only; omega))
    refine X.bnd0 e1 (X.pos (by first | omega | (dsimp only; omega)) (ih (i + 1) _ _ _ (by first | omega | (dsimp only; omega)) (by simp; first | omega | (dsimp only; omega)) (more _ (fun h => ⟨p3, ?_⟩)) (by first | omega | (dsimp only; omega)) (by first | omega | (dsimp only; omega))))
    simp only []
    by_cases h : 1 < (i : Int)
    · have := p4 h; omega
    · have := p5 (by first | omega | (dsimp only; omega)); omega
theorem chart_ok {c : List Int} (hc : Code c) : X Fin4 (fun k => spec_l1Cur_chart.f k c 0 0) := by
  simp only [spec_l1Cur_chart.f]
  have go : ∀ (n : Nat) (a s : Int), n ≤ 13 → 0 ≤ a → a ≤ 100 → X Fin4 (fun k => spec_l1Cur_chart.j0 k n c a s) := by
    intro n a s h1 h2 h3
    refine X.succ ?_
    simp only [spec_l1Cur_chart.j0]
    exact ch_l0 hc n h1 n 0 [] a s (by first | omega | (dsimp only; omega)) rfl (fun j _ h => by first | omega | (dsimp only; omega)) h2 (by first | omega | (dsimp only; omega))
  obtain ⟨v, a1, s1, e1, p1, p2, p3, p4, _⟩ := pick_ok hc 0 0 8 (by first | omega | (dsimp only; omega)) (by first | omega | (dsimp only; omega))
  have := p4 (by first | omega | (dsimp only; omega))
  obtain ⟨m, rfl⟩ := nat_of p3
  obtain ⟨b, a2, s2, e2, q1, q2⟩ := one_ok hc a1 s1 16 (by first | omega | (dsimp only; omega)) (by first | omega | (dsimp only; omega))
  refine X.bnd0 e1 (X.bnd0 e2 (X.ite (fun _ => ?_) (fun _ => ?_)))
  · obtain ⟨w, a3, s3, e3, r1, r2, r3⟩ := among_ok hc a2 s2 [0, 12, 13] (by simp) (by first | omega | (dsimp only; omega)) (by first | omega | (dsimp only; omega))
    have hw : w = 0 ∨ w = 12 ∨ w = 13 := by simpa using r3
    obtain ⟨n, rfl⟩ := nat_of (i := w) (by first | omega | (dsimp only; omega))
    exact X.bnd0 e3 (go n _ _ (by first | omega | (dsimp only; omega)) (by first | omega | (dsimp only; omega)) (by first | omega | (dsimp only; omega)))
  · rw [show wrap64 (1 + (m : Int)) = ((1 + m : Nat) : Int) by rw [wrap64_id (by first | omega | (dsimp only; omega)) (by first | omega | (dsimp only; omega))]; omega]
    exact go _ _ _ (by first | omega | (dsimp only; omega)) (by first | omega | (dsimp only; omega)) (by first | omega | (dsimp only; omega))
theorem drawRun_ok {c : List Int} (hc : Code c) : ∃ (st : List S88) (ar : List S90) (ev : List Int) (k : Nat), spec_DrawRunChart.f k c = some (st, ar, ev) ∧ ev.length ≤ 100 := by
  have : X (fun R : List S88 × List S90 × List Int => R.2.2.length ≤ 100) (fun k => spec_DrawRunChart.f k c) := by
    simp only [spec_DrawRunChart.f]
    exact X.bnd (chart_ok hc) (fun a ha => X.bnd (evs hc _ _ ha.1 ha.2) (fun b hb => X.some hb))
  obtain ⟨⟨st, ar, ev⟩, ⟨n, h⟩, h2⟩ := this
  exact ⟨st, ar, ev, n, h n (Nat.le_refl _), h2⟩
section
open Classical
set_option linter.unusedVariables false
theorem ev_one {α : Type} {g : Nat → Option α} {r s : α} (h : Ev g r) (h' : Ev g s) : r = s := by
  obtain ⟨n, h⟩ := h
  obtain ⟨m, h'⟩ := h'
  exact Option.some.inj ((h (max n m) (Nat.le_max_left _ _)).symm.trans (h' (max n m) (Nat.le_max_right _ _)))
theorem tab_row (st : List S88) (ar : List S90) (s : Nat) (hs : s < st.length) : rd_L2 (tab st ar) (s : Int) = row st ar s := by
  unfold rd_L2 tab
  rw [Int.toNat_natCast, List.getD_eq_getElem?_getD]
  simp [hs]
theorem tab_len (st : List S88) (ar : List S90) : (tab st ar).length = st.length := by simp [tab]
theorem row_len {st : List S88} {ar : List S90} {s : Nat} (h : (ST st s).f1 < 0) : (row st ar s).length = 6 := by unfold row; rw [if_pos h]; simp
theorem row_at {st : List S88} {ar : List S90} {s : Nat} (h : (ST st s).f1 < 0) (e : Nat) (he : e < 6) : rd (row st ar s) (e : Int) = stp st ar s e := by
  unfold row rd
  rw [if_pos h, Int.toNat_natCast, List.getD_eq_getElem?_getD]
  simp [he]
theorem tab_is {st : List S88} {ar : List S90} {s : Nat} (hs : s < st.length) (h : (ST st s).f1 < 0) : isB (tab st ar) (s : Int) = true := by
  unfold isB
  rw [tab_row st ar s hs, row_len h, tab_len]
  exact decide_eq_true ⟨by omega, by omega, by omega⟩
theorem tab_rows (st : List S88) (ar : List S90) : Rws (tab st ar) 0 := by
  intro j _ h2
  rw [tab_len] at h2
  have := tab_row st ar j h2
  unfold rd_L2 at this
  rw [Int.toNat_natCast] at this
  rw [this]
  unfold row
  split
  · right; simp
  · left; rfl
theorem run3 {st : List S88} {ar : List S90} (g : GC st ar) (l : List Int) (hl : l.length ≤ 60) (he : Evts l 0) (d : Nat) : ∀ (i leaf : Nat) (x : List Int), i + d = l.length → leaf < st.length → (ST st leaf).f1 < 0 → x.length = i →
    ∃ y : List Int, y.length ≤ 61 ∧ Ev (fun k => impl_RunChart.l0 k (x ++ [(leaf : Int)]) l (l.length : Int) i st ar) (y, true) ∧ Ev (fun k => spec_RunChart.l0 k leaf (x ++ [(leaf : Int)]) l (l.length : Int) i st ar) (y, true) ∧ Ev (fun k => impl_RunFlat.l1 k (tab st ar) leaf (x ++ [(leaf : Int)]) l i) (y, true) := by
  induction d with
  | zero =>
    intro i leaf x hi h1 h2 hx
    refine ⟨x ++ [(leaf : Int)], by simp; omega, Ev.succ ?_, Ev.succ ?_, Ev.succ ?_⟩
    · simp only [impl_RunChart.l0, show ¬ ((i : Int) < (l.length : Int)) by omega, if_false]
      exact Ev.some rfl
    · simp only [spec_RunChart.l0, show ¬ ((i : Int) < (l.length : Int)) by omega, if_false]
      exact Ev.some rfl
    · simp only [impl_RunFlat.l1, show ¬ ((i : Int) < (l.length : Int)) by omega, if_false]
      exact Ev.some rfl
  | succ d ih =>
    intro i leaf x hi h1 h2 hx
    obtain ⟨r, q1, q2, q3⟩ := step_ev g leaf h1 h2 (rd l (i : Int))
    have hev : 0 ≤ rd l (i : Int) ∧ rd l (i : Int) ≤ 5 := he i (by omega) (by omega)
    obtain ⟨e, he'⟩ := nat_of hev.1
    have hs := stp_ev (ar := ar) g leaf h1 h2 e
    rw [← he'] at hs
    have hrs : (r : Int) = stp st ar leaf e := ev_one q3 hs
    obtain ⟨y, y1, y3, y4, y5⟩ := ih (i + 1) r (x ++ [(leaf : Int)]) (by omega) q1 q2 (by simp [hx])
    have hlast : rd (x ++ [(leaf : Int)]) (((x ++ [(leaf : Int)]).length : Int) - 1) = leaf := by
      unfold rd
      rw [show (((x ++ [(leaf : Int)]).length : Int) - 1).toNat = x.length by simp]
      simp [List.getD_eq_getElem?_getD]
    have hlen : (x ++ [(leaf : Int)]).length = x.length + 1 := by simp
    refine ⟨y, y1, Ev.succ ?_, Ev.succ ?_, Ev.succ ?_⟩
    · simp only [impl_RunChart.l0, show ((i : Int) < (l.length : Int)) by omega, show (0 : Int) ≤ (i : Int) by omega, if_true, succ_w (show i < 1048577 by omega),
        wrap64_id (x := ((x ++ [(leaf : Int)]).length : Int) - 1) (by rw [hlen]; omega) (by rw [hlen]; omega), hlast]
      refine Ev.pos (by rw [hlen]; omega) (Ev.pos (by rw [hlen]; omega) (Ev.bnd q3 (Ev.pos (by rw [hlen]; omega) y3)))
    · simp only [spec_RunChart.l0, show ((i : Int) < (l.length : Int)) by omega, show (0 : Int) ≤ (i : Int) by omega, if_true, succ_w (show i < 1048577 by omega), step_same_f]
      exact Ev.bnd q3 (Ev.pos (by rw [hlen]; omega) y4)
    · have hv : rd (rd_L2 (tab st ar) (leaf : Int)) (rd l (i : Int)) = (r : Int) := by rw [tab_row st ar leaf h1, he', row_at h2 e (by omega), hrs]
      have a3 : rd l (i : Int) < ((rd_L2 (tab st ar) (leaf : Int)).length : Int) := by rw [tab_row st ar leaf h1, row_len h2]; omega
      simp only [impl_RunFlat.l1, hv, tab_len, tab_is q1 q2, show ((i : Int) < (l.length : Int)) by omega, show (0 : Int) ≤ (i : Int) by omega, show (0 : Int) ≤ (leaf : Int) by omega, show (leaf : Int) < (st.length : Int) by omega, hev.1, a3, if_true, succ_w (show i < 1048577 by omega)]
      exact Ev.pos (by rw [hlen]; omega) y5

theorem chart_flat (st : List S88) (ar : List S90) (l : List Int) (hl : l.length ≤ 1000) :
    ∃ (a : List Int) (ok : Bool) (t : List (List Int)) (is : Bool) (r : Int) (b : List Int) (told : Bool), a.length ≤ 61 ∧ Ev (fun k => impl_RunChart.f k st ar l) (a, ok) ∧ Ev (fun k => spec_RunChart.f k st ar l) (a, ok) ∧ Ev (fun k => impl_FlatChart.f k st ar) (t, is) ∧ Ev (fun k => impl_EnterState.f k st ar 0) r ∧ Ev (fun k => impl_RunFlat.f k t r l) (b, told) ∧ Ev (fun k => spec_GoodChart.f k st ar) is ∧
      (ok = true → is = true ∧ told = true ∧ b = a) := by
  have no : ∀ q x st ar, q = true → Ev (fun k => impl_RunChart.j0 k x q st ar) ([], false) ∧ Ev (fun k => spec_RunChart.j0 k x q st ar) ([], false) := by
    intro q x st ar hq
    subst hq
    refine ⟨Ev.succ ?_, Ev.succ ?_⟩
    · simp only [impl_RunChart.j0, if_true]; exact Ev.some rfl
    · simp only [spec_RunChart.j0, if_true]; exact Ev.some rfl
  by_cases g : GC st ar
  case neg =>
    obtain ⟨b, told, _, h1, _⟩ := runFlat_both [] (-1) l (by omega)
    refine ⟨[], false, [], false, -1, b, told, by simp, ?_, ?_, ?_, ?_, h1, ?_, fun h => by cases h⟩
    · simp only [impl_RunChart.f]; exact Ev.bnd (implGC st ar) (Ev.neg (by simpa using g) (no _ _ _ _ rfl).1)
    · simp only [spec_RunChart.f]; exact Ev.bnd (specGC st ar) (Ev.neg (by simpa using g) (no _ _ _ _ rfl).2)
    · simp only [impl_FlatChart.f]; exact Ev.bnd (implGC st ar) (Ev.neg (by simpa using g) (Ev.some rfl))
    · simp only [impl_EnterState.f]; exact Ev.bnd (implGC st ar) (Ev.neg (by simpa using g) (Ev.some rfl))
    · exact Ev.eq (specGC st ar) (by simpa using g)
  have hn := g.2.1
  have hn1 := g.1
  obtain ⟨r, h1, h2, h3⟩ := enter_ev g st.length 0 (by omega) (by omega)
  have eflat : Ev (fun k => impl_FlatChart.f k st ar) (tab st ar, true) := by
    simp only [impl_FlatChart.f]; exact Ev.bnd (implGC st ar) (Ev.pos (by simpa using g) (flat_l0 g hn st.length 0 (by omega)))
  have eent : Ev (fun k => impl_EnterState.f k st ar 0) (r : Int) := by
    simp only [impl_EnterState.f]
    rw [wrap64_id (x := (st.length : Int) - 1) (by omega) (by omega), btw, show decide ((0 : Int) ≤ 0 ∧ (0 : Int) ≤ (st.length : Int) - 1) = true from decide_eq_true ⟨by omega, by omega⟩]
    exact Ev.bnd (implGC st ar) (Ev.pos (by simpa using g) (Ev.bnd0 rfl (Ev.pos rfl (Ev.bnd h3 (Ev.some rfl)))))
  have egood : Ev (fun k => spec_GoodChart.f k st ar) true := Ev.eq (specGC st ar) (by simpa using g)
  by_cases he : Evts l 0 ∧ l.length ≤ 60
  case neg =>
    obtain ⟨b, told, _, h4, _⟩ := runFlat_both (tab st ar) r l (by omega)
    refine ⟨[], false, tab st ar, true, r, b, told, by simp, ?_, ?_, eflat, eent, h4, egood, fun h => by cases h⟩
    · simp only [impl_RunChart.f]; exact Ev.bnd (implGC st ar) (Ev.pos (by simpa using g) (Ev.bnd (goodEvents_ev l (by omega)) (no _ _ _ _ (by rw [decide_eq_false he]; rfl)).1))
    · simp only [spec_RunChart.f]; exact Ev.bnd (specGC st ar) (Ev.pos (by simpa using g) (Ev.bnd (events_ev l) (no _ _ _ _ (by rw [decide_eq_false he]; rfl)).2))
  obtain ⟨y, y1, y3, y4, y5⟩ := run3 g l he.2 he.1 l.length 0 r [] (by omega) h1 h2 rfl
  refine ⟨y, true, tab st ar, true, r, y, true, y1, ?_, ?_, eflat, eent, ?_, egood, fun _ => ⟨rfl, rfl, rfl⟩⟩
  · simp only [impl_RunChart.f]
    refine Ev.bnd (implGC st ar) (Ev.pos (by simpa using g) (Ev.bnd (goodEvents_ev l (by omega)) ?_))
    rw [show (!decide (Evts l 0 ∧ l.length ≤ 60)) = false by simpa using he]
    apply Ev.succ
    simp only [impl_RunChart.j0, Bool.false_eq_true, if_false, impl_Chart_enter.f]
    exact Ev.bnd h3 y3
  · simp only [spec_RunChart.f]
    refine Ev.bnd (specGC st ar) (Ev.pos (by simpa using g) (Ev.bnd (events_ev l) ?_))
    rw [show (!decide (Evts l 0 ∧ l.length ≤ 60)) = false by simpa using he]
    apply Ev.succ
    simp only [spec_RunChart.j0, Bool.false_eq_true, if_false, enter_same_f, impl_Chart_enter.f]
    exact Ev.bnd h3 y4
  · simp only [impl_RunFlat.f]
    refine Ev.neg (by rw [tab_len]; omega) (Ev.bnd (goodEvents_ev l (by omega)) (Ev.pos (by simpa using he) (irows (tab st ar) (by rw [tab_len]; omega) r l _ (tab st ar).length 0 (by omega) (fun _ => Ev.pos (tab_is h1 h2) y5) (fun h => absurd (tab_rows st ar) h))))
end
set_option linter.unusedVariables false
theorem ev_had {α : Type} {g : Nat → Option α} {r : α} (h : Ev g r) : ∃ k, g k = some r := by
  obtain ⟨n, h⟩ := h
  exact ⟨n, h n (Nat.le_refl _)⟩
theorem same_l0 (l : List Int) (hl : l.length ≤ 1000) (d : Nat) : ∀ i : Nat, i + d = l.length → Ev (fun k => spec_SameInts.l0 k l l (l.length : Int) i) true := by
  induction d with
  | zero =>
    intro i hi
    refine Ev.succ ?_
    simp only [spec_SameInts.l0, show ¬ ((i : Int) < (l.length : Int)) by omega, if_false]
    exact Ev.some rfl
  | succ d ih =>
    intro i hi
    refine Ev.succ ?_
    simp only [spec_SameInts.l0, show ((i : Int) < (l.length : Int)) by omega, show (0 : Int) ≤ (i : Int) by omega, if_true]
    rw [show wrap64 ((i : Int) + 1) = ((i + 1 : Nat) : Int) by rw [wrap64_id (by omega) (by omega)]; omega]
    exact ih (i + 1) (by omega)
theorem same_ev (l : List Int) (hl : l.length ≤ 1000) : Ev (fun k => spec_SameInts.f k l l) true := by
  simp only [spec_SameInts.f, if_true]
  exact same_l0 l hl l.length 0 (by omega)
theorem fchart_law (A0 : Option Addr) (c0 : Nat) (l0 : List Int) (w : World) (hr0 : Kd.C (Kd.int .u8) w A0 l0.length l0) (hc0 : l0.length ≤ c0) (hn0 : l0.length * 1 ≤ 140737488351232) (hq0 : ∀ x ∈ l0, (Lit.int .u8 x).wf = true) :
    Calls Try.prog 9 #[.slice A0 l0.length c0] w fun e w' => e = .returned (.bool true) ∧ Below w.heap.size w w' := by
  by_cases hbig : (l0.length : Int) > 1048576
  · exact law_chart_big A0 c0 l0 w hr0 hc0 hbig
  obtain ⟨st, ar, ev, k0, e0, hev⟩ := drawRun_ok (c := l0) ⟨by omega, fun y hy => by have := hq0 y hy; simp [Lit.wf, IntKind.min, IntKind.max, IntKind.bits, IntKind.signed] at this; omega⟩
  obtain ⟨a, ok, t, is, r, b, told, ha, i1, i2, i3, i4, i5, i6, hok⟩ := chart_flat st ar ev (by omega)
  obtain ⟨k1, e1⟩ := ev_had i1
  obtain ⟨k2, e2⟩ := ev_had i2
  obtain ⟨k3, e3⟩ := ev_had i3
  obtain ⟨k4, e4⟩ := ev_had i4
  obtain ⟨k5, e5⟩ := ev_had i5
  obtain ⟨k6, e6⟩ := ev_had i6
  cases ok with
  | true =>
    obtain ⟨rfl, rfl, rfl⟩ := hok rfl
    obtain ⟨k7, e7⟩ := ev_had (same_ev b (by omega))
    exact law_chart_yes A0 c0 l0 w hr0 hc0 st ar ev b t r k0 k1 k2 k3 k4 k5 k7 hbig e0 e1 e2 e3 e4 e5 e7
  | false =>
    exact law_chart_no A0 c0 l0 w hr0 hc0 st ar ev a b t r is told k0 k1 k2 k3 k4 k5 k6 hbig e0 e1 e2 e3 e4 e5 e6
end Go.Proofs.Ytkhkgfihodljmaa.Pure
