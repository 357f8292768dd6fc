/-
Own text: cells and ends that are drawn: there are always some, not too many.
-/
import Derived.Test.YtjcmlggdaajicaaPrd2
import Derived.Test.YtjcmlggdaajicaaPureCells
import Derived.Test.YtjcmlggdaajicaaPureCur
namespace Go.Proofs.Ytjcmlggdaajicaa.Pure
open Go.RowKit Go.Proofs.YtjcmlggdaajicaaW.PrintWords Go.Proofs.YtjcmlggdaajicaaW.PrintLast Go.Proofs.Ytjcmlggdaajicaa.Pr Go.Proofs.Ytjcmlggdaajicaa.EvKit

theorem extent_ok {c : List Int} (hc : Code c) (a s : Int) (h0 : 0 ≤ a) (h1 : a ≤ 1000000000) : ∃ w h a' s', spec_l1Cur_extent.f c a s = some (w, h, a', s') ∧ 0 ≤ w ∧ w ≤ 17 ∧ 0 ≤ h ∧ h ≤ 17 ∧ a ≤ a' ∧ a' ≤ a + 6 := by
  unfold spec_l1Cur_extent.f
  obtain ⟨b, a1, s1, e1, p1, p2⟩ := one_ok hc a s 12 h0 (by omega)
  rw [e1]
  simp only [Option.bind_some]
  cases b with
  | true =>
    obtain ⟨w, a2, s2, e2, q1, q2, hw⟩ := among_ok hc a1 s1 [16, 1, 17, 0] (by simp) (by omega) (by omega)
    obtain ⟨h, a3, s3, e3, r1, r2, hh⟩ := among_ok hc a2 s2 [16, 1, 0, 17] (by simp) (by omega) (by omega)
    simp only [List.mem_cons, List.not_mem_nil, or_false] at hw hh
    rw [if_pos rfl, e2]
    simp only [Option.bind_some]
    rw [e3]
    exact ⟨w, h, a3, s3, rfl, by omega, by omega, by omega, by omega, by omega, by omega⟩
  | false =>
    obtain ⟨w, a2, s2, e2, q1, q2, q3, q4, _⟩ := pick_ok hc a1 s1 6 (by omega) (by omega)
    obtain ⟨h, a3, s3, e3, r1, r2, r3, r4, _⟩ := pick_ok hc a2 s2 6 (by omega) (by omega)
    have := q4 (by omega)
    have := r4 (by omega)
    rw [if_neg (by simp), e2]
    simp only [Option.bind_some]
    rw [e3]
    simp only [Option.bind_some]
    rw [wrap64_id (x := 1 + w) (by omega) (by omega), wrap64_id (x := 1 + h) (by omega) (by omega)]
    exact ⟨1 + w, 1 + h, a3, s3, rfl, by omega, by omega, by omega, by omega, by omega, by omega⟩

theorem cells_j1 {c : List Int} (hc : Code c) (w : Int) (x : List Int) (hx : x.length ≤ 900) (b : Bool) (hb : b = true → 0 < x.length) (a s : Int) (h0 : 0 ≤ a) (h1 : a ≤ 2000000000) :
    ∃ (m : List Int) (a' s' : Int), Ev (fun k => spec_l1Cur_cells.j1 k b c a s w x) (w, m, a', s') ∧ m.length ≤ 1000 ∧ a ≤ a' ∧ a' ≤ a + 4 := by
  cases b with
  | true =>
    have hl := hb rfl
    obtain ⟨v, a1, s1, e1, p1, p2, _⟩ := among_ok hc a s [-1, 3] (by simp) h0 (by omega)
    obtain ⟨b2, a2, s2, e2, q1, q2⟩ := one_ok hc a1 s1 30 (by omega) (by omega)
    have hlen : (x.set (0 : Int).toNat v).length = x.length := by simp
    cases b2 with
    | true =>
      refine ⟨x.set (0 : Int).toNat v ++ [0], a2, s2, Ev.succ ?_, by simp; omega, by omega, by omega⟩
      simp only [spec_l1Cur_cells.j1]
      refine Ev.pos trivial (Ev.bnd0 e1 (Ev.pos (by omega) ?_))
      simp only [Option.bind_some]
      refine Ev.bnd0 e2 (Ev.pos rfl (Ev.pos (by rw [hlen]; omega) (Ev.some rfl)))
    | false =>
      refine ⟨x.set (0 : Int).toNat v, a2, s2, Ev.succ ?_, by simp; omega, by omega, by omega⟩
      simp only [spec_l1Cur_cells.j1]
      refine Ev.pos trivial (Ev.bnd0 e1 (Ev.pos (by omega) ?_))
      simp only [Option.bind_some]
      exact Ev.bnd0 e2 (Ev.neg (by simp) (Ev.some rfl))
  | false =>
    obtain ⟨b2, a2, s2, e2, q1, q2⟩ := one_ok hc a s 30 h0 (by omega)
    cases b2 with
    | true =>
      refine ⟨x ++ [0], a2, s2, Ev.succ ?_, by simp; omega, by omega, by omega⟩
      simp only [spec_l1Cur_cells.j1]
      exact Ev.neg (by simp) (Ev.bnd0 e2 (Ev.pos rfl (Ev.pos (by omega) (Ev.some rfl))))
    | false =>
      refine ⟨x, a2, s2, Ev.succ ?_, by omega, by omega, by omega⟩
      simp only [spec_l1Cur_cells.j1]
      exact Ev.neg (by simp) (Ev.bnd0 e2 (Ev.neg (by simp) (Ev.some rfl)))

theorem drawC_l0 {c : List Int} (hc : Code c) (w h : Int) (n : Nat) (hn : wrap64 (w * h) = (n : Int)) (hn2 : n ≤ 300) (walls W : Int) (d : Nat) : ∀ (i : Nat) (x : List Int) (a s : Int), i + d = n → x.length = i → 0 ≤ a → a + 8 * d ≤ 1000000000 →
    ∃ (m : List Int) (a' s' : Int), Ev (fun k => spec_l1Cur_cells.l0 k w h walls (i : Int) c a s W x) (W, m, a', s') ∧ m.length ≤ 1000 ∧ a ≤ a' ∧ a' ≤ a + 8 * d + 6 := by
  induction d with
  | zero =>
    intro i x a s hi hx h0 h1
    obtain ⟨b, a1, s1, e1, p1, p2⟩ := one_ok hc a s 24 h0 (by omega)
    cases b with
    | true =>
      obtain ⟨m, a2, s2, e2, q1, q2, q3⟩ := cells_j1 hc W x (by omega) (decide ((x.length : Int) > 0)) (by simp) a1 s1 (by omega) (by omega)
      refine ⟨m, a2, s2, Ev.succ ?_, q1, by omega, by omega⟩
      simp only [spec_l1Cur_cells.l0, hn]
      exact Ev.neg (by omega) (Ev.bnd0 e1 (Ev.pos rfl e2))
    | false =>
      obtain ⟨m, a2, s2, e2, q1, q2, q3⟩ := cells_j1 hc W x (by omega) false (by simp) a1 s1 (by omega) (by omega)
      refine ⟨m, a2, s2, Ev.succ ?_, q1, by omega, by omega⟩
      simp only [spec_l1Cur_cells.l0, hn]
      exact Ev.neg (by omega) (Ev.bnd0 e1 (Ev.neg (by simp) e2))
  | succ d ih =>
    intro i x a s hi hx h0 h1
    obtain ⟨v, a1, s1, e1, p1, p2, _⟩ := pick_ok hc a s 10 h0 (by omega)
    obtain ⟨b, a2, s2, e2, q1, q2⟩ := one_ok hc a1 s1 20 (by omega) (by omega)
    have nx : ∀ k : Int, ∃ (m : List Int) (a' s' : Int), Ev (fun q => spec_l1Cur_cells.l0 q w h walls ((i + 1 : Nat) : Int) c a2 s2 W (x ++ [k])) (W, m, a', s') ∧ m.length ≤ 1000 ∧ a ≤ a' ∧ a' ≤ a + 8 * ((d + 1 : Nat) : Int) + 6 := by
      intro k
      obtain ⟨m, a3, s3, e3, r1, r2, r3⟩ := ih (i + 1) (x ++ [k]) a2 s2 (by omega) (by simp; omega) (by omega) (by omega)
      exact ⟨m, a3, s3, e3, r1, by omega, by omega⟩
    have hw : ((i : Int) < (n : Int)) := by omega
    have fin : ∀ k : Int, (b = true → k = 2) → (b = false → v < walls → k = 1) → (b = false → ¬ v < walls → k = 0) → ∃ (m : List Int) (a' s' : Int), Ev (fun q => spec_l1Cur_cells.l0 q w h walls (i : Int) c a s W x) (W, m, a', s') ∧ m.length ≤ 1000 ∧ a ≤ a' ∧ a' ≤ a + 8 * ((d + 1 : Nat) : Int) + 6 := by
      intro k k1 k2 k3
      obtain ⟨m, a3, s3, e3, r⟩ := nx k
      refine ⟨m, a3, s3, Ev.succ ?_, r⟩
      simp only [spec_l1Cur_cells.l0, hn, succ_w (show i < 35184372088833 by omega)]
      refine Ev.pos hw (Ev.bnd0 e1 (Ev.ite (fun hv => Ev.bnd0 e2 ?_) (fun hv => Ev.bnd0 e2 ?_)))
      · cases b with
        | true => rw [k1 rfl] at e3; exact Ev.pos rfl (Ev.pos (by omega) e3)
        | false => rw [k2 rfl hv] at e3; exact Ev.neg (by simp) (Ev.pos (by omega) e3)
      · cases b with
        | true => rw [k1 rfl] at e3; exact Ev.pos rfl (Ev.pos (by omega) e3)
        | false => rw [k3 rfl hv] at e3; exact Ev.neg (by simp) (Ev.pos (by omega) e3)
    cases b with
    | true => exact fin 2 (fun _ => rfl) (fun h => by cases h) (fun h => by cases h)
    | false =>
      by_cases hv : v < walls
      · exact fin 1 (fun h => by cases h) (fun _ _ => rfl) (fun _ h => absurd hv h)
      · exact fin 0 (fun h => by cases h) (fun _ h => absurd h hv) (fun _ _ => rfl)

theorem cells_ok {c : List Int} (hc : Code c) (a s : Int) (h0 : 0 ≤ a) (h1 : a ≤ 900000000) :
    ∃ (w : Int) (m : List Int) (a' s' : Int), Ev (fun k => spec_l1Cur_cells.f k c a s) (w, m, a', s') ∧ m.length ≤ 1000 ∧ a ≤ a' ∧ a' ≤ a + 3000 := by
  obtain ⟨w, h, a1, s1, e1, w0, w1, h2, h3, p1, p2⟩ := extent_ok hc a s h0 (by omega)
  obtain ⟨v, a2, s2, e2, q1, q2, _⟩ := pick_ok hc a1 s1 5 (by omega) (by omega)
  have m0 := Int.mul_nonneg w0 h2
  have m1 := Int.mul_le_mul w1 h3 h2 (by omega : (0 : Int) ≤ 17)
  obtain ⟨n, hn⟩ := nat_of m0
  obtain ⟨m, a3, s3, e3, r1, r2, r3⟩ := drawC_l0 hc w h n (by rw [wrap64_id (by omega) (by omega)]; exact hn) (by omega) v w n 0 [] a2 s2 (by omega) rfl (by omega) (by omega)
  refine ⟨w, m, a3, s3, ?_, r1, by omega, by omega⟩
  simp only [spec_l1Cur_cells.f]
  exact Ev.bnd0 e1 (Ev.bnd0 e2 e3)

theorem places_l0 (w : Int) (m : List Int) (hm : m.length ≤ 1000) (d : Nat) : ∀ (i : Nat) (x : List Int), i + d = m.length → x.length ≤ i → ∃ r : List Int, Ev (fun k => spec_AllPlaces.l0 k x (m.length : Int) i w m) r ∧ r.length ≤ 1000 := by
  induction d with
  | zero =>
    intro i x hi hx
    refine ⟨x, Ev.succ ?_, by omega⟩
    simp only [spec_AllPlaces.l0]
    exact Ev.neg (by omega) (Ev.some rfl)
  | succ d ih =>
    intro i x hi hx
    by_cases hz : rd m (i : Int) = 0
    · obtain ⟨r, e, hr⟩ := ih (i + 1) (x ++ [(i : Int)]) (by omega) (by simp; omega)
      refine ⟨r, Ev.succ ?_, hr⟩
      simp only [spec_AllPlaces.l0, succ_w (show i < 35184372088833 by omega)]
      exact Ev.pos (by omega) (Ev.pos (by omega) (Ev.pos (by omega) (Ev.pos hz (Ev.pos (by omega) e))))
    · obtain ⟨r, e, hr⟩ := ih (i + 1) x (by omega) (by omega)
      refine ⟨r, Ev.succ ?_, hr⟩
      simp only [spec_AllPlaces.l0, succ_w (show i < 35184372088833 by omega)]
      exact Ev.pos (by omega) (Ev.pos (by omega) (Ev.pos (by omega) (Ev.neg hz e)))
theorem places_ok (w : Int) (m : List Int) (hm : m.length ≤ 1000) : ∃ r : List Int, Ev (fun k => spec_AllPlaces.f k w m) r ∧ r.length ≤ 1000 := by
  simp only [spec_AllPlaces.f]
  by_cases h : Cl w m
  · obtain ⟨r, e, hr⟩ := places_l0 w m hm m.length 0 [] (by omega) (by simp)
    exact ⟨r, Ev.bnd (goodCells_spec w m (by omega)) (Ev.pos (by simpa using h) e), hr⟩
  · exact ⟨[], Ev.bnd (goodCells_spec w m (by omega)) (Ev.neg (by simpa using h) (Ev.some rfl)), by simp⟩

theorem ends_ok {c : List Int} (hc : Code c) (a s : Int) (h0 : 0 ≤ a) (h1 : a ≤ 100000000) :
    ∃ (w : Int) (m : List Int) (x y a' s' : Int), Ev (fun k => spec_l1Cur_ends.f k c a s) (w, m, x, y, a', s') ∧ m.length ≤ 1000 ∧ a ≤ a' ∧ a' ≤ a + 4000 := by
  obtain ⟨w, m, a1, s1, e1, hm, p1, p2⟩ := cells_ok hc a s h0 (by omega)
  obtain ⟨r, e2, hr⟩ := places_ok w m hm
  have yes : ∀ a1 s1 : Int, 0 ≤ a1 → a1 ≤ 200000000 → ∃ (x y a' s' : Int), Ev (fun k => spec_l1Cur_ends.j0 k r true c a1 s1 w m) (w, m, x, y, a', s') ∧ a1 ≤ a' ∧ a' ≤ a1 + 4 := by
    intro a1 s1 g0 g1
    obtain ⟨x, a2, s2, f1, t1, t2, _⟩ := pick_ok hc a1 s1 (wrap64 ((m.length : Int) + 1)) g0 (by omega)
    obtain ⟨y, a3, s3, f2, u1, u2, _⟩ := pick_ok hc a2 s2 (wrap64 ((m.length : Int) + 1)) (by omega) (by omega)
    refine ⟨x, wrap64 (y - 1), a3, s3, Ev.succ ?_, by omega, by omega⟩
    simp only [spec_l1Cur_ends.j0]
    exact Ev.pos trivial (Ev.bnd0 f1 (Ev.bnd0 f2 (Ev.some rfl)))
  simp only [spec_l1Cur_ends.f]
  by_cases hz : (r.length : Int) = 0
  · obtain ⟨x, y, a2, s2, e3, q1, q2⟩ := yes a1 s1 (by omega) (by omega)
    exact ⟨w, m, x, y, a2, s2, Ev.bnd e1 (Ev.bnd e2 (Ev.pos hz e3)), hm, by omega, by omega⟩
  · obtain ⟨b, a2, s2, f1, t1, t2⟩ := one_ok hc a1 s1 16 (by omega) (by omega)
    cases b with
    | true =>
      obtain ⟨x, y, a3, s3, e3, q1, q2⟩ := yes a2 s2 (by omega) (by omega)
      exact ⟨w, m, x, y, a3, s3, Ev.bnd e1 (Ev.bnd e2 (Ev.neg hz (Ev.bnd0 f1 e3))), hm, by omega, by omega⟩
    | false =>
      obtain ⟨i, a3, s3, f2, u1, u2, u3, u4, u5⟩ := pick_ok hc a2 s2 (r.length : Int) (by omega) (by omega)
      obtain ⟨j, a4, s4, f3, v1, v2, v3, v4, v5⟩ := pick_ok hc a3 s3 (r.length : Int) (by omega) (by omega)
      have hi : i < (r.length : Int) := by
        by_cases h : (1 : Int) < r.length
        · exact u4 h
        · have := u5 (by omega)
          omega
      have hj : j < (r.length : Int) := by
        by_cases h : (1 : Int) < r.length
        · exact v4 h
        · have := v5 (by omega)
          omega
      refine ⟨w, m, rd r i, rd r j, a4, s4, Ev.bnd e1 (Ev.bnd e2 (Ev.neg hz (Ev.bnd0 f1 (Ev.succ ?_)))), hm, by omega, by omega⟩
      simp only [spec_l1Cur_ends.j0]
      exact Ev.neg (by simp) (Ev.bnd0 f2 (Ev.pos u3 (Ev.pos hi (Ev.bnd0 f3 (Ev.pos v3 (Ev.pos hj (Ev.some rfl)))))))
end Go.Proofs.Ytjcmlggdaajicaa.Pure
