/-
Own text: a step between two cells: the program's and the reference's come to the same.
-/
import Derived.Test.YtjcmlggdaajicaaPureGrid
namespace Go.Proofs.Ytjcmlggdaajicaa.Pure
open Go.RowKit Go.Proofs.YtjcmlggdaajicaaW.PrintWords Go.Proofs.YtjcmlggdaajicaaW.PrintLast Go.Proofs.Ytjcmlggdaajicaa.Pr Go.Proofs.Ytjcmlggdaajicaa.EvKit
open Classical

/-- A whole number's square: 0, 1, or 4 at least. -/
theorem sq_cases (x : Int) : (x = 0 ∧ x * x = 0) ∨ ((x = 1 ∨ x = -1) ∧ x * x = 1) ∨ ((2 ≤ x ∨ x ≤ -2) ∧ 4 ≤ x * x) := by
  by_cases h0 : x = 0
  · exact Or.inl ⟨h0, by rw [h0]; rfl⟩
  by_cases h1 : x = 1
  · exact Or.inr (Or.inl ⟨Or.inl h1, by rw [h1]; rfl⟩)
  by_cases h2 : x = -1
  · exact Or.inr (Or.inl ⟨Or.inr h2, by rw [h2]; rfl⟩)
  · refine Or.inr (Or.inr ⟨by omega, ?_⟩)
    by_cases h3 : 2 ≤ x
    · have := Int.mul_le_mul h3 h3 (by omega) (by omega : (0 : Int) ≤ x)
      omega
    · have h4 : 2 ≤ -x := by omega
      have := Int.mul_le_mul h4 h4 (by omega) (by omega : (0 : Int) ≤ -x)
      rw [Int.neg_mul_neg] at this
      omega
theorem sq_le (x m : Int) (h1 : -m ≤ x) (h2 : x ≤ m) : x * x ≤ m * m := by
  have := Int.mul_nonneg (show 0 ≤ m - x by omega) (show 0 ≤ m + x by omega)
  rw [Int.sub_mul, Int.mul_add, Int.mul_add] at this
  have e : x * m = m * x := Int.mul_comm _ _
  omega
theorem abs_eq (x : Int) (h : -1000 ≤ x ∧ x ≤ 1000) : spec_l4Abs.f x = some (if x < 0 then -x else x) := by
  unfold spec_l4Abs.f
  by_cases c : x < 0
  · rw [if_pos c, if_pos c, wrap64_id (by omega) (by omega)]
  · rw [if_neg c, if_neg c]

/-- How far b lies from a, in columns and in rows. -/
def DX (w a b : Int) : Int := X_ w b - X_ w a
def DY (w a b : Int) : Int := Y_ w b - Y_ w a
def Sq2 (w a b : Int) : Int := DX w a b * DX w a b + DY w a b * DY w a b
/-- The step from a to b: 1 a straight one, 2 a slant one, 0 none. -/
noncomputable def Stp (w : Int) (c : List Int) (a b : Int) : Int :=
  if Fr c a ∧ Fr c b then (if Sq2 w a b = 1 then 1 else if Sq2 w a b = 2 ∧ Fr c (a + DX w a b) ∧ Fr c (a + DY w a b * w) then 2 else 0) else 0
theorem Stp_or (w : Int) (c : List Int) (a b : Int) : Stp w c a b = 0 ∨ Stp w c a b = 1 ∨ Stp w c a b = 2 := by
  unfold Stp
  by_cases h : Fr c a ∧ Fr c b
  · rw [if_pos h]
    by_cases h1 : Sq2 w a b = 1
    · rw [if_pos h1]; simp
    · rw [if_neg h1]
      by_cases h2 : Sq2 w a b = 2 ∧ Fr c (a + DX w a b) ∧ Fr c (a + DY w a b * w)
      · rw [if_pos h2]; simp
      · rw [if_neg h2]; simp
  · rw [if_neg h]; simp

section
variable {w : Int} {c : List Int}
theorem D_range (h : Cl w c) {a b : Int} (ha : Fr c a) (hb : Fr c b) : -15 ≤ DX w a b ∧ DX w a b ≤ 15 ∧ -15 ≤ DY w a b ∧ DY w a b ≤ 15 := by
  have h1 := X_range h a
  have h2 := X_range h b
  have h3 := Y_range h ha.1 ha.2.1
  have h4 := Y_range h hb.1 hb.2.1
  have h5 := h.w16
  have h6 := h.h16
  unfold DX DY
  omega
theorem Sq2_range (h : Cl w c) {a b : Int} (ha : Fr c a) (hb : Fr c b) : DX w a b * DX w a b ≤ 225 ∧ 0 ≤ DX w a b * DX w a b ∧ DY w a b * DY w a b ≤ 225 ∧ 0 ≤ DY w a b * DY w a b := by
  obtain ⟨h1, h2, h3, h4⟩ := D_range h ha hb
  have s1 := sq_le (DX w a b) 15 h1 h2
  have s2 := sq_le (DY w a b) 15 h3 h4
  have s3 := sq_cases (DX w a b)
  have s4 := sq_cases (DY w a b)
  omega
theorem dyw (h : Cl w c) {a b : Int} (ha : Fr c a) (hb : Fr c b) : -256 ≤ DY w a b * w ∧ DY w a b * w ≤ 256 := by
  obtain ⟨_, _, h3, h4⟩ := D_range h ha hb
  have h5 := h.w1
  have h6 := h.w16
  have m1 := Int.mul_le_mul_of_nonneg_right h4 (show 0 ≤ w by omega)
  have m2 := Int.mul_le_mul_of_nonneg_right h3 (show 0 ≤ w by omega)
  omega

theorem step_spec (h : Cl w c) (a b : Int) : Ev (fun k => spec_l18Step.f k w c a b) (Stp w c a b) := by
  simp only [spec_l18Step.f]
  have no : ¬ (Fr c a ∧ Fr c b) → Ev (fun k => spec_l18Step.j0 k a b true w c) (Stp w c a b) := by
    intro hn
    apply Ev.succ
    simp only [spec_l18Step.j0, if_true]
    exact Ev.some (by unfold Stp; rw [if_neg hn])
  by_cases ha : Fr c a
  · by_cases hb : Fr c b
    · refine Ev.bnd0 (free_spec w c a) (Ev.pos (by simpa using ha) (Ev.bnd0 (free_spec w c b) ?_))
      rw [decide_eq_true hb]
      apply Ev.succ
      obtain ⟨d1, d2, d3, d4⟩ := D_range h ha hb
      have hYa := Y_range h ha.1 ha.2.1
      have hYb := Y_range h hb.1 hb.2.1
      have hXa := X_range h a
      have hXb := X_range h b
      have hw := h.w1
      have hw2 := h.w16
      have hH := h.h16
      have hn := h.n256
      have hm := dyw h ha hb
      have s3 := sq_cases (DX w a b)
      have s4 := sq_cases (DY w a b)
      have hlta := ha.2.1
      have h0a := ha.1
      simp only [spec_l18Step.j0, Bool.not_true, Bool.false_eq_true, if_false, tmod_X ha.1, tmod_X hb.1, tdiv_Y ha.1, tdiv_Y hb.1, wrap64_id (x := Y_ w a) (by omega) (by omega), wrap64_id (x := Y_ w b) (by omega) (by omega),
        wrap64_id (x := X_ w b - X_ w a) (by omega) (by omega), wrap64_id (x := Y_ w b - Y_ w a) (by omega) (by omega)]
      have ed : X_ w b - X_ w a = DX w a b := rfl
      have ey : Y_ w b - Y_ w a = DY w a b := rfl
      simp only [ed, ey, abs_eq (DX w a b) (by omega), abs_eq (DY w a b) (by omega), Option.bind_some]
      have es : Stp w c a b = if Sq2 w a b = 1 then 1 else if Sq2 w a b = 2 ∧ Fr c (a + DX w a b) ∧ Fr c (a + DY w a b * w) then 2 else 0 := by
        unfold Stp; rw [if_pos ⟨ha, hb⟩]
      rw [es]
      unfold Sq2
      generalize DX w a b = x at *
      generalize DY w a b = y at *
      rw [wrap64_id (x := y * w) (by omega) (by omega), wrap64_id (x := a + x) (by omega) (by omega), wrap64_id (x := a + y * w) (by omega) (by omega)]
      generalize hp : (if x < 0 then -x else x) = p
      generalize hq : (if y < 0 then -y else y) = q
      have hp1 : p = 1 ↔ x * x = 1 := by
        by_cases c : x < 0
        · rw [if_pos c] at hp; omega
        · rw [if_neg c] at hp; omega
      have hq1 : q = 1 ↔ y * y = 1 := by
        by_cases c : y < 0
        · rw [if_pos c] at hq; omega
        · rw [if_neg c] at hq; omega
      have hp0 : (p = 0 ↔ x * x = 0) ∧ 0 ≤ p ∧ p ≤ 15 := by
        by_cases c : x < 0
        · rw [if_pos c] at hp; omega
        · rw [if_neg c] at hp; omega
      have hq0 : (q = 0 ↔ y * y = 0) ∧ 0 ≤ q ∧ q ≤ 15 := by
        by_cases c : y < 0
        · rw [if_pos c] at hq; omega
        · rw [if_neg c] at hq; omega
      rw [wrap64_id (x := p + q) (by omega) (by omega)]
      refine Ev.neg (by omega) ?_
      by_cases c1 : x * x + y * y = 1
      · rw [if_pos c1]
        exact Ev.pos (by omega) (Ev.some rfl)
      · rw [if_neg c1]
        refine Ev.neg (by omega) ?_
        by_cases c2 : x * x + y * y = 2
        · refine Ev.pos (by omega) (Ev.pos (by omega) (Ev.bnd0 (free_spec w c _) ?_))
          by_cases f1 : Fr c (a + x)
          · refine Ev.pos (by simpa using f1) (Ev.bnd0 (free_spec w c _) ?_)
            by_cases f2 : Fr c (a + y * w)
            · have eR : (if x * x + y * y = 2 ∧ Fr c (a + x) ∧ Fr c (a + y * w) then (2 : Int) else 0) = 2 := if_pos ⟨c2, f1, f2⟩
              rw [eR]
              exact Ev.pos (by simpa using f2) (Ev.some rfl)
            · have eR : (if x * x + y * y = 2 ∧ Fr c (a + x) ∧ Fr c (a + y * w) then (2 : Int) else 0) = 0 := if_neg (fun z => f2 z.2.2)
              rw [eR]
              exact Ev.neg (by simpa using f2) (Ev.some rfl)
          · have eR : (if x * x + y * y = 2 ∧ Fr c (a + x) ∧ Fr c (a + y * w) then (2 : Int) else 0) = 0 := if_neg (fun z => f1 z.2.1)
            rw [eR]
            exact Ev.neg (by simpa using f1) (Ev.some rfl)
        · have eR : (if x * x + y * y = 2 ∧ Fr c (a + x) ∧ Fr c (a + y * w) then (2 : Int) else 0) = 0 := if_neg (fun z => c2 z.1)
          rw [eR]
          exact Ev.ite (fun _ => Ev.neg (by omega) (Ev.some rfl)) (fun _ => Ev.some rfl)
    · refine Ev.bnd0 (free_spec w c a) (Ev.pos (by simpa using ha) (Ev.bnd0 (free_spec w c b) ?_))
      rw [decide_eq_false hb]
      exact no (fun x => hb x.2)
  · exact Ev.bnd0 (free_spec w c a) (Ev.neg (by simpa using ha) (no (fun x => ha x.1)))

/-- The program's step: what it costs, and whether there is one. -/
theorem step_impl (h : Cl w c) (a b : Int) : ∃ p q : Int, Ev (fun k => impl_Cells_step.f k w c a b) (p, q, decide (Stp w c a b ≠ 0)) ∧ (Stp w c a b = 1 → p = 1 ∧ q = 0) ∧ (Stp w c a b = 2 → p = 0 ∧ q = 1) := by
  simp only [impl_Cells_step.f]
  have no : ¬ (Fr c a ∧ Fr c b) → Stp w c a b = 0 ∧ Ev (fun k => impl_Cells_step.j0 k a b true w c) (0, 0, decide (Stp w c a b ≠ 0)) := by
    intro hn
    have e : Stp w c a b = 0 := by unfold Stp; rw [if_neg hn]
    refine ⟨e, Ev.succ ?_⟩
    simp only [impl_Cells_step.j0, if_true]
    exact Ev.some (by rw [e]; rfl)
  by_cases ha : Fr c a
  · by_cases hb : Fr c b
    · obtain ⟨d1, d2, d3, d4⟩ := D_range h ha hb
      have hYa := Y_range h ha.1 ha.2.1
      have hYb := Y_range h hb.1 hb.2.1
      have hXa := X_range h a
      have hXb := X_range h b
      have hw := h.w1
      have hw2 := h.w16
      have hH := h.h16
      have hn := h.n256
      have hs := Sq2_range h ha hb
      have ed : X_ w b - X_ w a = DX w a b := rfl
      have ey : Y_ w b - Y_ w a = DY w a b := rfl
      have es : Stp w c a b = if Sq2 w a b = 1 then 1 else if Sq2 w a b = 2 ∧ Fr c (a + DX w a b) ∧ Fr c (a + DY w a b * w) then 2 else 0 := by
        unfold Stp; rw [if_pos ⟨ha, hb⟩]
      -- the two cells beside
      have n1 : Nx w c a (DX w a b) 0 = a + DX w a b := by
        have := XY w a
        unfold Nx
        rw [if_pos (by unfold DX at *; omega), Int.add_zero]
        omega
      have n2 : Nx w c a 0 (DY w a b) = a + DY w a b * w := by
        have := XY w a
        unfold Nx
        rw [if_pos (by unfold DY at *; omega), Int.add_mul]
        omega
      have go : ∀ p q, Ev (fun k => impl_Cells_step.j0 k a b false w c) (p, q, decide (Stp w c a b ≠ 0)) → (Stp w c a b = 1 → p = 1 ∧ q = 0) → (Stp w c a b = 2 → p = 0 ∧ q = 1) →
          ∃ p q : Int, Ev (fun k => (impl_Cells_free.f w c a).bind fun t => if t = true then (impl_Cells_free.f w c b).bind fun t' => impl_Cells_step.j0 k a b (!t') w c else impl_Cells_step.j0 k a b true w c) (p, q, decide (Stp w c a b ≠ 0)) ∧ (Stp w c a b = 1 → p = 1 ∧ q = 0) ∧ (Stp w c a b = 2 → p = 0 ∧ q = 1) := by
        intro p q hj h1 h2
        refine ⟨p, q, Ev.bnd0 (free_impl w c a) (Ev.pos (by simpa using ha) (Ev.bnd0 (free_impl w c b) ?_)), h1, h2⟩
        rw [decide_eq_true hb]
        exact hj
      have body : ∀ p q, Ev (fun k => if Sq2 w a b = 1 then some (1, 0, true) else if Sq2 w a b = 2 then (some (decide (Fr c (a + DX w a b)))).bind fun t => (if t = true then (some (decide (Fr c (a + DY w a b * w)))).bind fun t2 => some (0, 1, t2) else some (0, 1, false)) else some (0, 0, false)) (p, q, decide (Stp w c a b ≠ 0)) →
          Ev (fun k => impl_Cells_step.j0 k a b false w c) ((p, q, decide (Stp w c a b ≠ 0)) : Int × Int × Bool) := by
        intro p q hh
        apply Ev.succ
        simp only [impl_Cells_step.j0, Bool.false_eq_true, if_false, tmod_X ha.1, tmod_X hb.1, tdiv_Y ha.1, tdiv_Y hb.1, wrap64_id (x := Y_ w a) (by omega) (by omega), wrap64_id (x := Y_ w b) (by omega) (by omega),
          ed, ey, wrap64_id (x := DX w a b) (by omega) (by omega), wrap64_id (x := DY w a b) (by omega) (by omega),
          wrap64_id (x := DX w a b * DX w a b) (by omega) (by omega), wrap64_id (x := DY w a b * DY w a b) (by omega) (by omega), wrap64_id (x := DX w a b * DX w a b + DY w a b * DY w a b) (by omega) (by omega),
          next_eq h ha.1 ha.2.1 (dx := DX w a b) (dy := 0) (by omega) (by omega), next_eq h ha.1 ha.2.1 (dx := 0) (dy := DY w a b) (by omega) (by omega), n1, n2, free_impl]
        refine Ev.neg (by omega) ?_
        simpa only [Sq2, Option.bind_some] using hh
      by_cases c1 : Sq2 w a b = 1
      · have e : Stp w c a b = 1 := by rw [es, if_pos c1]
        refine go 1 0 (body 1 0 (Ev.pos c1 (Ev.some (by rw [e]; rfl)))) (fun _ => ⟨rfl, rfl⟩) (fun x => by rw [e] at x; exact absurd x (by decide))
      · by_cases c2 : Sq2 w a b = 2
        · by_cases f1 : Fr c (a + DX w a b)
          · by_cases f2 : Fr c (a + DY w a b * w)
            · have e : Stp w c a b = 2 := by rw [es, if_neg c1, if_pos ⟨c2, f1, f2⟩]
              refine go 0 1 (body 0 1 (Ev.neg c1 (Ev.pos c2 ?_))) (fun x => by rw [e] at x; exact absurd x (by decide)) (fun _ => ⟨rfl, rfl⟩)
              rw [decide_eq_true f1, decide_eq_true f2]
              exact Ev.some (by rw [e]; rfl)
            · have e : Stp w c a b = 0 := by rw [es, if_neg c1, if_neg (fun z => f2 z.2.2)]
              refine go 0 1 (body 0 1 (Ev.neg c1 (Ev.pos c2 ?_))) (fun x => by rw [e] at x; exact absurd x (by decide)) (fun _ => ⟨rfl, rfl⟩)
              rw [decide_eq_true f1, decide_eq_false f2]
              exact Ev.some (by rw [e]; rfl)
          · have e : Stp w c a b = 0 := by rw [es, if_neg c1, if_neg (fun z => f1 z.2.1)]
            refine go 0 1 (body 0 1 (Ev.neg c1 (Ev.pos c2 ?_))) (fun x => by rw [e] at x; exact absurd x (by decide)) (fun _ => ⟨rfl, rfl⟩)
            rw [decide_eq_false f1]
            exact Ev.some (by rw [e]; rfl)
        · have e : Stp w c a b = 0 := by rw [es, if_neg c1, if_neg (fun z => c2 z.1)]
          exact go 0 0 (body 0 0 (Ev.neg c1 (Ev.neg c2 (Ev.some (by rw [e]; rfl))))) (fun x => by rw [e] at x; exact absurd x (by decide)) (fun x => by rw [e] at x; exact absurd x (by decide))
    · obtain ⟨e, f⟩ := no (fun x => hb x.2)
      refine ⟨0, 0, Ev.bnd0 (free_impl w c a) (Ev.pos (by simpa using ha) (Ev.bnd0 (free_impl w c b) ?_)), fun x => by omega, fun x => by omega⟩
      rw [decide_eq_false hb]
      exact f
  · obtain ⟨e, f⟩ := no (fun x => ha x.1)
    exact ⟨0, 0, Ev.bnd0 (free_impl w c a) (Ev.neg (by simpa using ha) f), fun x => by omega, fun x => by omega⟩
end
end Go.Proofs.Ytjcmlggdaajicaa.Pure
