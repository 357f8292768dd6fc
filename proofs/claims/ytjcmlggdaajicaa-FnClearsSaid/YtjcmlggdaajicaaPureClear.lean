/-
Own text: whether a straight line is clear: the program and the reference come to the same.
-/
import Derived.Test.YtjcmlggdaajicaaPureGrid
import Derived.Test.YtjcmlggdaajicaaHdClear
import Derived.Test.YtjcmlggdaajicaaPrd2
namespace Go.Proofs.Ytjcmlggdaajicaa.Pure
open Go.RowKit Go.Proofs.YtjcmlggdaajicaaW.PrintWords Go.Proofs.YtjcmlggdaajicaaW.PrintLast Go.Proofs.Ytjcmlggdaajicaa.Pr Go.Proofs.Ytjcmlggdaajicaa.EvKit
open Classical

section
variable {x1 y1 x2 y2 x y : Int} (bx1 : 0 ≤ x1 ∧ x1 ≤ 30) (by1 : 0 ≤ y1 ∧ y1 ≤ 510) (bx2 : 0 ≤ x2 ∧ x2 ≤ 30) (by2 : 0 ≤ y2 ∧ y2 ≤ 510) (bx : 0 ≤ x ∧ x ≤ 30) (by_ : 0 ≤ y ∧ y ≤ 510)
include bx1 by1 bx2 by2 bx by_

def up (s : Int) : Int := if s > 0 then 1 else 0
def dn (s : Int) : Int := if s < 0 then 1 else 0
omit bx1 by1 bx2 by2 bx by_ in
theorem up_in (s : Int) : 0 ≤ up s ∧ up s ≤ 1 := by unfold up; by_cases h : s > 0 <;> simp [h]
omit bx1 by1 bx2 by2 bx by_ in
theorem dn_in (s : Int) : 0 ≤ dn s ∧ dn s ≤ 1 := by unfold dn; by_cases h : s < 0 <;> simp [h]

theorem meets_step (u v dx dy : Int) (hu : 0 ≤ u ∧ u ≤ 9) (hv : 0 ≤ v ∧ v ≤ 9) (hdx : -1 ≤ dx ∧ dx ≤ 1) (hdy : -1 ≤ dy ∧ dy ≤ 1) (xs ys : List Int) (hys : ys.length = 2) (i j : Int) (hj : j = 0 ∨ j = 1) (hy : rd ys j = y + dy) (r : Bool)
    (h : Ev (fun k => spec_l18Meets.l1 k x1 y1 (y - 1) (y + 1) (x2 - x1) (y2 - y1) (u + up ((x2 - x1) * (y + dy - y1) - (y2 - y1) * (x + dx - x1))) (v + dn ((x2 - x1) * (y + dy - y1) - (y2 - y1) * (x + dx - x1))) (x + dx) xs (xs.length : Int) i ys 2 (j + 1)) r) :
    Ev (fun k => spec_l18Meets.l1 k x1 y1 (y - 1) (y + 1) (x2 - x1) (y2 - y1) u v (x + dx) xs (xs.length : Int) i ys 2 j) r := by
  have es := side_eq (x1 := x1) (y1 := y1) (x2 := x2) (y2 := y2) (x := x) (y := y) (dx := dx) (dy := dy) bx1 by1 bx2 by2 bx by_ hdx hdy
  apply Ev.succ
  simp only [spec_l18Meets.l1, hy, wrap64_id (x := y + dy - y1) (by omega) (by omega), wrap64_id (x := x + dx - x1) (by omega) (by omega), es, wrap64_id (x := u + 1) (by omega) (by omega), wrap64_id (x := v + 1) (by omega) (by omega), wrap64_id (x := j + 1) (by omega) (by omega)]
  generalize (x2 - x1) * (y + dy - y1) - (y2 - y1) * (x + dx - x1) = s at h
  unfold up dn at h
  refine Ev.pos (by omega) (Ev.pos (by omega) (Ev.pos (by omega) (Ev.ite (fun h1 => Ev.ite (fun h2 => by omega) (fun h2 => ?_)) (fun h1 => Ev.ite (fun h2 => ?_) (fun h2 => ?_)))))
  · rw [if_pos h1, if_neg h2, Int.add_zero] at h
    exact h
  · rw [if_neg h1, if_pos h2, Int.add_zero] at h
    exact h
  · rw [if_neg h1, if_neg h2, Int.add_zero, Int.add_zero] at h
    exact h

theorem meets_j0 (b : Bool) : Ev (fun k => spec_l18Meets.j0 k x1 y1 x2 y2 (x - 1) (x + 1) (y - 1) (y + 1) b) (!b && (lessTo x1 y1 x2 y2 x y 4 && moreTo x1 y1 x2 y2 x y 4)) := by
  cases b with
  | true =>
    apply Ev.succ
    simp only [spec_l18Meets.j0]
    exact Ev.pos trivial (Ev.some rfl)
  | false =>
    apply Ev.succ
    simp only [spec_l18Meets.j0, Option.bind_some, wrap64_id (x := x2 - x1) (by omega) (by omega), wrap64_id (x := y2 - y1) (by omega) (by omega)]
    refine Ev.neg (by simp) ?_
    apply Ev.succ
    simp only [spec_l18Meets.l0, Option.bind_some]
    refine Ev.pos (by simp) (Ev.pos (by omega) (Ev.pos (by simp) ?_))
    rw [show rd [x - 1, x + 1] 0 = x + (-1) from rfl]
    have b0 := up_in (sideOf x1 y1 x2 y2 x y 0)
    have b1 := up_in (sideOf x1 y1 x2 y2 x y 1)
    have b2 := up_in (sideOf x1 y1 x2 y2 x y 2)
    have b3 := up_in (sideOf x1 y1 x2 y2 x y 3)
    have d0 := dn_in (sideOf x1 y1 x2 y2 x y 0)
    have d1 := dn_in (sideOf x1 y1 x2 y2 x y 1)
    have d2 := dn_in (sideOf x1 y1 x2 y2 x y 2)
    have d3 := dn_in (sideOf x1 y1 x2 y2 x y 3)
    refine meets_step bx1 by1 bx2 by2 bx by_ 0 0 (-1) (-1) (by omega) (by omega) (by omega) (by omega) _ [y - 1, y + 1] rfl 0 0 (by omega) rfl _ ?_
    rw [show (x2 - x1) * (y + -1 - y1) - (y2 - y1) * (x + -1 - x1) = sideOf x1 y1 x2 y2 x y 0 from rfl]
    refine meets_step bx1 by1 bx2 by2 bx by_ _ _ (-1) 1 (by omega) (by omega) (by omega) (by omega) _ [y - 1, y + 1] rfl 0 (0 + 1) (by omega) rfl _ ?_
    rw [show (x2 - x1) * (y + 1 - y1) - (y2 - y1) * (x + -1 - x1) = sideOf x1 y1 x2 y2 x y 1 from rfl]
    apply Ev.succ
    simp only [spec_l18Meets.l1]
    refine Ev.neg (by omega) ?_
    rw [wrap64_id (x := (0 : Int) + 1) (by omega) (by omega)]
    apply Ev.succ
    simp only [spec_l18Meets.l0, Option.bind_some]
    refine Ev.pos (by simp) (Ev.pos (by omega) (Ev.pos (by simp) ?_))
    rw [show rd [x - 1, x + 1] (0 + 1) = x + 1 from rfl]
    refine meets_step bx1 by1 bx2 by2 bx by_ _ _ 1 (-1) (by omega) (by omega) (by omega) (by omega) _ [y - 1, y + 1] rfl _ 0 (by omega) rfl _ ?_
    rw [show (x2 - x1) * (y + -1 - y1) - (y2 - y1) * (x + 1 - x1) = sideOf x1 y1 x2 y2 x y 2 from rfl]
    refine meets_step bx1 by1 bx2 by2 bx by_ _ _ 1 1 (by omega) (by omega) (by omega) (by omega) _ [y - 1, y + 1] rfl _ (0 + 1) (by omega) rfl _ ?_
    rw [show (x2 - x1) * (y + 1 - y1) - (y2 - y1) * (x + 1 - x1) = sideOf x1 y1 x2 y2 x y 3 from rfl]
    apply Ev.succ
    simp only [spec_l18Meets.l1]
    refine Ev.neg (by omega) ?_
    rw [wrap64_id (x := (0 : Int) + 1 + 1) (by omega) (by omega)]
    apply Ev.succ
    simp only [spec_l18Meets.l0]
    refine Ev.neg (by simp) ?_
    unfold lessTo lessTo lessTo lessTo lessTo moreTo moreTo moreTo moreTo moreTo
    generalize sideOf x1 y1 x2 y2 x y 0 = s0 at *
    generalize sideOf x1 y1 x2 y2 x y 1 = s1 at *
    generalize sideOf x1 y1 x2 y2 x y 2 = s2 at *
    generalize sideOf x1 y1 x2 y2 x y 3 = s3 at *
    have hu : (0 + up s0 + up s1 + up s2 + up s3 < 4) ↔ (s0 ≤ 0 ∨ s1 ≤ 0 ∨ s2 ≤ 0 ∨ s3 ≤ 0) := by
      unfold up
      by_cases h0 : s0 > 0 <;> by_cases h1 : s1 > 0 <;> by_cases h2 : s2 > 0 <;> by_cases h3 : s3 > 0 <;> simp only [h0, h1, h2, h3, if_true, if_false] <;> omega
    have hd : (0 + dn s0 + dn s1 + dn s2 + dn s3 < 4) ↔ (s0 ≥ 0 ∨ s1 ≥ 0 ∨ s2 ≥ 0 ∨ s3 ≥ 0) := by
      unfold dn
      by_cases h0 : s0 < 0 <;> by_cases h1 : s1 < 0 <;> by_cases h2 : s2 < 0 <;> by_cases h3 : s3 < 0 <;> simp only [h0, h1, h2, h3, if_true, if_false] <;> omega
    have e1 : (((false || decide (s0 ≤ 0)) || decide (s1 ≤ 0)) || decide (s2 ≤ 0) || decide (s3 ≤ 0)) = decide (0 + up s0 + up s1 + up s2 + up s3 < 4) := by
      rw [Bool.eq_iff_iff]
      simp only [Bool.or_eq_true, decide_eq_true_iff, hu, Bool.false_eq_true, false_or, or_assoc]
    have e2 : (((false || decide (s0 ≥ 0)) || decide (s1 ≥ 0)) || decide (s2 ≥ 0) || decide (s3 ≥ 0)) = decide (0 + dn s0 + dn s1 + dn s2 + dn s3 < 4) := by
      rw [Bool.eq_iff_iff]
      simp only [Bool.or_eq_true, decide_eq_true_iff, hd, Bool.false_eq_true, false_or, or_assoc]
    rw [e1, e2]
    refine Ev.ite (fun h => Ev.some ?_) (fun h => Ev.some ?_)
    · rw [decide_eq_true h]
      rfl
    · rw [decide_eq_false h]
      rfl
end

theorem meets_ev {x1 y1 x2 y2 cx cy : Int} (bx1 : 0 ≤ x1 ∧ x1 ≤ 30) (by1 : 0 ≤ y1 ∧ y1 ≤ 510) (bx2 : 0 ≤ x2 ∧ x2 ≤ 30) (by2 : 0 ≤ y2 ∧ y2 ≤ 510) (bx : 0 ≤ cx ∧ cx ≤ 15) (by_ : 0 ≤ cy ∧ cy ≤ 255) :
    Ev (fun k => spec_l18Meets.f k x1 y1 x2 y2 cx cy) (!(farOf x1 y1 x2 y2 (2 * cx) (2 * cy)) && (lessTo x1 y1 x2 y2 (2 * cx) (2 * cy) 4 && moreTo x1 y1 x2 y2 (2 * cx) (2 * cy) 4)) := by
  have J := fun b => meets_j0 (x := 2 * cx) (y := 2 * cy) bx1 by1 bx2 by2 (by omega) (by omega) b
  simp only [spec_l18Meets.f, wrap64_id (x := 2 * cx) (by omega) (by omega), wrap64_id (x := 2 * cy) (by omega) (by omega), wrap64_id (x := 2 * cx - 1) (by omega) (by omega), wrap64_id (x := 2 * cx + 1) (by omega) (by omega), wrap64_id (x := 2 * cy - 1) (by omega) (by omega), wrap64_id (x := 2 * cy + 1) (by omega) (by omega)]
  generalize 2 * cx = x at *
  generalize 2 * cy = y at *
  have hF : farOf x1 y1 x2 y2 x y = decide ((x1 < x - 1 ∧ x2 < x - 1) ∨ (x1 > x + 1 ∧ x2 > x + 1) ∨ (y1 < y - 1 ∧ y2 < y - 1) ∨ (y1 > y + 1 ∧ y2 > y + 1)) := by
    have m1 : maxI x1 x2 < x - 1 ↔ (x1 < x - 1 ∧ x2 < x - 1) := by unfold maxI; by_cases h : x1 < x2 <;> simp only [h, if_true, if_false] <;> omega
    have m2 : minI x1 x2 > x + 1 ↔ (x1 > x + 1 ∧ x2 > x + 1) := by unfold minI; by_cases h : x2 < x1 <;> simp only [h, if_true, if_false] <;> omega
    have m3 : maxI y1 y2 < y - 1 ↔ (y1 < y - 1 ∧ y2 < y - 1) := by unfold maxI; by_cases h : y1 < y2 <;> simp only [h, if_true, if_false] <;> omega
    have m4 : minI y1 y2 > y + 1 ↔ (y1 > y + 1 ∧ y2 > y + 1) := by unfold minI; by_cases h : y2 < y1 <;> simp only [h, if_true, if_false] <;> omega
    unfold farOf
    rw [Bool.eq_iff_iff]
    simp only [Bool.or_eq_true, decide_eq_true_iff, m1, m2, m3, m4, or_assoc]
  rw [hF]
  generalize (lessTo x1 y1 x2 y2 x y 4 && moreTo x1 y1 x2 y2 x y 4) = LM at *
  have yes : ((x1 < x - 1 ∧ x2 < x - 1) ∨ (x1 > x + 1 ∧ x2 > x + 1) ∨ (y1 < y - 1 ∧ y2 < y - 1) ∨ (y1 > y + 1 ∧ y2 > y + 1)) → ∀ r, r = (!decide ((x1 < x - 1 ∧ x2 < x - 1) ∨ (x1 > x + 1 ∧ x2 > x + 1) ∨ (y1 < y - 1 ∧ y2 < y - 1) ∨ (y1 > y + 1 ∧ y2 > y + 1)) && LM) → Ev (fun k => spec_l18Meets.j0 k x1 y1 x2 y2 (x - 1) (x + 1) (y - 1) (y + 1) true) r := by
    intro h r hr
    refine Ev.eq (J true) ?_
    rw [hr, decide_eq_true h]
  generalize hR : (!decide ((x1 < x - 1 ∧ x2 < x - 1) ∨ (x1 > x + 1 ∧ x2 > x + 1) ∨ (y1 < y - 1 ∧ y2 < y - 1) ∨ (y1 > y + 1 ∧ y2 > y + 1)) && LM) = R at *
  have t4 : ¬ (x1 < x - 1 ∧ x2 < x - 1) → ¬ (x1 > x + 1 ∧ x2 > x + 1) → ¬ (y1 < y - 1 ∧ y2 < y - 1) → Ev (fun k => if y1 > y + 1 then (spec_l18Meets.j0 k x1 y1 x2 y2 (x - 1) (x + 1) (y - 1) (y + 1) (decide (y2 > y + 1))) else (spec_l18Meets.j0 k x1 y1 x2 y2 (x - 1) (x + 1) (y - 1) (y + 1) false)) R := by
    intro n1 n2 n3
    refine Ev.ite (fun h => Ev.eq (J _) ?_) (fun h => Ev.eq (J _) ?_)
    · rw [← hR]
      congr 2
      rw [decide_eq_decide]
      exact ⟨fun a => Or.inr (Or.inr (Or.inr ⟨h, a⟩)), fun a => by omega⟩
    · rw [← hR, decide_eq_false (by omega)]
  have t3 : ¬ (x1 < x - 1 ∧ x2 < x - 1) → ¬ (x1 > x + 1 ∧ x2 > x + 1) → Ev (fun k => if y1 < y - 1 then (if y2 < y - 1 then (spec_l18Meets.j0 k x1 y1 x2 y2 (x - 1) (x + 1) (y - 1) (y + 1) true) else (if y1 > y + 1 then (spec_l18Meets.j0 k x1 y1 x2 y2 (x - 1) (x + 1) (y - 1) (y + 1) (decide (y2 > y + 1))) else (spec_l18Meets.j0 k x1 y1 x2 y2 (x - 1) (x + 1) (y - 1) (y + 1) false))) else (if y1 > y + 1 then (spec_l18Meets.j0 k x1 y1 x2 y2 (x - 1) (x + 1) (y - 1) (y + 1) (decide (y2 > y + 1))) else (spec_l18Meets.j0 k x1 y1 x2 y2 (x - 1) (x + 1) (y - 1) (y + 1) false))) R :=
    fun n1 n2 => Ev.ite (fun h1 => Ev.ite (fun h2 => yes (by omega) _ rfl) (fun h2 => t4 n1 n2 (by omega))) (fun h1 => t4 n1 n2 (by omega))
  have t2 : ¬ (x1 < x - 1 ∧ x2 < x - 1) → Ev (fun k => if x1 > x + 1 then (if x2 > x + 1 then (spec_l18Meets.j0 k x1 y1 x2 y2 (x - 1) (x + 1) (y - 1) (y + 1) true) else (if y1 < y - 1 then (if y2 < y - 1 then (spec_l18Meets.j0 k x1 y1 x2 y2 (x - 1) (x + 1) (y - 1) (y + 1) true) else (if y1 > y + 1 then (spec_l18Meets.j0 k x1 y1 x2 y2 (x - 1) (x + 1) (y - 1) (y + 1) (decide (y2 > y + 1))) else (spec_l18Meets.j0 k x1 y1 x2 y2 (x - 1) (x + 1) (y - 1) (y + 1) false))) else (if y1 > y + 1 then (spec_l18Meets.j0 k x1 y1 x2 y2 (x - 1) (x + 1) (y - 1) (y + 1) (decide (y2 > y + 1))) else (spec_l18Meets.j0 k x1 y1 x2 y2 (x - 1) (x + 1) (y - 1) (y + 1) false)))) else (if y1 < y - 1 then (if y2 < y - 1 then (spec_l18Meets.j0 k x1 y1 x2 y2 (x - 1) (x + 1) (y - 1) (y + 1) true) else (if y1 > y + 1 then (spec_l18Meets.j0 k x1 y1 x2 y2 (x - 1) (x + 1) (y - 1) (y + 1) (decide (y2 > y + 1))) else (spec_l18Meets.j0 k x1 y1 x2 y2 (x - 1) (x + 1) (y - 1) (y + 1) false))) else (if y1 > y + 1 then (spec_l18Meets.j0 k x1 y1 x2 y2 (x - 1) (x + 1) (y - 1) (y + 1) (decide (y2 > y + 1))) else (spec_l18Meets.j0 k x1 y1 x2 y2 (x - 1) (x + 1) (y - 1) (y + 1) false)))) R :=
    fun n1 => Ev.ite (fun h1 => Ev.ite (fun h2 => yes (by omega) _ rfl) (fun h2 => t3 n1 (by omega))) (fun h1 => t3 n1 (by omega))
  exact Ev.ite (fun h1 => Ev.ite (fun h2 => yes (by omega) _ rfl) (fun h2 => t2 (by omega))) (fun h1 => t2 (by omega))

/-- No cell stands in the way from a to b. -/
def Clr (w : Int) (c : List Int) (a b : Int) : Prop := Fr c a ∧ Fr c b ∧ From c.length 0 fun j => blocks w c a b j = false

theorem clear_spec_l0 {w : Int} {c : List Int} (h : Cl w c) {a b : Int} (ha0 : 0 ≤ a) (ha : a < c.length) (hb0 : 0 ≤ b) (hb : b < c.length) (d : Nat) : ∀ i : Nat, i + d = c.length →
    Ev (fun k => spec_l18Clear.l0 k (X_ w a) (Y_ w a) (X_ w b) (Y_ w b) (c.length : Int) i w c) (decide (From c.length i fun j => blocks w c a b j = false)) := by
  have hw := h.w1
  have hw2 := h.w16
  have hn := h.n256
  have hH := h.h16
  have xa := X_range h a
  have xb := X_range h b
  have ya := Y_range h ha0 ha
  have yb := Y_range h hb0 hb
  induction d with
  | zero =>
    intro i hi
    rw [decide_eq_true (From.end_ (by omega))]
    apply Ev.succ
    simp only [spec_l18Clear.l0]
    exact Ev.neg (by omega) (Ev.some rfl)
  | succ d ih =>
    intro i hi
    have nx := ih (i + 1) (by omega)
    have step := From.step (n := c.length) (i := i) (C := fun j => blocks w c a b j = false) (by omega)
    have xi := X_range h (i : Int)
    have yi := Y_range h (a := (i : Int)) (by omega) (by omega)
    have e : rd c (i : Int) = c.getD i 0 := rfl
    have good : blocks w c a b i = false → decide (From c.length (i + 1) fun j => blocks w c a b j = false) = decide (From c.length i fun j => blocks w c a b j = false) := fun g => by
      rw [decide_eq_decide]
      exact ⟨fun x => step.2 ⟨g, x⟩, fun x => (step.1 x).2⟩
    apply Ev.succ
    simp only [spec_l18Clear.l0, e, tmod_X (show (0 : Int) ≤ (i : Int) by omega), tdiv_Y (show (0 : Int) ≤ (i : Int) by omega), wrap64_id (x := Y_ w (i : Int)) (by omega) (by omega), wrap64_id (x := 2 * X_ w a) (by omega) (by omega), wrap64_id (x := 2 * X_ w b) (by omega) (by omega), wrap64_id (x := 2 * Y_ w a) (by omega) (by omega), wrap64_id (x := 2 * Y_ w b) (by omega) (by omega), succ_w (show i < 35184372088833 by omega)]
    refine Ev.pos (by omega) (Ev.pos (by omega) (Ev.pos (by omega) (Ev.ite (fun hz => ?_) (fun hz => Ev.neg (by omega) ?_))))
    · refine Ev.eq nx (good ?_)
      unfold blocks
      rw [hz]
      rfl
    · have m := meets_ev (x1 := 2 * X_ w a) (y1 := 2 * Y_ w a) (x2 := 2 * X_ w b) (y2 := 2 * Y_ w b) (cx := X_ w (i : Int)) (cy := Y_ w (i : Int)) (by omega) (by omega) (by omega) (by omega) (by omega) (by omega)
      have eb : blocks w c a b i = (!(farOf (2 * X_ w a) (2 * Y_ w a) (2 * X_ w b) (2 * Y_ w b) (2 * X_ w (i : Int)) (2 * Y_ w (i : Int))) && (lessTo (2 * X_ w a) (2 * Y_ w a) (2 * X_ w b) (2 * Y_ w b) (2 * X_ w (i : Int)) (2 * Y_ w (i : Int)) 4 && moreTo (2 * X_ w a) (2 * Y_ w a) (2 * X_ w b) (2 * Y_ w b) (2 * X_ w (i : Int)) (2 * Y_ w (i : Int)) 4)) := by
        unfold blocks X_ Y_
        rw [show (c.getD i 0 == 0) = false by simpa using hz]
        rfl
      rw [← eb] at m
      refine Ev.bnd m (Ev.ite (fun hp => Ev.some ?_) (fun hp => Ev.eq nx (good (by simpa using hp))))
      symm
      rw [decide_eq_false_iff_not]
      intro x
      rw [(step.1 x).1] at hp
      cases hp

theorem clear_spec {w : Int} {c : List Int} (h : Cl w c) (a b : Int) : Ev (fun k => spec_l18Clear.f k w c a b) (decide (Clr w c a b)) := by
  simp only [spec_l18Clear.f]
  have no : ¬ Clr w c a b → Ev (fun k => spec_l18Clear.j0 k a b true w c) (decide (Clr w c a b)) := by
    intro hn
    rw [decide_eq_false hn]
    apply Ev.succ
    simp only [spec_l18Clear.j0]
    exact Ev.pos trivial (Ev.some rfl)
  by_cases ha : Fr c a
  · by_cases hb : Fr c b
    · have ya := Y_range h ha.1 ha.2.1
      have yb := Y_range h hb.1 hb.2.1
      have hH := h.h16
      have hw := h.w1
      have e : decide (Clr w c a b) = decide (From c.length 0 fun j => blocks w c a b j = false) := by
        rw [decide_eq_decide]
        exact ⟨fun x => x.2.2, fun x => ⟨ha, hb, x⟩⟩
      rw [e]
      refine Ev.bnd0 (free_spec w c a) (Ev.pos (by simpa using ha) (Ev.bnd0 (free_spec w c b) ?_))
      rw [decide_eq_true hb]
      apply Ev.succ
      simp only [spec_l18Clear.j0, tmod_X ha.1, tmod_X hb.1, tdiv_Y ha.1, tdiv_Y hb.1, wrap64_id (x := Y_ w a) (by omega) (by omega), wrap64_id (x := Y_ w b) (by omega) (by omega)]
      exact Ev.neg (by simp) (Ev.neg (by omega) (clear_spec_l0 h ha.1 ha.2.1 hb.1 hb.2.1 c.length 0 (by omega)))
    · refine Ev.bnd0 (free_spec w c a) (Ev.pos (by simpa using ha) (Ev.bnd0 (free_spec w c b) ?_))
      rw [decide_eq_false hb]
      exact no (fun x => hb x.2.1)
  · exact Ev.bnd0 (free_spec w c a) (Ev.neg (by simpa using ha) (no (fun x => ha x.1)))

theorem clear_impl {w : Int} {c : List Int} (h : Cl w c) {a b : Int} (ha : Fr c a) (hb : Fr c b) : impl_Cells_clear.f w c a b = some (decide (Clr w c a b)) := by
  have h1 := ha.1
  have h2 := ha.2.1
  have h3 := hb.1
  have h4 := hb.2.1
  have h5 := h.w1
  have h6 := h.w16
  have h7 := h.n256
  unfold impl_Cells_clear.f
  rw [if_pos (by omega)]
  congr 1
  rw [Bool.eq_iff_iff, List.all_eq_true, decide_eq_true_iff]
  constructor
  · intro x
    exact ⟨ha, hb, fun j _ hj => by simpa using x j (List.mem_range.2 hj)⟩
  · intro x j hj
    rw [x.2.2 j (Nat.zero_le _) (List.mem_range.1 hj)]
    rfl
end Go.Proofs.Ytjcmlggdaajicaa.Pure
