/-
Own text: where a cell lies: its column and its row; the cell beside it.
-/
import Derived.Test.YtjcmlggdaajicaaPureCells
namespace Go.Proofs.Ytjcmlggdaajicaa.Pure
open Go.RowKit Go.Proofs.YtjcmlggdaajicaaW.PrintWords Go.Proofs.YtjcmlggdaajicaaW.PrintLast Go.Proofs.Ytjcmlggdaajicaa.Pr Go.Proofs.Ytjcmlggdaajicaa.EvKit
open Classical

def X_ (w a : Int) : Int := a % w
def Y_ (w a : Int) : Int := a / w
/-- How many rows. -/
def H_ (w : Int) (c : List Int) : Int := (c.length : Int) / w

section
variable {w : Int} {c : List Int}
theorem Cl.w1 (h : Cl w c) : 1 ≤ w := h.1.1
theorem Cl.w16 (h : Cl w c) : w ≤ 16 := h.1.2.1
theorem Cl.h16 (h : Cl w c) : H_ w c ≤ 16 := h.1.2.2.2.2
theorem Cl.wh (h : Cl w c) : H_ w c * w = c.length := by
  have h1 := Int.mul_ediv_add_emod (c.length : Int) w
  rw [h.1.2.2.1, Int.add_zero, Int.mul_comm] at h1
  exact h1
theorem Cl.h1 (h : Cl w c) : 1 ≤ H_ w c := (Int.le_ediv_iff_mul_le (by have := h.w1; omega)).2 (by rw [Int.one_mul]; exact h.1.2.2.2.1)
theorem mul_le16 {x y : Int} (hx : 0 ≤ x) (hx2 : x ≤ 16) (hy : 0 ≤ y) (hy2 : y ≤ 16) : x * y ≤ 256 ∧ 0 ≤ x * y := by
  have h1 := Int.mul_le_mul hx2 hy2 hy (by omega : (0 : Int) ≤ 16)
  exact ⟨by omega, Int.mul_nonneg hx hy⟩
theorem Cl.n256 (h : Cl w c) : c.length ≤ 256 := by
  have h1 := h.wh
  have h2 := mul_le16 (by have := h.h1; omega) h.h16 (by have := h.w1; omega) h.w16
  omega
theorem XY (w a : Int) : Y_ w a * w + X_ w a = a := by
  have := Int.mul_ediv_add_emod a w
  rw [Int.mul_comm] at this
  exact this
theorem X_range (h : Cl w c) (a : Int) : 0 ≤ X_ w a ∧ X_ w a < w := ⟨Int.emod_nonneg _ (by have := h.w1; omega), Int.emod_lt_of_pos _ (by have := h.w1; omega)⟩
theorem Y_range (h : Cl w c) {a : Int} (h0 : 0 ≤ a) (h1 : a < c.length) : 0 ≤ Y_ w a ∧ Y_ w a < H_ w c := by
  refine ⟨Int.ediv_nonneg h0 (by have := h.w1; omega), Int.ediv_lt_of_lt_mul (by have := h.w1; omega) ?_⟩
  rw [h.wh]
  exact h1
theorem cell_in (h : Cl w c) {x y : Int} (hx : 0 ≤ x) (hx2 : x < w) (hy : 0 ≤ y) (hy2 : y < H_ w c) : 0 ≤ y * w + x ∧ y * w + x < c.length := by
  have h1 := Int.mul_nonneg hy (show 0 ≤ w by omega)
  have h2 := Int.mul_le_mul_of_nonneg_right (show y ≤ H_ w c - 1 by omega) (show 0 ≤ w by omega)
  have h3 := h.wh
  rw [Int.sub_mul, Int.one_mul] at h2
  omega
theorem X_cell {x : Int} (hx : 0 ≤ x) (hx2 : x < w) (y : Int) : X_ w (y * w + x) = x := by
  unfold X_
  rw [Int.add_comm, Int.add_mul_emod_self_right]
  exact Int.emod_eq_of_lt hx hx2
theorem Y_cell {x : Int} (hx : 0 ≤ x) (hx2 : x < w) (y : Int) : Y_ w (y * w + x) = y := by
  have h1 := XY w (y * w + x)
  rw [X_cell hx hx2] at h1
  have h2 : Y_ w (y * w + x) * w = y * w := by omega
  exact Int.eq_of_mul_eq_mul_right (by omega) h2
/-- A cell is told by its column and its row. -/
theorem cell_eq {a b : Int} (hx : X_ w a = X_ w b) (hy : Y_ w a = Y_ w b) : a = b := by rw [← XY w a, ← XY w b, hx, hy]

theorem tmod_X {a : Int} (h : 0 ≤ a) : a.tmod w = X_ w a := Int.tmod_eq_emod_of_nonneg h
theorem tdiv_Y {a : Int} (h : 0 ≤ a) : a.tdiv w = Y_ w a := Int.tdiv_eq_ediv_of_nonneg h

/-- The cell beside one, -1 beyond the edge. -/
noncomputable def Nx (w : Int) (c : List Int) (a dx dy : Int) : Int :=
  if 0 ≤ X_ w a + dx ∧ X_ w a + dx < w ∧ 0 ≤ Y_ w a + dy ∧ Y_ w a + dy < H_ w c then (Y_ w a + dy) * w + (X_ w a + dx) else -1
theorem next_eq (h : Cl w c) {a dx dy : Int} (h0 : 0 ≤ a) (h1 : a < c.length) (hx : -100 ≤ dx ∧ dx ≤ 100) (hy : -100 ≤ dy ∧ dy ≤ 100) : impl_Cells_next.f w c a dx dy = some (Nx w c a dx dy) := by
  have hX := X_range h a
  have hY := Y_range h h0 h1
  have hw := h.w1
  have hw2 := h.w16
  have hH := h.h16
  unfold impl_Cells_next.f
  rw [if_neg (by omega), tmod_X h0, tdiv_Y h0, show (c.length : Int) / w = H_ w c from rfl]
  rw [wrap64_id (x := Y_ w a) (by omega) (by omega), wrap64_id (x := H_ w c) (by omega) (by omega), wrap64_id (x := X_ w a + dx) (by omega) (by omega), wrap64_id (x := Y_ w a + dy) (by omega) (by omega)]
  by_cases c1 : X_ w a + dx < 0
  · rw [if_pos c1]
    unfold Nx
    rw [if_neg (by omega)]
  · rw [if_neg c1]
    by_cases c2 : X_ w a + dx ≥ w
    · rw [if_pos c2]
      unfold Nx
      rw [if_neg (by omega)]
    · rw [if_neg c2]
      by_cases c3 : Y_ w a + dy < 0
      · rw [if_pos c3]
        unfold Nx
        rw [if_neg (by omega)]
      · rw [if_neg c3]
        by_cases c4 : Y_ w a + dy ≥ H_ w c
        · rw [if_pos c4]
          unfold Nx
          rw [if_neg (by omega)]
        · rw [if_neg c4]
          have hm := mul_le16 (x := Y_ w a + dy) (y := w) (by omega) (by omega) (by omega) hw2
          rw [wrap64_id (x := (Y_ w a + dy) * w) (by omega) (by omega), wrap64_id (by omega) (by omega)]
          unfold Nx
          rw [if_pos (by omega)]
end
end Go.Proofs.Ytjcmlggdaajicaa.Pure
