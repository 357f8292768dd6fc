-- Joined and pruned by wip/tools/prune.py out of this session's own texts (PureBase, PureInts, PureCells, PureGrid, PureStep, PureDij, PureNb, HdShort, Prd3, Pr24, Pr19)
import Derived.Test.YtjcmlggdaajicaaZfy8
/-
Own text: what many of the pure proofs use: 'for all from i on',counters,'between',the copy and the comparison of slices of bytes.
-/
namespace Go.Proofs.Ytjcmlggdaajicaa.Pure
open Go.RowKit Go.Proofs.YtjcmlggdaajicaaW.PrintWords Go.Proofs.Ytjcmlggdaajicaa.EvKit

def From (n i : Nat) (C : Nat → Prop) : Prop:=∀ j,i ≤ j → j < n → C j
theorem From.end_ {n i : Nat} {C : Nat → Prop} (h : n ≤ i) : From n i C:=fun j h1 h2 => by omega
theorem From.step {n i : Nat} {C : Nat → Prop} (h : i < n) : From n i C ↔ C i ∧ From n (i + 1) C:=by
  constructor
  · exact fun a => ⟨a i (Nat.le_refl i) h,fun j h1 h2 => a j (by omega) h2⟩
  · rintro ⟨a,b⟩ j h1 h2
    by_cases e : j = i
    · exact e ▸ a
    · exact b j (by omega) h2
/-- One of those from i on, below n. -/
def Some_ (n i : Nat) (C : Nat → Prop) : Prop:=∃ j,i ≤ j ∧ j < n ∧ C j
theorem Some_.end_ {n i : Nat} {C : Nat → Prop} (h : n ≤ i) : ¬ Some_ n i C:=by
  rintro ⟨j,h1,h2,_⟩
  omega
theorem Some_.step {n i : Nat} {C : Nat → Prop} (h : i < n) : Some_ n i C ↔ C i ∨ Some_ n (i + 1) C:=by
  constructor
  · rintro ⟨j,h1,h2,h3⟩
    by_cases e : j = i
    · exact Or.inl (e ▸ h3)
    · exact Or.inr ⟨j,by omega,h2,h3⟩
  · rintro (a | ⟨j,h1,h2,h3⟩)
    · exact ⟨i,Nat.le_refl i,h,a⟩
    · exact ⟨j,by omega,h2,h3⟩
theorem succ_w {i : Nat} (h : i < 35184372088833) : wrap64 ((i : Int) + 1) = ((i + 1 : Nat) : Int):=by rw [wrap64_id (by omega) (by omega)];omega
end Go.Proofs.Ytjcmlggdaajicaa.Pure
/-
Own text: what the laws' own helpers on []int come to: a copy,a comparison.
-/
namespace Go.Proofs.Ytjcmlggdaajicaa.Pure
open Go.RowKit Go.Proofs.YtjcmlggdaajicaaW.PrintWords Go.Proofs.YtjcmlggdaajicaaW.PrintLast Go.Proofs.Ytjcmlggdaajicaa.Pr Go.Proofs.Ytjcmlggdaajicaa.EvKit

end Go.Proofs.Ytjcmlggdaajicaa.Pure
/-
Own text: cells: the two checks agree;what good cells are;what is free;the laws' helpers on cells.
-/
namespace Go.Proofs.Ytjcmlggdaajicaa.Pure
open Go.RowKit Go.Proofs.YtjcmlggdaajicaaW.PrintWords Go.Proofs.YtjcmlggdaajicaaW.PrintLast Go.Proofs.Ytjcmlggdaajicaa.Pr Go.Proofs.Ytjcmlggdaajicaa.EvKit
open Classical

def Sq (w : Int) (n : Nat) : Prop:=1 ≤ w ∧ w ≤ 16 ∧ (n : Int) % w = 0 ∧ w ≤ n ∧ (n : Int) / w ≤ 16
/-- Good cells. -/
def Cl (w : Int) (c : List Int) : Prop:=Sq w c.length ∧ From c.length 0 fun j => 0 ≤ c.getD j 0 ∧ c.getD j 0 ≤ 2

theorem sq_impl (w : Int) (n : Nat) (hn : n ≤ 35184372088832) : impl_squared.f w n = some (decide (Sq w n)):=by
  unfold impl_squared.f Sq;by_cases h1 : w ≥ 1
  · by_cases h2 : w ≤ 16
    · have hm : (n : Int).tmod w = (n : Int) % w:=Int.tmod_eq_emod_of_nonneg (by omega)
      have hd : (n : Int).tdiv w = (n : Int) / w:=Int.tdiv_eq_ediv_of_nonneg (by omega);rw [if_pos h1,if_pos h2,if_neg (by omega),hm,hd];by_cases h3 : (n : Int) % w = 0
      · have hle : (n : Int) / w ≤ n:=Int.ediv_le_self _ (by omega)
        have h0 : 0 ≤ (n : Int) / w:=Int.ediv_nonneg (by omega) (by omega);have key : (n : Int) / w ≥ 1 ↔ w ≤ n:=(Int.le_ediv_iff_mul_le (by omega)).trans (by rw [Int.one_mul]);rw [if_pos h3,wrap64_id (by omega) (by omega)];by_cases h4 : (n : Int) / w ≥ 1
        · have h5 : w ≤ n:=key.1 h4
          rw [if_pos h4]
          simp [h1,h2,h3,h5]
        · have h5 : ¬ w ≤ n:=fun h => h4 (key.2 h)
          rw [if_neg h4]
          simp [h5]
      · rw [if_neg h3]
        simp [h3]
    · rw [if_pos h1,if_neg h2]
      simp [h2]
  · rw [if_neg h1]
    simp [show ¬ 1 ≤ w from h1]
theorem sq_spec (w : Int) (n : Nat) (hn : n ≤ 35184372088832) : spec_l12Sized.f w n = some (decide (Sq w n)):=by
  unfold spec_l12Sized.f Sq;by_cases h1 : w ≥ 1
  · by_cases h2 : w ≤ 16
    · have hm : (n : Int).tmod w = (n : Int) % w:=Int.tmod_eq_emod_of_nonneg (by omega)
      have hd : (n : Int).tdiv w = (n : Int) / w:=Int.tdiv_eq_ediv_of_nonneg (by omega);have hle : (n : Int) / w ≤ n:=Int.ediv_le_self _ (by omega);have h0 : 0 ≤ (n : Int) / w:=Int.ediv_nonneg (by omega) (by omega);rw [if_pos h1,if_pos h2,hm,hd,if_neg (show ¬ w = 0 by omega),wrap64_id (by omega) (by omega)];by_cases h4 : (n : Int) ≥ w
      · rw [if_pos h4]
        by_cases h3 : (n : Int) % w = 0
        · rw [if_pos h3]
          simp [h1,h2,h3,show w ≤ (n : Int) from h4]
        · rw [if_neg h3]
          simp [h3]
      · rw [if_neg h4]
        simp [show ¬ w ≤ (n : Int) from h4]
    · rw [if_pos h1,if_neg h2]
      simp [h2]
  · rw [if_neg h1]
    simp [show ¬ 1 ≤ w from h1]

theorem cells_l0 (c : List Int) (hn : c.length ≤ 35184372088832) (d : Nat) : ∀ i : Nat,i + d = c.length →
    Ev (fun k => impl_GoodCells.l0 k c (c.length : Int) i) (decide (From c.length i fun j => 0 ≤ c.getD j 0 ∧ c.getD j 0 ≤ 2)) ∧ Ev (fun k => spec_GoodCells.l0 k c (c.length : Int) i) (decide (From c.length i fun j => 0 ≤ c.getD j 0 ∧ c.getD j 0 ≤ 2)):=by
  induction d with
  | zero =>
    intro i hi
    have e : decide (From c.length i fun j => 0 ≤ c.getD j 0 ∧ c.getD j 0 ≤ 2) = true:=by
      rw [decide_eq_true_eq];exact From.end_ (by omega)
    rw [e];refine ⟨Ev.succ ?_,Ev.succ ?_⟩
    · simp only [impl_GoodCells.l0]
      exact Ev.neg (by omega) (Ev.some rfl)
    · simp only [spec_GoodCells.l0]
      exact Ev.neg (by omega) (Ev.some rfl)
  | succ d ih =>
    intro i hi;obtain ⟨a,b⟩:=ih (i + 1) (by omega);have step:=From.step (n:=c.length) (i:=i) (C:=fun j => 0 ≤ c.getD j 0 ∧ c.getD j 0 ≤ 2) (by omega);have e : rd c (i : Int) = c.getD i 0:=rfl;by_cases h : 0 ≤ c.getD i 0 ∧ c.getD i 0 ≤ 2
    · have e2 : decide (From c.length i fun j => 0 ≤ c.getD j 0 ∧ c.getD j 0 ≤ 2) = decide (From c.length (i + 1) fun j => 0 ≤ c.getD j 0 ∧ c.getD j 0 ≤ 2):=by
        rw [decide_eq_decide];exact ⟨fun x => (step.1 x).2,fun x => step.2 ⟨h,x⟩⟩
      rw [e2];refine ⟨Ev.succ ?_,Ev.succ ?_⟩
      · simp only [impl_GoodCells.l0,e,succ_w (show i < 35184372088833 by omega)]
        exact Ev.pos (by omega) (Ev.pos (by omega) (Ev.pos (by omega) (Ev.neg (by omega) (Ev.neg (by omega) a))))
      · simp only [spec_GoodCells.l0,e,succ_w (show i < 35184372088833 by omega)]
        exact Ev.pos (by omega) (Ev.pos (by omega) (Ev.pos (by omega) (Ev.neg (by omega) (Ev.neg (by omega) b))))
    · have e2 : decide (From c.length i fun j => 0 ≤ c.getD j 0 ∧ c.getD j 0 ≤ 2) = false:=by
        rw [decide_eq_false_iff_not];(exact fun x => h (step.1 x).1)
      rw [e2];refine ⟨Ev.succ ?_,Ev.succ ?_⟩
      · simp only [impl_GoodCells.l0,e]
        exact Ev.pos (by omega) (Ev.pos (by omega) (Ev.pos (by omega) (Ev.ite (fun _ => Ev.some rfl) (fun _ => Ev.pos (by omega) (Ev.some rfl)))))
      · simp only [spec_GoodCells.l0,e]
        exact Ev.pos (by omega) (Ev.pos (by omega) (Ev.pos (by omega) (Ev.ite (fun _ => Ev.some rfl) (fun _ => Ev.pos (by omega) (Ev.some rfl)))))
theorem goodCells_impl (w : Int) (c : List Int) (hn : c.length ≤ 35184372088832) : Ev (fun k => impl_GoodCells.f k w c) (decide (Cl w c)):=by
  simp only [impl_GoodCells.f];refine Ev.bnd0 (sq_impl w c.length hn) (Ev.ite (fun h => Ev.eq (cells_l0 c hn c.length 0 (by omega)).1 ?_) (fun h => Ev.some ?_))
  · rw [decide_eq_decide]
    exact ⟨fun x => ⟨by simpa using h,x⟩,fun x => x.2⟩
  · symm
    rw [decide_eq_false_iff_not];(exact fun x => h (by simpa using x.1))
theorem goodCells_spec (w : Int) (c : List Int) (hn : c.length ≤ 35184372088832) : Ev (fun k => spec_GoodCells.f k w c) (decide (Cl w c)):=by
  simp only [spec_GoodCells.f];refine Ev.bnd0 (sq_spec w c.length hn) (Ev.ite (fun h => Ev.eq (cells_l0 c hn c.length 0 (by omega)).2 ?_) (fun h => Ev.some ?_))
  · rw [decide_eq_decide]
    exact ⟨fun x => ⟨by simpa using h,x⟩,fun x => x.2⟩
  · symm
    rw [decide_eq_false_iff_not];(exact fun x => h (by simpa using x.1))

/-- The number of a free cell. -/
def Fr (c : List Int) (a : Int) : Prop:=0 ≤ a ∧ a < c.length ∧ c.getD a.toNat 0 = 0
theorem free_impl (w : Int) (c : List Int) (a : Int) : impl_Cells_free.f w c a = some (decide (Fr c a)):=by
  unfold impl_Cells_free.f;have e : rd c a = c.getD a.toNat 0:=rfl;by_cases h1 : a ≥ 0
  · by_cases h2 : a < (c.length : Int)
    · rw [if_pos h1,if_pos h2,if_pos h1,e]
      congr 1
      by_cases h3 : c.getD a.toNat 0 = 0
      · rw [dt_ (p:=Fr c a) (And.intro h1 (And.intro h2 h3)),h3]
        rfl
      · rw [df_ (p:=Fr c a) (fun x => h3 x.2.2)]
        simpa using h3
    · rw [if_pos h1,if_neg h2,df_ (p:=Fr c a) (fun x => h2 x.2.1)]
  · rw [if_neg h1,df_ (p:=Fr c a) (fun x => h1 x.1)]
theorem free_spec (w : Int) (c : List Int) (a : Int) : spec_l12Free.f w c a = some (decide (Fr c a)):=free_impl w c a

/-! ### the laws' helpers -/
end Go.Proofs.Ytjcmlggdaajicaa.Pure
/-
Own text: where a cell lies: its column and its row;the cell beside it.
-/
namespace Go.Proofs.Ytjcmlggdaajicaa.Pure
open Go.RowKit Go.Proofs.YtjcmlggdaajicaaW.PrintWords Go.Proofs.YtjcmlggdaajicaaW.PrintLast Go.Proofs.Ytjcmlggdaajicaa.Pr Go.Proofs.Ytjcmlggdaajicaa.EvKit
open Classical

def X_ (w a : Int) : Int:=a % w
def Y_ (w a : Int) : Int:=a / w
/-- How many rows. -/
def H_ (w : Int) (c : List Int) : Int:=(c.length : Int) / w

section
variable {w : Int} {c : List Int}
theorem Cl.w1 (h : Cl w c) : 1 ≤ w:=h.1.1
theorem Cl.w16 (h : Cl w c) : w ≤ 16:=h.1.2.1
theorem Cl.h16 (h : Cl w c) : H_ w c ≤ 16:=h.1.2.2.2.2
theorem Cl.wh (h : Cl w c) : H_ w c * w = c.length:=by
  have h1:=Int.mul_ediv_add_emod (c.length : Int) w;rw [h.1.2.2.1,Int.add_zero,Int.mul_comm] at h1;exact h1
theorem Cl.h1 (h : Cl w c) : 1 ≤ H_ w c:=(Int.le_ediv_iff_mul_le (by have:=h.w1;omega)).2 (by rw [Int.one_mul];exact h.1.2.2.2.1)
theorem mul_le16 {x y : Int} (hx : 0 ≤ x) (hx2 : x ≤ 16) (hy : 0 ≤ y) (hy2 : y ≤ 16) : x * y ≤ 256 ∧ 0 ≤ x * y:=by
  have h1:=Int.mul_le_mul hx2 hy2 hy (by omega : (0 : Int) ≤ 16);exact ⟨by omega,Int.mul_nonneg hx hy⟩
theorem Cl.n256 (h : Cl w c) : c.length ≤ 256:=by
  have h1:=h.wh;have h2:=mul_le16 (by have:=h.h1;omega) h.h16 (by have:=h.w1;omega) h.w16
  omega
theorem XY (w a : Int) : Y_ w a * w + X_ w a = a:=by
  have:=Int.mul_ediv_add_emod a w;rw [Int.mul_comm] at this;exact this
theorem X_range (h : Cl w c) (a : Int) : 0 ≤ X_ w a ∧ X_ w a < w:=⟨Int.emod_nonneg _ (by have:=h.w1;omega),Int.emod_lt_of_pos _ (by have:=h.w1;omega)⟩
theorem Y_range (h : Cl w c) {a : Int} (h0 : 0 ≤ a) (h1 : a < c.length) : 0 ≤ Y_ w a ∧ Y_ w a < H_ w c:=by
  refine ⟨Int.ediv_nonneg h0 (by have:=h.w1;omega),Int.ediv_lt_of_lt_mul (by have:=h.w1;omega) ?_⟩;rw [h.wh];exact h1
theorem cell_in (h : Cl w c) {x y : Int} (hx : 0 ≤ x) (hx2 : x < w) (hy : 0 ≤ y) (hy2 : y < H_ w c) : 0 ≤ y * w + x ∧ y * w + x < c.length:=by
  have h1:=Int.mul_nonneg hy (show 0 ≤ w by omega);have h2:=Int.mul_le_mul_of_nonneg_right (show y ≤ H_ w c - 1 by omega) (show 0 ≤ w by omega);have h3:=h.wh;rw [Int.sub_mul,Int.one_mul] at h2
  omega
theorem X_cell {x : Int} (hx : 0 ≤ x) (hx2 : x < w) (y : Int) : X_ w (y * w + x) = x:=by
  unfold X_;rw [Int.add_comm,Int.add_mul_emod_self_right];exact Int.emod_eq_of_lt hx hx2
theorem Y_cell {x : Int} (hx : 0 ≤ x) (hx2 : x < w) (y : Int) : Y_ w (y * w + x) = y:=by
  have h1:=XY w (y * w + x);rw [X_cell hx hx2] at h1;(have h2 : Y_ w (y * w + x) * w = y * w:=by omega);exact Int.eq_of_mul_eq_mul_right (by omega) h2
/-- A cell is told by its column and its row. -/
theorem cell_eq {a b : Int} (hx : X_ w a = X_ w b) (hy : Y_ w a = Y_ w b) : a = b:=by rw [← XY w a,← XY w b,hx,hy]

theorem tmod_X {a : Int} (h : 0 ≤ a) : a.tmod w = X_ w a:=Int.tmod_eq_emod_of_nonneg h
theorem tdiv_Y {a : Int} (h : 0 ≤ a) : a.tdiv w = Y_ w a:=Int.tdiv_eq_ediv_of_nonneg h

/-- The cell beside one, -1 beyond the edge. -/
noncomputable def Nx (w : Int) (c : List Int) (a dx dy : Int) : Int:=
  if 0 ≤ X_ w a + dx ∧ X_ w a + dx < w ∧ 0 ≤ Y_ w a + dy ∧ Y_ w a + dy < H_ w c then (Y_ w a + dy) * w + (X_ w a + dx) else -1
theorem next_eq (h : Cl w c) {a dx dy : Int} (h0 : 0 ≤ a) (h1 : a < c.length) (hx : -100 ≤ dx ∧ dx ≤ 100) (hy : -100 ≤ dy ∧ dy ≤ 100) : impl_Cells_next.f w c a dx dy = some (Nx w c a dx dy):=by
  have hX:=X_range h a;have hY:=Y_range h h0 h1;have hw:=h.w1;have hw2:=h.w16;have hH:=h.h16;unfold impl_Cells_next.f;rw [if_neg (by omega),tmod_X h0,tdiv_Y h0,show (c.length : Int) / w = H_ w c from rfl];rw [wrap64_id (x:=Y_ w a) (by omega) (by omega),wrap64_id (x:=H_ w c) (by omega) (by omega),wrap64_id (x:=X_ w a + dx) (by omega) (by omega),wrap64_id (x:=Y_ w a + dy) (by omega) (by omega)];by_cases c1 : X_ w a + dx < 0
  · rw [if_pos c1]
    unfold Nx;rw [if_neg (by omega)]
  · rw [if_neg c1]
    by_cases c2 : X_ w a + dx ≥ w
    · rw [if_pos c2]
      unfold Nx;rw [if_neg (by omega)]
    · rw [if_neg c2]
      by_cases c3 : Y_ w a + dy < 0
      · rw [if_pos c3]
        unfold Nx;rw [if_neg (by omega)]
      · rw [if_neg c3]
        by_cases c4 : Y_ w a + dy ≥ H_ w c
        · rw [if_pos c4]
          unfold Nx;rw [if_neg (by omega)]
        · rw [if_neg c4]
          have hm:=mul_le16 (x:=Y_ w a + dy) (y:=w) (by omega) (by omega) (by omega) hw2;rw [wrap64_id (x:=(Y_ w a + dy) * w) (by omega) (by omega),wrap64_id (by omega) (by omega)];unfold Nx;rw [if_pos (by omega)]
end
end Go.Proofs.Ytjcmlggdaajicaa.Pure
/-
Own text: a step between two cells: the program's and the reference's come to the same.
-/
namespace Go.Proofs.Ytjcmlggdaajicaa.Pure
open Go.RowKit Go.Proofs.YtjcmlggdaajicaaW.PrintWords Go.Proofs.YtjcmlggdaajicaaW.PrintLast Go.Proofs.Ytjcmlggdaajicaa.Pr Go.Proofs.Ytjcmlggdaajicaa.EvKit
open Classical

/-- A whole number's square: 0, 1, or 4 at least. -/
theorem sq_cases (x : Int) : (x = 0 ∧ x * x = 0) ∨ ((x = 1 ∨ x = -1) ∧ x * x = 1) ∨ ((2 ≤ x ∨ x ≤ -2) ∧ 4 ≤ x * x):=by
  by_cases h0 : x = 0
  · exact Or.inl ⟨h0,by rw [h0];rfl⟩
  by_cases h1 : x = 1
  · exact Or.inr (Or.inl ⟨Or.inl h1,by rw [h1];rfl⟩)
  by_cases h2 : x = -1
  · exact Or.inr (Or.inl ⟨Or.inr h2,by rw [h2];rfl⟩)
  · refine Or.inr (Or.inr ⟨by omega,?_⟩)
    by_cases h3 : 2 ≤ x
    · have:=Int.mul_le_mul h3 h3 (by omega) (by omega : (0 : Int) ≤ x)
      omega
    · have h4 : 2 ≤ -x:=by omega
      have:=Int.mul_le_mul h4 h4 (by omega) (by omega : (0 : Int) ≤ -x);rw [Int.neg_mul_neg] at this
      omega
theorem sq_le (x m : Int) (h1 : -m ≤ x) (h2 : x ≤ m) : x * x ≤ m * m:=by
  have:=Int.mul_nonneg (show 0 ≤ m - x by omega) (show 0 ≤ m + x by omega);rw [Int.sub_mul,Int.mul_add,Int.mul_add] at this;have e : x * m = m * x:=Int.mul_comm _ _
  omega
theorem abs_eq (x : Int) (h : -1000 ≤ x ∧ x ≤ 1000) : spec_l4Abs.f x = some (if x < 0 then -x else x):=by
  unfold spec_l4Abs.f;by_cases c : x < 0
  · rw [if_pos c,if_pos c,wrap64_id (by omega) (by omega)]
  · rw [if_neg c,if_neg c]

/-- How far b lies from a, in columns and in rows. -/
def DX (w a b : Int) : Int:=X_ w b - X_ w a
def DY (w a b : Int) : Int:=Y_ w b - Y_ w a
def Sq2 (w a b : Int) : Int:=DX w a b * DX w a b + DY w a b * DY w a b
/-- The step from a to b: 1 a straight one, 2 a slant one, 0 none. -/
noncomputable def Stp (w : Int) (c : List Int) (a b : Int) : Int:=
  if Fr c a ∧ Fr c b then (if Sq2 w a b = 1 then 1 else if Sq2 w a b = 2 ∧ Fr c (a + DX w a b) ∧ Fr c (a + DY w a b * w) then 2 else 0) else 0
theorem Stp_or (w : Int) (c : List Int) (a b : Int) : Stp w c a b = 0 ∨ Stp w c a b = 1 ∨ Stp w c a b = 2:=by
  unfold Stp;by_cases h : Fr c a ∧ Fr c b
  · rw [if_pos h]
    by_cases h1 : Sq2 w a b = 1
    · rw [if_pos h1];simp
    · rw [if_neg h1]
      by_cases h2 : Sq2 w a b = 2 ∧ Fr c (a + DX w a b) ∧ Fr c (a + DY w a b * w)
      · rw [if_pos h2];simp
      · rw [if_neg h2];simp
  · rw [if_neg h];simp

section
variable {w : Int} {c : List Int}
theorem D_range (h : Cl w c) {a b : Int} (ha : Fr c a) (hb : Fr c b) : -15 ≤ DX w a b ∧ DX w a b ≤ 15 ∧ -15 ≤ DY w a b ∧ DY w a b ≤ 15:=by
  have h1:=X_range h a;have h2:=X_range h b;have h3:=Y_range h ha.1 ha.2.1;have h4:=Y_range h hb.1 hb.2.1;have h5:=h.w16;have h6:=h.h16;unfold DX DY
  omega
theorem Sq2_range (h : Cl w c) {a b : Int} (ha : Fr c a) (hb : Fr c b) : DX w a b * DX w a b ≤ 225 ∧ 0 ≤ DX w a b * DX w a b ∧ DY w a b * DY w a b ≤ 225 ∧ 0 ≤ DY w a b * DY w a b:=by
  obtain ⟨h1,h2,h3,h4⟩:=D_range h ha hb;have s1:=sq_le (DX w a b) 15 h1 h2;have s2:=sq_le (DY w a b) 15 h3 h4;have s3:=sq_cases (DX w a b);have s4:=sq_cases (DY w a b)
  omega
theorem dyw (h : Cl w c) {a b : Int} (ha : Fr c a) (hb : Fr c b) : -256 ≤ DY w a b * w ∧ DY w a b * w ≤ 256:=by
  obtain ⟨_,_,h3,h4⟩:=D_range h ha hb;have h5:=h.w1;have h6:=h.w16;have m1:=Int.mul_le_mul_of_nonneg_right h4 (show 0 ≤ w by omega);have m2:=Int.mul_le_mul_of_nonneg_right h3 (show 0 ≤ w by omega)
  omega

theorem step_spec (h : Cl w c) (a b : Int) : Ev (fun k => spec_l18Step.f k w c a b) (Stp w c a b):=by
  simp only [spec_l18Step.f]
  have no : ¬ (Fr c a ∧ Fr c b) → Ev (fun k => spec_l18Step.j0 k a b true w c) (Stp w c a b):=by
    intro hn;apply Ev.succ;simp only [spec_l18Step.j0,if_true];exact Ev.some (by unfold Stp;rw [if_neg hn])
  by_cases ha : Fr c a
  · by_cases hb : Fr c b
    · refine Ev.bnd0 (free_spec w c a) (Ev.pos (by simpa using ha) (Ev.bnd0 (free_spec w c b) ?_))
      rw [dt_ hb];apply Ev.succ;obtain ⟨d1,d2,d3,d4⟩:=D_range h ha hb;have hYa:=Y_range h ha.1 ha.2.1;have hYb:=Y_range h hb.1 hb.2.1;have hXa:=X_range h a;have hXb:=X_range h b;have hw:=h.w1;have hw2:=h.w16;have hH:=h.h16;have hn:=h.n256;have hm:=dyw h ha hb;have s3:=sq_cases (DX w a b);have s4:=sq_cases (DY w a b);have hlta:=ha.2.1;have h0a:=ha.1
      simp only [spec_l18Step.j0,Bool.not_true,Bool.false_eq_true,if_false,tmod_X ha.1,tmod_X hb.1,tdiv_Y ha.1,tdiv_Y hb.1,wrap64_id (x:=Y_ w a) (by omega) (by omega),wrap64_id (x:=Y_ w b) (by omega) (by omega),
        wrap64_id (x:=X_ w b - X_ w a) (by omega) (by omega),wrap64_id (x:=Y_ w b - Y_ w a) (by omega) (by omega)]
      have ed : X_ w b - X_ w a = DX w a b:=rfl;have ey : Y_ w b - Y_ w a = DY w a b:=rfl;simp only [ed,ey,abs_eq (DX w a b) (by omega),abs_eq (DY w a b) (by omega),Option.bind_some]
      have es : Stp w c a b = if Sq2 w a b = 1 then 1 else if Sq2 w a b = 2 ∧ Fr c (a + DX w a b) ∧ Fr c (a + DY w a b * w) then 2 else 0:=by
        unfold Stp;rw [if_pos ⟨ha,hb⟩]
      rw [es];unfold Sq2;generalize DX w a b = x at *;generalize DY w a b = y at *;rw [wrap64_id (x:=y * w) (by omega) (by omega),wrap64_id (x:=a + x) (by omega) (by omega),wrap64_id (x:=a + y * w) (by omega) (by omega)];generalize hp : (if x < 0 then -x else x) = p;generalize hq : (if y < 0 then -y else y) = q
      have hp1 : p = 1 ↔ x * x = 1:=by
        by_cases c : x < 0
        · rw [if_pos c] at hp;omega
        · rw [if_neg c] at hp;omega
      have hq1 : q = 1 ↔ y * y = 1:=by
        by_cases c : y < 0
        · rw [if_pos c] at hq;omega
        · rw [if_neg c] at hq;omega
      have hp0 : (p = 0 ↔ x * x = 0) ∧ 0 ≤ p ∧ p ≤ 15:=by
        by_cases c : x < 0
        · rw [if_pos c] at hp;omega
        · rw [if_neg c] at hp;omega
      have hq0 : (q = 0 ↔ y * y = 0) ∧ 0 ≤ q ∧ q ≤ 15:=by
        by_cases c : y < 0
        · rw [if_pos c] at hq;omega
        · rw [if_neg c] at hq;omega
      rw [wrap64_id (x:=p + q) (by omega) (by omega)];refine Ev.neg (by omega) ?_;by_cases c1 : x * x + y * y = 1
      · rw [if_pos c1]
        exact Ev.pos (by omega) (Ev.some rfl)
      · rw [if_neg c1]
        refine Ev.neg (by omega) ?_;by_cases c2 : x * x + y * y = 2
        · refine Ev.pos (by omega) (Ev.pos (by omega) (Ev.bnd0 (free_spec w c _) ?_))
          by_cases f1 : Fr c (a + x)
          · refine Ev.pos (by simpa using f1) (Ev.bnd0 (free_spec w c _) ?_)
            by_cases f2 : Fr c (a + y * w)
            · have eR : (if x * x + y * y = 2 ∧ Fr c (a + x) ∧ Fr c (a + y * w) then (2 : Int) else 0) = 2:=if_pos ⟨c2,f1,f2⟩
              rw [eR];exact Ev.pos (by simpa using f2) (Ev.some rfl)
            · have eR : (if x * x + y * y = 2 ∧ Fr c (a + x) ∧ Fr c (a + y * w) then (2 : Int) else 0) = 0:=if_neg (fun z => f2 z.2.2)
              rw [eR];exact Ev.neg (by simpa using f2) (Ev.some rfl)
          · have eR : (if x * x + y * y = 2 ∧ Fr c (a + x) ∧ Fr c (a + y * w) then (2 : Int) else 0) = 0:=if_neg (fun z => f1 z.2.1)
            rw [eR];exact Ev.neg (by simpa using f1) (Ev.some rfl)
        · have eR : (if x * x + y * y = 2 ∧ Fr c (a + x) ∧ Fr c (a + y * w) then (2 : Int) else 0) = 0:=if_neg (fun z => c2 z.1)
          rw [eR];exact Ev.ite (fun _ => Ev.neg (by omega) (Ev.some rfl)) (fun _ => Ev.some rfl)
    · refine Ev.bnd0 (free_spec w c a) (Ev.pos (by simpa using ha) (Ev.bnd0 (free_spec w c b) ?_))
      rw [df_ hb];exact no (fun x => hb x.2)
  · exact Ev.bnd0 (free_spec w c a) (Ev.neg (by simpa using ha) (no (fun x => ha x.1)))

/-- The program's step: what it costs, and whether there is one. -/
theorem step_impl (h : Cl w c) (a b : Int) : ∃ p q : Int,Ev (fun k => impl_Cells_step.f k w c a b) (p,q,decide (Stp w c a b ≠ 0)) ∧ (Stp w c a b = 1 → p = 1 ∧ q = 0) ∧ (Stp w c a b = 2 → p = 0 ∧ q = 1):=by
  simp only [impl_Cells_step.f]
  have no : ¬ (Fr c a ∧ Fr c b) → Stp w c a b = 0 ∧ Ev (fun k => impl_Cells_step.j0 k a b true w c) (0,0,decide (Stp w c a b ≠ 0)):=by
    intro hn;(have e : Stp w c a b = 0:=by unfold Stp;rw [if_neg hn]);refine ⟨e,Ev.succ ?_⟩;simp only [impl_Cells_step.j0,if_true];exact Ev.some (by rw [e];rfl)
  by_cases ha : Fr c a
  · by_cases hb : Fr c b
    · obtain ⟨d1,d2,d3,d4⟩:=D_range h ha hb
      have hYa:=Y_range h ha.1 ha.2.1;have hYb:=Y_range h hb.1 hb.2.1;have hXa:=X_range h a;have hXb:=X_range h b;have hw:=h.w1;have hw2:=h.w16;have hH:=h.h16;have hn:=h.n256;have hs:=Sq2_range h ha hb;have ed : X_ w b - X_ w a = DX w a b:=rfl;have ey : Y_ w b - Y_ w a = DY w a b:=rfl
      have es : Stp w c a b = if Sq2 w a b = 1 then 1 else if Sq2 w a b = 2 ∧ Fr c (a + DX w a b) ∧ Fr c (a + DY w a b * w) then 2 else 0:=by
        unfold Stp;rw [if_pos ⟨ha,hb⟩]
      -- the two cells beside
      have n1 : Nx w c a (DX w a b) 0 = a + DX w a b:=by
        have:=XY w a;unfold Nx;rw [if_pos (by unfold DX at *;omega),Int.add_zero]
        omega
      have n2 : Nx w c a 0 (DY w a b) = a + DY w a b * w:=by
        have:=XY w a;unfold Nx;rw [if_pos (by unfold DY at *;omega),Int.add_mul]
        omega
      have go : ∀ p q,Ev (fun k => impl_Cells_step.j0 k a b false w c) (p,q,decide (Stp w c a b ≠ 0)) → (Stp w c a b = 1 → p = 1 ∧ q = 0) → (Stp w c a b = 2 → p = 0 ∧ q = 1) →
          ∃ p q : Int,Ev (fun k => (impl_Cells_free.f w c a).bind fun t => if t = true then (impl_Cells_free.f w c b).bind fun t' => impl_Cells_step.j0 k a b (!t') w c else impl_Cells_step.j0 k a b true w c) (p,q,decide (Stp w c a b ≠ 0)) ∧ (Stp w c a b = 1 → p = 1 ∧ q = 0) ∧ (Stp w c a b = 2 → p = 0 ∧ q = 1):=by
        intro p q hj h1 h2;refine ⟨p,q,Ev.bnd0 (free_impl w c a) (Ev.pos (by simpa using ha) (Ev.bnd0 (free_impl w c b) ?_)),h1,h2⟩;rw [dt_ hb];exact hj
      have body : ∀ p q,Ev (fun k => if Sq2 w a b = 1 then some (1,0,true) else if Sq2 w a b = 2 then (some (decide (Fr c (a + DX w a b)))).bind fun t => (if t = true then (some (decide (Fr c (a + DY w a b * w)))).bind fun t2 => some (0,1,t2) else some (0,1,false)) else some (0,0,false)) (p,q,decide (Stp w c a b ≠ 0)) →
          Ev (fun k => impl_Cells_step.j0 k a b false w c) ((p,q,decide (Stp w c a b ≠ 0)) : Int × Int × Bool):=by
        intro p q hh;apply Ev.succ
        simp only [impl_Cells_step.j0,Bool.false_eq_true,if_false,tmod_X ha.1,tmod_X hb.1,tdiv_Y ha.1,tdiv_Y hb.1,wrap64_id (x:=Y_ w a) (by omega) (by omega),wrap64_id (x:=Y_ w b) (by omega) (by omega),
          ed,ey,wrap64_id (x:=DX w a b) (by omega) (by omega),wrap64_id (x:=DY w a b) (by omega) (by omega),
          wrap64_id (x:=DX w a b * DX w a b) (by omega) (by omega),wrap64_id (x:=DY w a b * DY w a b) (by omega) (by omega),wrap64_id (x:=DX w a b * DX w a b + DY w a b * DY w a b) (by omega) (by omega),
          next_eq h ha.1 ha.2.1 (dx:=DX w a b) (dy:=0) (by omega) (by omega),next_eq h ha.1 ha.2.1 (dx:=0) (dy:=DY w a b) (by omega) (by omega),n1,n2,free_impl]
        refine Ev.neg (by omega) ?_
        simpa only [Sq2,Option.bind_some] using hh
      by_cases c1 : Sq2 w a b = 1
      · have e : Stp w c a b = 1:=by rw [es,if_pos c1]
        refine go 1 0 (body 1 0 (Ev.pos c1 (Ev.some (by rw [e];rfl)))) (fun _ => ⟨rfl,rfl⟩) (fun x => by rw [e] at x;exact absurd x (by decide))
      · by_cases c2 : Sq2 w a b = 2
        · by_cases f1 : Fr c (a + DX w a b)
          · by_cases f2 : Fr c (a + DY w a b * w)
            · have e : Stp w c a b = 2:=by rw [es,if_neg c1,if_pos ⟨c2,f1,f2⟩]
              refine go 0 1 (body 0 1 (Ev.neg c1 (Ev.pos c2 ?_))) (fun x => by rw [e] at x;exact absurd x (by decide)) (fun _ => ⟨rfl,rfl⟩);rw [dt_ f1,dt_ f2];exact Ev.some (by rw [e];rfl)
            · have e : Stp w c a b = 0:=by rw [es,if_neg c1,if_neg (fun z => f2 z.2.2)]
              refine go 0 1 (body 0 1 (Ev.neg c1 (Ev.pos c2 ?_))) (fun x => by rw [e] at x;exact absurd x (by decide)) (fun _ => ⟨rfl,rfl⟩);rw [dt_ f1,df_ f2];exact Ev.some (by rw [e];rfl)
          · have e : Stp w c a b = 0:=by rw [es,if_neg c1,if_neg (fun z => f1 z.2.1)]
            refine go 0 1 (body 0 1 (Ev.neg c1 (Ev.pos c2 ?_))) (fun x => by rw [e] at x;exact absurd x (by decide)) (fun _ => ⟨rfl,rfl⟩);rw [df_ f1];exact Ev.some (by rw [e];rfl)
        · have e : Stp w c a b = 0:=by rw [es,if_neg c1,if_neg (fun z => c2 z.1)]
          exact go 0 0 (body 0 0 (Ev.neg c1 (Ev.neg c2 (Ev.some (by rw [e];rfl))))) (fun x => by rw [e] at x;exact absurd x (by decide)) (fun x => by rw [e] at x;exact absurd x (by decide))
    · obtain ⟨e,f⟩:=no (fun x => hb x.2)
      refine ⟨0,0,Ev.bnd0 (free_impl w c a) (Ev.pos (by simpa using ha) (Ev.bnd0 (free_impl w c b) ?_)),fun x => by omega,fun x => by omega⟩;rw [df_ hb];exact f
  · obtain ⟨e,f⟩:=no (fun x => ha x.1)
    exact ⟨0,0,Ev.bnd0 (free_impl w c a) (Ev.neg (by simpa using ha) f),fun x => by omega,fun x => by omega⟩
end
end Go.Proofs.Ytjcmlggdaajicaa.Pure
/-
Own text: shortest ways from one cell with costs a + b * sqrt 2. The costs are compared by whole numbers (a close fraction for the root);a search that takes the least open cell,in whatever order among equals,ends with the one table of least costs. No program in it.
-/
namespace Go.Proofs.Ytjcmlggdaajicaa.Dij
set_option linter.unusedVariables false

/-- 8119 / 5741 is close to the root of 2. -/
def wt (p : Int × Int) : Int:=p.1 * 5741 + p.2 * 8119
def sgn (x : Int) : Int:=if x < 0 then -1 else if x > 0 then 1 else 0

theorem key (a b : Nat) (hb : 0 < b) (hb2 : b < 5741) : (a * 5741 < b * 8119 ∧ a * a < 2 * (b * b)) ∨ (b * 8119 < a * 5741 ∧ 2 * (b * b) < a * a):=by
  have e1 : (a * 5741) * (a * 5741) = (a * a) * 32959081:=by
    rw [Nat.mul_mul_mul_comm a 5741 a 5741]
  have e2 : (b * 8119) * (b * 8119) = (b * b) * 65918161:=by
    rw [Nat.mul_mul_mul_comm b 8119 b 8119]
  (have h3 : b * b < 32959081:=by have:=Nat.mul_self_lt_mul_self hb2;omega);have h4 : 0 < b * b:=Nat.mul_pos hb hb
  rcases Nat.lt_or_ge (a * 5741) (b * 8119) with h | h
  · left
    refine ⟨h,?_⟩;have:=Nat.mul_self_lt_mul_self h;rw [e1,e2] at this
    omega
  · right
    have h5:=Nat.mul_self_le_mul_self h;rw [e1,e2] at h5;(have h6 : 2 * (b * b) ≤ a * a:=by omega)
    rcases Nat.lt_or_ge (2 * (b * b)) (a * a) with h7 | h7
    · refine ⟨?_,h7⟩
      rcases Nat.lt_or_ge (b * 8119) (a * 5741) with h8 | h8
      · exact h8
      · have h9:=Nat.mul_self_le_mul_self h8
        rw [e1,e2] at h9
        omega
    · exfalso
      (have h8 : a * a = 2 * (b * b):=by omega)
      have h9 : b * 8119 ≠ a * 5741:=by
        intro e;rw [← e,e2,h8] at e1
        omega
      have h10 : b * 8119 + 1 ≤ a * 5741:=Nat.succ_le_of_lt (Nat.lt_of_le_of_ne h h9);have h11:=Nat.mul_self_le_mul_self h10;rw [e1,h8] at h11
      have e3 : (b * 8119 + 1) * (b * 8119 + 1) = (b * b) * 65918161 + 2 * (b * 8119) + 1:=by
        rw [Nat.add_mul,Nat.mul_add,e2];omega
      have h12 : b * b ≤ b * 5741:=Nat.mul_le_mul_left b (by omega)
      omega

/-- The same for whole numbers of unlike signs. -/
theorem key_int (a b : Int) (ha : 0 < a) (hb : b < 0) (hb2 : -5741 < b) : (wt (a,b) < 0 ∧ a * a < 2 * (b * b)) ∨ (0 < wt (a,b) ∧ 2 * (b * b) < a * a):=by
  obtain ⟨m,rfl⟩ : ∃ m : Nat,a = m:=⟨a.toNat,by omega⟩;obtain ⟨n,rfl⟩ : ∃ n : Nat,b = -(n : Int):=⟨(-b).toNat,by omega⟩;(have e : (-(n : Int)) * (-(n : Int)) = ((n * n : Nat) : Int):=by rw [Int.neg_mul_neg];simp);(have e' : (m : Int) * (m : Int) = ((m * m : Nat) : Int):=by simp);simp only [wt,e,e']
  rcases key m n (by omega) (by omega) with ⟨h1,h2⟩ | ⟨h1,h2⟩
  · left;constructor <;> omega
  · right;constructor <;> omega
theorem key_int' (a b : Int) (ha : a < 0) (hb : 0 < b) (hb2 : b < 5741) : (0 < wt (a,b) ∧ a * a < 2 * (b * b)) ∨ (wt (a,b) < 0 ∧ 2 * (b * b) < a * a):=by
  have:=key_int (-a) (-b) (by omega) (by omega) (by omega);simp only [Int.neg_mul_neg,wt] at this ⊢
  rcases this with ⟨h1,h2⟩ | ⟨h1,h2⟩
  · left;exact ⟨by omega,h2⟩
  · right;exact ⟨by omega,h2⟩
theorem wt_zero {a b : Int} (h : wt (a,b) = 0) (h1 : -5741 < b) (h2 : b < 5741) : a = 0 ∧ b = 0:=by
  rcases Int.lt_trichotomy b 0 with hb | hb | hb
  · have ha : 0 < a:=by unfold wt at h;simp only at h;omega
    have:=key_int a b ha hb h1
    omega
  · subst hb
    unfold wt at h
    simp only at h
    omega
  · have ha : a < 0:=by unfold wt at h;simp only at h;omega
    have:=key_int' a b ha hb h2
    omega
theorem wt_inj {p q : Int × Int} (h : wt p = wt q) (hp : 0 ≤ p.2) (hp2 : p.2 < 5741) (hq : 0 ≤ q.2) (hq2 : q.2 < 5741) : p = q:=by
  obtain ⟨a,b⟩:=p;obtain ⟨c,d⟩:=q;have:=wt_zero (a:=a - c) (b:=b - d) (by unfold wt at h ⊢;simp only at h ⊢;omega) (by simp only at *;omega) (by simp only at *;omega);simp only [Prod.mk.injEq]
  omega
theorem wt_add (p q : Int × Int) : wt (p.1 + q.1,p.2 + q.2) = wt p + wt q:=by unfold wt;simp only;omega

section
variable (nb : Int → List (Int × Int × Int)) (src : Int)
/-- A walk from the source and its cost. -/
inductive Wk : Int → Int × Int → Prop
  | base : Wk src (0,0)
  | step {c n p q} : Wk c p → (n,q) ∈ nb c → Wk n (p.1 + q.1,p.2 + q.2)

/-- How many of the cells are not done. -/
def cnt (done : Int → Bool) (U : List Int) : Nat:=(U.filter fun x => !done x).length
/-- What holds between two rounds. -/
structure Inv (U : List Int) (D : Int → Option (Int × Int)) (done : Int → Bool) : Prop where
  start : D src = some (0,0)
  walk : ∀ c p,D c = some p → Wk nb src c p ∧ 0 ≤ p.1 ∧ 0 ≤ p.2 ∧ p.1 + p.2 + (cnt done U : Int) + (if done c = true then 1 else 0) ≤ U.length ∧ c ∈ U
  has : ∀ c,done c = true → ∃ p,D c = some p
  shut : ∀ c p,done c = true → D c = some p → ∀ n q,(n,q) ∈ nb c → ∃ p',D n = some p' ∧ wt p' ≤ wt p + wt q
  low : ∀ c p k p',done c = true → D c = some p → done k = false → D k = some p' → wt p ≤ wt p'
/-- What holds at the end. -/
structure End (U : List Int) (D : Int → Option (Int × Int)) : Prop where
  start : D src = some (0,0)
  walk : ∀ c p,D c = some p → Wk nb src c p ∧ 0 ≤ p.1 ∧ 0 ≤ p.2 ∧ p.1 + p.2 + 1 ≤ U.length ∧ c ∈ U
  shut : ∀ c p,D c = some p → ∀ n q,(n,q) ∈ nb c → ∃ p',D n = some p' ∧ wt p' ≤ wt p + wt q
variable {nb src} {U : List Int} {D : Int → Option (Int × Int)} {done : Int → Bool}
theorem Inv.end (h : Inv nb src U D done) (hd : ∀ c p,D c = some p → done c = true) : End nb src U D:=
  ⟨h.start,fun c p hp => by obtain ⟨a,b,c',d,e⟩:=h.walk c p hp;rw [if_pos (hd c p hp)] at d;exact ⟨a,b,c',by omega,e⟩,fun c p hp => h.shut c p (hd c p hp) hp⟩
theorem End.least (h : End nb src U D) {c : Int} {p : Int × Int} (hw : Wk nb src c p) : ∃ p',D c = some p' ∧ wt p' ≤ wt p:=by
  induction hw with
  | base => exact ⟨_,h.start,Int.le_refl _⟩
  | step hw hn ih =>
    obtain ⟨p',h1,h2⟩:=ih;obtain ⟨p'',h3,h4⟩:=h.shut _ _ h1 _ _ hn;exact ⟨p'',h3,by rw [wt_add];omega⟩
theorem End.unique {D' : Int → Option (Int × Int)} (hU : U.length < 5741) (h : End nb src U D) (h' : End nb src U D') : D = D':=by
  have one : ∀ {D D' : Int → Option (Int × Int)},End nb src U D → End nb src U D' → ∀ c p,D c = some p → ∃ p',D' c = some p' ∧ wt p' ≤ wt p:=
    fun h h' c p hp => h'.least (h.walk c p hp).1
  funext c
  cases hp : D c with
  | none =>
    cases hp' : D' c with
    | none => rfl
    | some p' =>
      obtain ⟨q,hq,_⟩:=one h' h c p' hp';rw [hp] at hq;cases hq
  | some p =>
    obtain ⟨p',hp',hl⟩:=one h h' c p hp;obtain ⟨q,hq,hl'⟩:=one h' h c p' hp';rw [hp] at hq
    cases hq
    rw [hp'];have a:=h.walk c p hp;have b:=h'.walk c p' hp';rw [wt_inj (p:=p) (q:=p') (by omega) (by omega) (by omega) (by omega) (by omega)]

theorem inv0 (hs : src ∈ U) (D : Int → Option (Int × Int)) (hD : ∀ c,D c = if c = src then some (0,0) else none) (done : Int → Bool) (hd : ∀ c,done c = false) : Inv nb src U D done:=by
  refine ⟨by rw [hD,if_pos rfl],fun c p hp => ?_,fun c h => (by rw [hd] at h;cases h),fun c p h => (by rw [hd] at h;cases h),fun c p k p' h => (by rw [hd] at h;cases h)⟩;rw [hD] at hp
  split at hp
  · rename_i e
    cases hp;subst e
    refine ⟨Wk.base,Int.le_refl _,Int.le_refl _,?_,hs⟩;have : cnt done U ≤ U.length:=List.length_filter_le _ _;rw [if_neg (by rw [hd];exact Bool.false_ne_true)]
    simp only
    omega
  · cases hp

/-- One neighbour. -/
def rel1 (p : Int × Int) (D : Int → Option (Int × Int)) (x : Int × Int × Int) : Int → Option (Int × Int):=
  match D x.1 with
  | none => fun y => if y = x.1 then some (p.1 + x.2.1,p.2 + x.2.2) else D y
  | some o => if wt (p.1 + x.2.1,p.2 + x.2.2) < wt o then fun y => if y = x.1 then some (p.1 + x.2.1,p.2 + x.2.2) else D y else D
/-- All of them. -/
def rel (p : Int × Int) (D : Int → Option (Int × Int)) (l : List (Int × Int × Int)) : Int → Option (Int × Int):=l.foldl (rel1 p) D

theorem cnt_le (done done' : Int → Bool) (h : ∀ y,done y = true → done' y = true) (U : List Int) : cnt done' U ≤ cnt done U:=by
  unfold cnt
  induction U with
  | nil => exact Nat.le_refl _
  | cons x l ih =>
    simp only [List.filter_cons]
    cases h1 : done x with
    | true => simp only [h x h1,Bool.not_true,Bool.false_eq_true,if_false];exact ih
    | false =>
      simp only [Bool.not_false,if_true,List.length_cons]
      split
      · simp only [List.length_cons];omega
      · omega
theorem cnt_mark {at_ : Int} {done done' : Int → Bool} {U : List Int} (hU : at_ ∈ U) (hd : done at_ = false) (hd' : ∀ y,done' y = if y = at_ then true else done y) : cnt done' U + 1 ≤ cnt done U:=by
  have hle : ∀ y,done y = true → done' y = true:=fun y hy => by rw [hd'];split <;> first | rfl | exact hy
  induction U with
  | nil => cases hU
  | cons x l ih =>
    by_cases e : x = at_
    · subst e
      have:=cnt_le done done' hle l;(have h1 : done' x = true:=by rw [hd',if_pos rfl]);unfold cnt at this ⊢;simp only [List.filter_cons,h1,hd,Bool.not_true,Bool.not_false,Bool.false_eq_true,if_false,if_true,List.length_cons]
      omega
    · have:=ih ((List.mem_cons.1 hU).resolve_left (fun h => e h.symm))
      (have h1 : done' x = done x:=by rw [hd',if_neg e]);unfold cnt at this ⊢;simp only [List.filter_cons,h1]
      split
      · simp only [List.length_cons];omega
      · exact this

/-- What a relaxing leaves as it is, and what it brings. -/
theorem rel_spec (p : Int × Int) : ∀ (l : List (Int × Int × Int)) (D : Int → Option (Int × Int)),
    (∀ c o,D c = some o → ∃ o',rel p D l c = some o' ∧ wt o' ≤ wt o) ∧
    (∀ n q,(n,q) ∈ l → ∃ o',rel p D l n = some o' ∧ wt o' ≤ wt p + wt q) ∧
    (∀ c o',rel p D l c = some o' → D c = some o' ∨ (∃ q,(c,q) ∈ l ∧ o' = (p.1 + q.1,p.2 + q.2) ∧ ∀ o,D c = some o → wt o' < wt o)):=by
  intro l
  induction l with
  | nil => exact fun D => ⟨fun c o h => ⟨o,h,Int.le_refl _⟩,fun n q h => (by cases h),fun c o' h => .inl h⟩
  | cons x l ih =>
    intro D;obtain ⟨n,q⟩:=x
    have r1 : (∀ c o,D c = some o → ∃ o',rel1 p D (n,q) c = some o' ∧ wt o' ≤ wt o) ∧ (∃ o',rel1 p D (n,q) n = some o' ∧ wt o' ≤ wt p + wt q) ∧
        (∀ c o',rel1 p D (n,q) c = some o' → D c = some o' ∨ (c = n ∧ o' = (p.1 + q.1,p.2 + q.2) ∧ ∀ o,D c = some o → wt o' < wt o)):=by
      unfold rel1
      simp only
      cases hn : D n with
      | none =>
        dsimp only;refine ⟨fun c o h => ⟨o,?_,Int.le_refl _⟩,⟨_,if_pos rfl,by rw [wt_add];exact Int.le_refl _⟩,fun c o' h => ?_⟩
        · rw [if_neg (fun e => by rw [e,hn] at h;cases h)];exact h
        · try dsimp only at h
          split at h
          · rename_i e
            cases h
            exact .inr ⟨e,rfl,fun o ho => by rw [e,hn] at ho;cases ho⟩
          · exact .inl h
      | some o0 =>
        dsimp only
        split
        · rename_i hlt
          refine ⟨fun c o h => ?_,⟨_,if_pos rfl,by rw [wt_add];exact Int.le_refl _⟩,fun c o' h => ?_⟩
          · by_cases e : c = n
            · subst e
              rw [hn] at h;cases h;exact ⟨_,if_pos rfl,Int.le_of_lt hlt⟩
            · exact ⟨o,(if_neg e).trans h,Int.le_refl _⟩
          · try dsimp only at h
            split at h
            · rename_i e
              cases h
              exact .inr ⟨e,rfl,fun o ho => by rw [e,hn] at ho;cases ho;exact hlt⟩
            · exact .inl h
        · rename_i hlt
          exact ⟨fun c o h => ⟨o,h,Int.le_refl _⟩,⟨o0,hn,by rw [wt_add] at hlt;omega⟩,fun c o' h => .inl h⟩
    obtain ⟨a1,a2,a3⟩:=r1;obtain ⟨b1,b2,b3⟩:=ih (rel1 p D (n,q));refine ⟨fun c o h => ?_,fun n' q' h => ?_,fun c o' h => ?_⟩
    · obtain ⟨o1,h1,h2⟩:=a1 c o h
      obtain ⟨o2,h3,h4⟩:=b1 c o1 h1;exact ⟨o2,h3,by omega⟩
    · rcases List.mem_cons.1 h with e | h
      · cases e
        obtain ⟨o1,h1,h2⟩:=a2;obtain ⟨o2,h3,h4⟩:=b1 _ o1 h1;exact ⟨o2,h3,by omega⟩
      · exact b2 n' q' h
    · rcases b3 c o' h with h | ⟨q',h1,h2,h3⟩
      · rcases a3 c o' h with h | ⟨e,h1,h2⟩
        · exact .inl h
        · subst e
          exact .inr ⟨q,List.mem_cons_self,h1,h2⟩
      · refine .inr ⟨q',List.mem_cons_of_mem _ h1,h2,fun o ho => ?_⟩
        obtain ⟨o1,h4,h5⟩:=a1 c o ho;have:=h3 o1 h4
        omega

/-- A round: a least open cell is done, its neighbours are told what they cost from it. -/
theorem Inv.round (h : Inv nb src U D done) {at_ : Int} {p : Int × Int} (hat : D at_ = some p) (hnd : done at_ = false) (hmin : ∀ c o,D c = some o → done c = false → wt p ≤ wt o)
    (hnb : ∀ n q,(n,q) ∈ nb at_ → n ∈ U ∧ n ≠ at_ ∧ (q = (1,0) ∨ q = (0,1))) (done' : Int → Bool) (hdone : ∀ y,done' y = if y = at_ then true else done y) : Inv nb src U (rel p D (nb at_)) done':=by
  obtain ⟨r1,r2,r3⟩:=rel_spec p (nb at_) D;have hw:=h.walk at_ p hat
  have qpos : ∀ n q,(n,q) ∈ nb at_ → 0 < wt q:=by
    intro n q hq
    rcases (hnb n q hq).2.2 with e | e <;> subst e <;> decide
  -- what is done stays
  have keep : ∀ c o,D c = some o → wt o ≤ wt p → rel p D (nb at_) c = some o:=by
    intro c o ho hle;obtain ⟨o',h1,h2⟩:=r1 c o ho
    rcases r3 c o' h1 with e | ⟨q,hq,e,hlt⟩
    · rw [h1,← e,ho]
    · have:=hlt o ho
      subst e;have:=qpos c q hq;rw [wt_add] at *
      omega
  have hcnt : cnt done' U + 1 ≤ cnt done U:=cnt_mark hw.2.2.2.2 hnd hdone;have hat':=keep at_ p hat (Int.le_refl _)
  have dcase : ∀ c,done' c = true → c = at_ ∨ done c = true:=by
    intro c hc;rw [hdone] at hc
    split at hc
    · rename_i e;exact .inl e
    · exact .inr hc
  (have dle : ∀ c o,done c = true → D c = some o → wt o ≤ wt p:=fun c o hc ho => h.low c o at_ p hc ho hnd hat);refine ⟨?_,fun c o' ho' => ?_,fun c hc => ?_,fun c o' hc ho' n q hq => ?_,fun c o k o' hc ho hk ho' => ?_⟩
  · rcases hd : done src with _ | _
    · have : wt p ≤ wt (0,0):=hmin src _ h.start hd
      (have hp0 : 0 ≤ wt p:=by unfold wt;omega);refine keep src _ h.start ?_;have : wt (0,0) = 0:=rfl
      omega
    · exact keep src _ h.start (dle src _ hd h.start)
  · rcases r3 c o' ho' with e | ⟨q,hq,e,hlt⟩
    · obtain ⟨a,b,c',d,e⟩:=h.walk c o' e
      refine ⟨a,b,c',?_,e⟩
      have h1 : (0 : Int) ≤ if done c = true then 1 else 0:=by split <;> omega
      have h2 : (if done' c = true then 1 else 0 : Int) ≤ 1:=by split <;> omega
      omega
    · have hnd' : ¬ done' c = true:=by
        intro hc
        rcases dcase c hc with e2 | e2
        · exact (hnb c q hq).2.1 e2
        · obtain ⟨o,ho⟩:=h.has c e2
          have h1:=hlt o ho;have h2:=dle c o e2 ho;subst e;have:=qpos c q hq;rw [wt_add] at h1
          omega
      subst e;have:=hnb c q hq;have hw4:=hw.2.2.2.1;rw [if_neg (by rw [hnd];exact Bool.false_ne_true)] at hw4
      refine ⟨Wk.step hw.1 hq,?_,?_,?_,this.1⟩ <;> (try rw [if_neg hnd']) <;> rcases this.2.2 with e | e <;> subst e <;> simp only <;> omega
  · rcases dcase c hc with e | e
    · subst e;exact ⟨p,hat'⟩
    · obtain ⟨o,ho⟩:=h.has c e
      exact ⟨o,keep c o ho (dle c o e ho)⟩
  · rcases dcase c hc with e | e
    · subst e
      rw [hat'] at ho'
      cases ho'
      exact r2 n q hq
    · obtain ⟨o,ho⟩:=h.has c e
      have e3 : o = o':=Option.some.inj ((keep c o ho (dle c o e ho)).symm.trans ho');subst e3;obtain ⟨o1,h1,h2⟩:=h.shut c o e ho n q hq;obtain ⟨o2,h3,h4⟩:=r1 n o1 h1;exact ⟨o2,h3,by omega⟩
  · have hkn : k ≠ at_ ∧ done k = false:=by
      rw [hdone] at hk
      split at hk
      · cases hk
      · rename_i e;exact ⟨e,hk⟩
    have hle : wt o ≤ wt p:=by
      rcases dcase c hc with e | e
      · subst e
        rw [hat'] at ho
        cases ho
        exact Int.le_refl _
      · obtain ⟨o1,ho1⟩:=h.has c e
        rw [keep c o1 ho1 (dle c o1 e ho1)] at ho
        cases ho
        exact dle c o e ho1
    rcases r3 k o' ho' with e | ⟨q,hq,e,_⟩
    · have:=hmin k o' e hkn.2
      omega
    · subst e
      have:=qpos k q hq;rw [wt_add]
      omega
/-- A way back: a reached cell that is not the source has a neighbour from which it is reached at its cost. -/
theorem End.back (h : End nb src U D) (hU : U.length < 5741) (hsym : ∀ c n q,(n,q) ∈ nb c → (c,q) ∈ nb n) (hq01 : ∀ c n q,(n,q) ∈ nb c → q = (1,0) ∨ q = (0,1)) {c : Int} {p : Int × Int} (hc : D c = some p) (hne : c ≠ src) :
    ∃ n q o,(n,q) ∈ nb c ∧ D n = some o ∧ (o.1 + q.1,o.2 + q.2) = p:=by
  obtain ⟨hw,h0,h1,h2,_⟩:=h.walk c p hc
  cases hw with
  | base => exact absurd rfl hne
  | step hw' hn =>
    rename_i c' p' q
    obtain ⟨o,ho,hle⟩:=h.least hw';obtain ⟨o',ho',hle'⟩:=h.shut _ _ ho _ _ hn;rw [hc] at ho'
    cases ho'
    rw [wt_add] at hle';obtain ⟨_,a,b,d,_⟩:=h.walk _ _ ho;refine ⟨c',q,o,hsym _ _ _ hn,ho,wt_inj ?_ ?_ ?_ ?_ ?_⟩
    · rw [wt_add,wt_add];omega
    all_goals rcases hq01 _ _ _ hn with e | e <;> subst e <;> simp only at * <;> omega
/-- The next cell of a way back. -/
def nxt (nb : Int → List (Int × Int × Int)) (D : Int → Option (Int × Int)) (c : Int) : Int:=
  (((nb c).find? fun x => match D x.1,D c with
    | some o,some p => decide (o.1 + x.2.1 = p.1 ∧ o.2 + x.2.2 = p.2)
    | _,_ => false).map fun x => x.1).getD c
/-- The way back, of so many steps. -/
def trail (nb : Int → List (Int × Int × Int)) (D : Int → Option (Int × Int)) : Nat → Int → List Int
  | 0,c => [c]
  | f + 1,c => c :: trail nb D f (nxt nb D c)
theorem trail_length (f : Nat) (c : Int) : (trail nb D f c).length = f + 1:=by
  induction f generalizing c with
  | zero => rfl
  | succ f ih => simp [trail,ih]
theorem trail_head (f : Nat) (c : Int) : ∃ l,trail nb D f c = c :: l:=by
  cases f with
  | zero => exact ⟨[],rfl⟩
  | succ f => exact ⟨_,rfl⟩
theorem End.nxt_spec (h : End nb src U D) (hU : U.length < 5741) (hsym : ∀ c n q,(n,q) ∈ nb c → (c,q) ∈ nb n) (hq01 : ∀ c n q,(n,q) ∈ nb c → q = (1,0) ∨ q = (0,1)) {c : Int} {p : Int × Int} (hc : D c = some p) (hne : c ≠ src) :
    ∃ q o,(nxt nb D c,q) ∈ nb c ∧ D (nxt nb D c) = some o ∧ o.1 + q.1 = p.1 ∧ o.2 + q.2 = p.2:=by
  obtain ⟨n,q,o,h1,h2,h3⟩:=h.back hU hsym hq01 hc hne;unfold nxt
  cases hf : (nb c).find? fun x => match D x.1,D c with
    | some o,some p => decide (o.1 + x.2.1 = p.1 ∧ o.2 + x.2.2 = p.2)
    | _,_ => false with
  | none =>
    have:=List.find?_eq_none.1 hf _ h1;subst h3
    simp [h2,hc] at this
  | some x =>
    have hx:=List.find?_some hf;have hm:=List.mem_of_find?_eq_some hf;simp only [Option.map_some,Option.getD_some];rw [hc] at hx
    cases ho : D x.1 with
    | none => simp only [ho] at hx;cases hx
    | some o =>
      simp only [ho,decide_eq_true_eq] at hx;exact ⟨x.2,o,hm,rfl,hx⟩
/-- The steps of a way back are as many as its cost tells, and it is over just at the source. -/
theorem End.sum_zero (h : End nb src U D) (hU : U.length < 5741) (hsym : ∀ c n q,(n,q) ∈ nb c → (c,q) ∈ nb n) (hq01 : ∀ c n q,(n,q) ∈ nb c → q = (1,0) ∨ q = (0,1)) {c : Int} {p : Int × Int} (hc : D c = some p) : c = src ↔ p.1 + p.2 = 0:=by
  constructor
  · intro e
    subst e;rw [h.start] at hc
    cases hc
    rfl
  · intro e
    rcases Decidable.em (c = src) with h1 | h1
    · exact h1
    · obtain ⟨q,o,h2,h3,h4,h5⟩:=h.nxt_spec hU hsym hq01 hc h1
      have:=h.walk _ _ h3
      rcases hq01 _ _ _ h2 with e2 | e2 <;> subst e2 <;> simp only at h4 h5 <;> omega
end
end Go.Proofs.Ytjcmlggdaajicaa.Dij
/-
Own text: the cells around one,in order,and what a step to them costs.
-/
namespace Go.Proofs.Ytjcmlggdaajicaa.Pure
open Go.RowKit Go.Proofs.YtjcmlggdaajicaaW.PrintWords Go.Proofs.YtjcmlggdaajicaaW.PrintLast Go.Proofs.Ytjcmlggdaajicaa.Pr Go.Proofs.Ytjcmlggdaajicaa.EvKit
open Classical
set_option linter.unusedVariables false

def Us (n : Nat) : List Int:=(List.range n).map (fun i : Nat => (i : Int))
theorem mem_Us {n : Nat} {x : Int} : x ∈ Us n ↔ 0 ≤ x ∧ x < n:=by
  unfold Us;rw [List.mem_map]
  constructor
  · rintro ⟨a,ha,rfl⟩
    have:=List.mem_range.1 ha
    omega
  · rintro ⟨h0,h1⟩
    exact ⟨x.toNat,List.mem_range.2 (by omega),by omega⟩
theorem Us_length (n : Nat) : (Us n).length = n:=by simp [Us]

/-- The ways to go, as the program takes them: column, row. -/
def dirs : List (Int × Int):=[(-1,-1),(0,-1),(1,-1),(-1,0),(0,0),(1,0),(-1,1),(0,1),(1,1)]
/-- One of the cells around. -/
noncomputable def ar1 (w : Int) (c : List Int) (a : Int) (d : Int × Int) : Option Int:=if Nx w c a d.1 d.2 < 0 ∨ Nx w c a d.1 d.2 = a then none else some (Nx w c a d.1 d.2)
noncomputable def AR (w : Int) (c : List Int) (a : Int) : List Int:=dirs.filterMap (ar1 w c a)
/-- A step to a cell: what it costs. -/
noncomputable def st1 (w : Int) (c : List Int) (a n : Int) : Option (Int × Int × Int):=if Stp w c a n = 1 then some (n,1,0) else if Stp w c a n = 2 then some (n,0,1) else none
noncomputable def NB (w : Int) (c : List Int) (a : Int) : List (Int × Int × Int):=(AR w c a).filterMap (st1 w c a)

section
variable {w : Int} {c : List Int}
theorem Nx_or (w : Int) (c : List Int) (h : Cl w c) {a : Int} (h0 : 0 ≤ a) (h1 : a < c.length) (d : Int × Int) : (Nx w c a d.1 d.2 = -1) ∨ (0 ≤ Nx w c a d.1 d.2 ∧ Nx w c a d.1 d.2 < c.length ∧ X_ w (Nx w c a d.1 d.2) = X_ w a + d.1 ∧ Y_ w (Nx w c a d.1 d.2) = Y_ w a + d.2):=by
  unfold Nx
  split
  · rename_i hx
    right
    have:=cell_in h hx.1 hx.2.1 hx.2.2.1 hx.2.2.2;exact ⟨this.1,this.2,X_cell hx.1 hx.2.1 _,Y_cell hx.1 hx.2.1 _⟩
  · left;rfl
theorem mem_AR (h : Cl w c) {a n : Int} (h0 : 0 ≤ a) (h1 : a < c.length) : n ∈ AR w c a ↔ 0 ≤ n ∧ n < c.length ∧ n ≠ a ∧ -1 ≤ DX w a n ∧ DX w a n ≤ 1 ∧ -1 ≤ DY w a n ∧ DY w a n ≤ 1:=by
  unfold AR;rw [List.mem_filterMap]
  constructor
  · rintro ⟨d,hd,he⟩
    unfold ar1 at he
    split at he
    · cases he
    · rename_i hn
      cases he
      rcases Nx_or w c h h0 h1 d with e | ⟨e1,e2,e3,e4⟩
      · exact absurd (.inl (by omega)) hn
      · have hdd : -1 ≤ d.1 ∧ d.1 ≤ 1 ∧ -1 ≤ d.2 ∧ d.2 ≤ 1:=by
          simp only [dirs,List.mem_cons,List.not_mem_nil,or_false] at hd
          rcases hd with e | e | e | e | e | e | e | e | e <;> subst e <;> simp
        unfold DX DY;rw [e3,e4];exact ⟨e1,e2,fun e => hn (.inr e),by omega,by omega,by omega,by omega⟩
  · rintro ⟨g0,g1,g2,g3,g4,g5,g6⟩
    have hX:=X_range h n;have hY:=Y_range h g0 g1
    have e : Nx w c a (DX w a n) (DY w a n) = n:=by
      unfold Nx;rw [if_pos (by unfold DX DY;omega),show X_ w a + DX w a n = X_ w n by unfold DX;omega,show Y_ w a + DY w a n = Y_ w n by unfold DY;omega];exact XY w n
    refine ⟨(DX w a n,DY w a n),?_,?_⟩
    · generalize DX w a n = x at g3 g4
      generalize DY w a n = y at g5 g6;(have hx : x = -1 ∨ x = 0 ∨ x = 1:=by omega);(have hy : y = -1 ∨ y = 0 ∨ y = 1:=by omega)
      rcases hx with rfl | rfl | rfl <;> rcases hy with rfl | rfl | rfl <;> simp [dirs]
    · unfold ar1
      simp only [e];rw [if_neg (by omega)]
theorem sq_small {x : Int} (h : x * x ≤ 2) : -1 ≤ x ∧ x ≤ 1:=by
  rcases sq_cases x with ⟨e,_⟩ | ⟨e,_⟩ | ⟨_,e⟩ <;> omega
theorem Stp_facts {a b : Int} (h : Stp w c a b ≠ 0) : Fr c a ∧ Fr c b ∧ (-1 ≤ DX w a b ∧ DX w a b ≤ 1 ∧ -1 ≤ DY w a b ∧ DY w a b ≤ 1) ∧ b ≠ a:=by
  unfold Stp at h
  split at h
  · rename_i hf
    have sq : ∀ x : Int,0 ≤ x * x:=fun x => by rcases sq_cases x with ⟨_,e⟩ | ⟨_,e⟩ | ⟨_,e⟩ <;> omega
    have hs : Sq2 w a b = 1 ∨ Sq2 w a b = 2:=by
      by_cases h1 : Sq2 w a b = 1
      · exact .inl h1
      · rw [if_neg h1] at h
        by_cases h2 : Sq2 w a b = 2
        · exact .inr h2
        · rw [if_neg (fun z => h2 z.1)] at h
          exact absurd rfl h
    have s1:=sq (DX w a b);have s2:=sq (DY w a b);unfold Sq2 at hs;have d1:=sq_small (x:=DX w a b) (by omega);have d2:=sq_small (x:=DY w a b) (by omega);refine ⟨hf.1,hf.2,⟨d1.1,d1.2,d2.1,d2.2⟩,fun e => ?_⟩;subst e;(have e1 : DX w b b = 0:=by unfold DX;omega);(have e2 : DY w b b = 0:=by unfold DY;omega);rw [e1,e2] at hs
    omega
  · exact absurd rfl h
theorem Stp_symm (h : Cl w c) (a b : Int) : Stp w c a b = Stp w c b a:=by
  (have e1 : DX w b a = - DX w a b:=by unfold DX;omega);(have e2 : DY w b a = - DY w a b:=by unfold DY;omega);(have e3 : Sq2 w b a = Sq2 w a b:=by unfold Sq2;rw [e1,e2,Int.neg_mul_neg,Int.neg_mul_neg])
  have e4 : b + DX w b a = a + DY w a b * w:=by
    have:=XY w a;have:=XY w b;unfold DX DY;rw [Int.sub_mul]
    omega
  have e5 : b + DY w b a * w = a + DX w a b:=by
    have:=XY w a;have:=XY w b;unfold DX DY;rw [Int.sub_mul]
    omega
  unfold Stp;rw [e3,e4,e5];by_cases hf : Fr c a ∧ Fr c b
  · rw [if_pos hf,if_pos (show Fr c b ∧ Fr c a from ⟨hf.2,hf.1⟩)]
    have : (Sq2 w a b = 2 ∧ Fr c (a + DX w a b) ∧ Fr c (a + DY w a b * w)) ↔ (Sq2 w a b = 2 ∧ Fr c (a + DY w a b * w) ∧ Fr c (a + DX w a b)):=⟨fun x => ⟨x.1,x.2.2,x.2.1⟩,fun x => ⟨x.1,x.2.2,x.2.1⟩⟩;by_cases h1 : Sq2 w a b = 1
    · rw [if_pos h1,if_pos h1]
    · rw [if_neg h1,if_neg h1]
      simp only [this]
  · rw [if_neg hf,if_neg (show ¬ (Fr c b ∧ Fr c a) from fun x => hf ⟨x.2,x.1⟩)]
theorem mem_NB (h : Cl w c) {a n : Int} {q : Int × Int} (h0 : 0 ≤ a) (h1 : a < c.length) : (n,q) ∈ NB w c a ↔ (Stp w c a n = 1 ∧ q = (1,0)) ∨ (Stp w c a n = 2 ∧ q = (0,1)):=by
  unfold NB;rw [List.mem_filterMap]
  constructor
  · rintro ⟨m,hm,he⟩
    unfold st1 at he
    split at he
    · rename_i h2;cases he;exact .inl ⟨h2,rfl⟩
    · split at he
      · rename_i h2;cases he;exact .inr ⟨h2,rfl⟩
      · cases he
  · intro hh
    (have hne : Stp w c a n ≠ 0:=by omega);obtain ⟨f1,f2,f3,f4⟩:=Stp_facts hne;refine ⟨n,(mem_AR h h0 h1).2 ⟨f2.1,f2.2.1,f4,f3⟩,?_⟩;unfold st1
    rcases hh with ⟨e,rfl⟩ | ⟨e,rfl⟩
    · rw [if_pos e]
    · rw [if_neg (by omega),if_pos e]
/-- Out of the field, or on a wall, there is no step. -/
theorem NB_in {a n : Int} {q : Int × Int} (hm : (n,q) ∈ NB w c a) : Stp w c a n ≠ 0 ∧ ((Stp w c a n = 1 ∧ q = (1,0)) ∨ (Stp w c a n = 2 ∧ q = (0,1))):=by
  unfold NB at hm;obtain ⟨m,hm,he⟩:=List.mem_filterMap.1 hm;unfold st1 at he
  split at he
  · rename_i h2;cases he;exact ⟨by omega,.inl ⟨h2,rfl⟩⟩
  · split at he
    · rename_i h2;cases he;exact ⟨by omega,.inr ⟨h2,rfl⟩⟩
    · cases he
theorem NB_free {a n : Int} {q : Int × Int} (hm : (n,q) ∈ NB w c a) : Fr c a ∧ Fr c n ∧ n ≠ a:=by
  obtain ⟨f1,f2,_,f4⟩:=Stp_facts (NB_in hm).1;exact ⟨f1,f2,f4⟩
theorem NB_q {a n : Int} {q : Int × Int} (hm : (n,q) ∈ NB w c a) : q = (1,0) ∨ q = (0,1):=(NB_in hm).2.elim (fun x => .inl x.2) (fun x => .inr x.2)
theorem NB_symm (h : Cl w c) (a n : Int) (q : Int × Int) (hm : (n,q) ∈ NB w c a) : (a,q) ∈ NB w c n:=by
  obtain ⟨f1,f2,_⟩:=NB_free hm;have:=(mem_NB h f1.1 f1.2.1).1 hm;refine (mem_NB h f2.1 f2.2.1).2 ?_;rw [Stp_symm h n a];exact this
theorem NB_length (w : Int) (c : List Int) (a : Int) : (AR w c a).length ≤ 9 ∧ (NB w c a).length ≤ 9:=by
  have h1 : (AR w c a).length ≤ 9:=List.length_filterMap_le _ _;exact ⟨h1,Nat.le_trans (List.length_filterMap_le _ _) h1⟩
end
end Go.Proofs.Ytjcmlggdaajicaa.Pure
/-
Own text,by hand: what ShortestWay comes to.
-/
namespace Go.Proofs.Ytjcmlggdaajicaa.Pr
open Go.RowKit Go.Proofs.YtjcmlggdaajicaaW.PrintWords Go.Proofs.YtjcmlggdaajicaaW.PrintLast
/-- The way that a table tells. -/
noncomputable def wayOf (w : Int) (c : List Int) (D : Int → Option (Int × Int)) (from_ : Int) : List Int × Int × Int × Bool:=
  match D from_ with
  | none => ([],0,0,false)
  | some p => (Dij.trail (Pure.NB w c) D (p.1 + p.2).toNat from_,p.1,p.2,true)
def IsWay (w : Int) (c : List Int) (from_ to_ : Int) (r : List Int × Int × Int × Bool) : Prop:=
  (Pure.Cl w c ∧ Pure.Fr c from_ ∧ Pure.Fr c to_ ∧ ∃ D,Dij.End (Pure.NB w c) to_ (Pure.Us c.length) D ∧ r = wayOf w c D from_) ∨ (¬ (Pure.Cl w c ∧ Pure.Fr c from_ ∧ Pure.Fr c to_) ∧ r = ([],0,0,false))
theorem IsWay.unique {w : Int} {c : List Int} {from_ to_ : Int} {r r' : List Int × Int × Int × Bool} (h : IsWay w c from_ to_ r) (h' : IsWay w c from_ to_ r') : r = r':=by
  rcases h with ⟨a,b,d,D,e,f⟩ | ⟨a,b⟩
  · rcases h' with ⟨a',b',d',D',e',f'⟩ | ⟨a',b'⟩
    · have hu : (Pure.Us c.length).length < 5741:=by rw [Pure.Us_length];have:=a.n256;omega
      rw [f,f',e.unique hu e']
    · exact absurd ⟨a,b,d⟩ a'
  · rcases h' with ⟨a',b',d',D',e',f'⟩ | ⟨a',b'⟩
    · exact absurd ⟨a',b',d'⟩ a
    · rw [b,b']
open Classical in
noncomputable def impl_ShortestWay.f (a0_0 : Int) (l0_1 : List Int) (a1 : Int) (a2 : Int) : Option (List Int × Int × Int × Bool):=
  if h : l0_1.length ≤ 35184372088832 ∧ ∃ r,IsWay a0_0 l0_1 a1 a2 r then some (Classical.choose h.2) else none
theorem impl_ShortestWay.is {a0_0 : Int} {l0_1 : List Int} {a1 a2 : Int} {r : List Int × Int × Int × Bool} (h : impl_ShortestWay.f a0_0 l0_1 a1 a2 = some r) : l0_1.length ≤ 35184372088832 ∧ IsWay a0_0 l0_1 a1 a2 r:=by
  unfold impl_ShortestWay.f at h
  split at h
  · rename_i hh
    injection h with h
    subst h;exact ⟨hh.1,Classical.choose_spec hh.2⟩
  · cases h
theorem impl_ShortestWay.of {a0_0 : Int} {l0_1 : List Int} {a1 a2 : Int} {r : List Int × Int × Int × Bool} (hn : l0_1.length ≤ 35184372088832) (h : IsWay a0_0 l0_1 a1 a2 r) : impl_ShortestWay.f a0_0 l0_1 a1 a2 = some r:=by
  unfold impl_ShortestWay.f;rw [dif_pos ⟨hn,r,h⟩];exact congrArg some (IsWay.unique (Classical.choose_spec (⟨r,h⟩ : ∃ r,IsWay a0_0 l0_1 a1 a2 r)) h)
end Go.Proofs.Ytjcmlggdaajicaa.Pr
namespace Go.Proofs.Ytjcmlggdaajicaa.Pr
open Go.RowKit Go.Proofs.YtjcmlggdaajicaaW.PrintWords Go.Proofs.YtjcmlggdaajicaaW.PrintLast Go.Proofs.YtjcmlggdaajicaaW.PrintMore
attribute [local go_sem] max2_int min2_int max_two min_two max_three min_three max_four min_four
set_option linter.unusedVariables false
set_option linter.unusedSimpArgs false

/-! ### laws_eqWay: function 32 -/
/-! ### laws_markWay: function 33 -/
/-! ### laws_heldIntS: function 23 -/
/-! ### laws_heldWay: function 34 -/
/-! ### laws_FnExactShortestWay: function 8 -/
/-! ### spec_Clear: function 11 -/
def spec_Clear.f (k : Nat) (a0_0 : Int) (l0_1 : List Int) (a1 : Int) (a2 : Int) : Option (Bool):=(spec_GoodCells.f k a0_0 l0_1).bind fun t528 => (if t528 = true then ((spec_l18Clear.f k a0_0 l0_1 a1 a2).bind fun t529 => (some t529)) else (some false))
/-! ### impl_WayCost: function 17 -/
mutual
def impl_WayCost.j0 : Nat → List Int → Bool → Int → List Int → Option (Int × Int × Bool)
  | 0,_,_,_,_ => none
  | k + 1,x1,x31,x531000,x531001 => if x31 = true then (some (0,0,false)) else (impl_WayCost.l0 k x1 1 x531000 x531001 0 0)
def impl_WayCost.l0 : Nat → List Int → Int → Int → List Int → Int → Int → Option (Int × Int × Bool)
  | 0,_,_,_,_,_,_ => none
  | k + 1,x1,x8,x531000,x531001,x535000,x535001 => if x8 < (x1.length : Int) then (if 0 ≤ (wrap64 (x8 - 1)) then (if (wrap64 (x8 - 1)) < (x1.length : Int) then (if 0 ≤ x8 then ((impl_Cells_step.f k x531000 x531001 (rd x1 (wrap64 (x8 - 1))) (rd x1 x8)).bind fun bt537 => (if bt537.2.2 = true then (impl_WayCost.l0 k x1 (wrap64 (x8 + 1)) x531000 x531001 (wrap64 (x535000 + bt537.1)) (wrap64 (x535001 + bt537.2.1))) else (some (0,0,false)))) else (none)) else (none)) else (none)) else (some (x535000,x535001,true))
end
def impl_WayCost.f (k : Nat) (a0_0 : Int) (l0_1 : List Int) (l1 : List Int) : Option (Int × Int × Bool):=(impl_GoodCells.f k a0_0 l0_1).bind fun t531 => (if t531 = true then (if (l1.length : Int) < 1 then (impl_WayCost.j0 k l1 true a0_0 l0_1) else (if (l1.length : Int) > 256 then (impl_WayCost.j0 k l1 true a0_0 l0_1) else (if 0 < (l1.length : Int) then ((impl_Cells_free.f a0_0 l0_1 (rd l1 0)).bind fun t533 => (impl_WayCost.j0 k l1 (!t533) a0_0 l0_1)) else (none)))) else (impl_WayCost.j0 k l1 true a0_0 l0_1))
/-! ### impl_PulledWay: function 25 -/
mutual
def impl_PulledWay.j0 : Nat → List Int → Bool → Int → List Int → Option (List Int × Bool)
  | 0,_,_,_,_ => none
  | k + 1,x1,x23,x542000,x542001 => if x23 = true then (some (([] : List Int),false)) else (impl_PulledWay.l0 k x1 x1 (x1.length : Int) 0 x542000 x542001)
def impl_PulledWay.l0 : Nat → List Int → List Int → Int → Int → Int → List Int → Option (List Int × Bool)
  | 0,_,_,_,_,_,_ => none
  | k + 1,x1,x24,x25,x26,x542000,x542001 => if x26 < x25 then (if 0 ≤ x26 then (if x26 < (x24.length : Int) then ((impl_Cells_free.f x542000 x542001 (rd x24 x26)).bind fun t544 => (if t544 = true then (if x26 > 0 then (if 0 ≤ (wrap64 (x26 - 1)) then (if (wrap64 (x26 - 1)) < (x1.length : Int) then ((impl_Cells_clear.f x542000 x542001 (rd x1 (wrap64 (x26 - 1))) (rd x24 x26)).bind fun t546 => (if t546 = true then (impl_PulledWay.l0 k x1 x24 x25 (wrap64 (x26 + 1)) x542000 x542001) else (some (([] : List Int),false)))) else (none)) else (none)) else (impl_PulledWay.l0 k x1 x24 x25 (wrap64 (x26 + 1)) x542000 x542001)) else (some (([] : List Int),false)))) else (none)) else (none)) else (if 0 < (x1.length : Int) then (impl_PulledWay.l1 k x1 (([rd x1 0] : List Int)) 0 x542000 x542001) else (none))
def impl_PulledWay.l1 : Nat → List Int → List Int → Int → Int → List Int → Option (List Int × Bool)
  | 0,_,_,_,_,_ => none
  | k + 1,x1,x8,x9,x542000,x542001 => if x9 < (wrap64 ((x1.length : Int) - 1)) then (impl_PulledWay.l2 k x1 x8 x9 (wrap64 ((x1.length : Int) - 1)) x542000 x542001) else (some (x8,true))
def impl_PulledWay.l2 : Nat → List Int → List Int → Int → Int → Int → List Int → Option (List Int × Bool)
  | 0,_,_,_,_,_,_ => none
  | k + 1,x1,x8,x9,x10,x542000,x542001 => if 0 ≤ x9 then (if x9 < (x1.length : Int) then (if 0 ≤ x10 then (if x10 < (x1.length : Int) then ((impl_Cells_clear.f x542000 x542001 (rd x1 x9) (rd x1 x10)).bind fun t553 => (if t553 = true then (if x8.length < 17592186044416 then (impl_PulledWay.l1 k x1 (x8 ++ [rd x1 x10]) x10 x542000 x542001) else (none)) else (impl_PulledWay.l2 k x1 x8 x9 (wrap64 (x10 - 1)) x542000 x542001))) else (none)) else (none)) else (none)) else (none)
end
def impl_PulledWay.f (k : Nat) (a0_0 : Int) (l0_1 : List Int) (l1 : List Int) : Option (List Int × Bool):=(impl_GoodCells.f k a0_0 l0_1).bind fun t542 => (if t542 = true then (if (l1.length : Int) < 1 then (impl_PulledWay.j0 k l1 true a0_0 l0_1) else (impl_PulledWay.j0 k l1 (decide ((l1.length : Int) > 256)) a0_0 l0_1)) else (impl_PulledWay.j0 k l1 true a0_0 l0_1))
/-! ### spec_DrawShortestWay: function 35 -/
def spec_DrawShortestWay.f (k : Nat) (l0 : List Int) : Option (Int × List Int × Int × Int):=(spec_l1Cur_ends.f k l0 0 0).bind fun bt560 => (some (bt560.1,bt560.2.1,bt560.2.2.1,bt560.2.2.2.1))
/-! ### spec_l1Cur_stroll: function 53 -/
mutual
def spec_l1Cur_stroll.j2 : Nat → List Int → List Int → Int → Int → Int → List Int → Option (List Int × Int × Int)
  | 0,_,_,_,_,_,_ => none
  | k + 1,x7,x1000,x1001,x1002,x569000,x569001 => (spec_l1Cur_one.f x1000 x1001 x1002 16).bind fun bt597 => (if bt597.1 = true then ((spec_l1Cur_pick.f x1000 bt597.2.1 bt597.2.2 (wrap64 ((x569001.length : Int) + 1))).bind fun bt600 => (if x7.length < 17592186044416 then (some ((x7 ++ [bt600.1]),bt600.2.1,bt600.2.2)) else (none))) else (some (x7,bt597.2.1,bt597.2.2)))
def spec_l1Cur_stroll.l0 : Nat → Int → List Int → Int → List Int → Int → Int → Int → List Int → Option (List Int × Int × Int)
  | 0,_,_,_,_,_,_,_,_ => none
  | k + 1,x6,x7,x8,x1000,x1001,x1002,x569000,x569001 => if x8 > 0 then ((spec_l18Around.f k x569000 x569001 x6).bind fun t582 => (spec_l1Cur_stroll.l1 k x6 x7 x8 ([] : List Int) t582 (t582.length : Int) 0 x1000 x1001 x1002 x569000 x569001)) else (spec_l1Cur_stroll.j2 k x7 x1000 x1001 x1002 x569000 x569001)
def spec_l1Cur_stroll.l1 : Nat → Int → List Int → Int → List Int → List Int → Int → Int → List Int → Int → Int → Int → List Int → Option (List Int × Int × Int)
  | 0,_,_,_,_,_,_,_,_,_,_,_,_ => none
  | k + 1,x6,x7,x8,x9,x34,x35,x36,x1000,x1001,x1002,x569000,x569001 => if x36 < x35 then (if 0 ≤ x36 then (if x36 < (x34.length : Int) then ((spec_l18Step.f k x569000 x569001 x6 (rd x34 x36)).bind fun t586 => (if t586 > 0 then (if x9.length < 17592186044416 then (spec_l1Cur_stroll.l1 k x6 x7 x8 (x9 ++ [rd x34 x36]) x34 x35 (wrap64 (x36 + 1)) x1000 x1001 x1002 x569000 x569001) else (none)) else (spec_l1Cur_stroll.l1 k x6 x7 x8 x9 x34 x35 (wrap64 (x36 + 1)) x1000 x1001 x1002 x569000 x569001))) else (none)) else (none)) else (if (x9.length : Int) = 0 then (spec_l1Cur_stroll.j2 k x7 x1000 x1001 x1002 x569000 x569001) else ((spec_l1Cur_pick.f x1000 x1001 x1002 (x9.length : Int)).bind fun bt590 => (if 0 ≤ bt590.1 then (if bt590.1 < (x9.length : Int) then (if x7.length < 17592186044416 then (spec_l1Cur_stroll.l0 k (rd x9 bt590.1) (x7 ++ [rd x9 bt590.1]) (wrap64 (x8 - 1)) x1000 bt590.2.1 bt590.2.2 x569000 x569001) else (none)) else (none)) else (none))))
end
def spec_l1Cur_stroll.f (k : Nat) (s0_0 : List Int) (s0_1 : Int) (s0_2 : Int) (a1_0 : Int) (l1_1 : List Int) : Option (List Int × Int × Int):=(spec_AllPlaces.f k a1_0 l1_1).bind fun t569 => (if (t569.length : Int) = 0 then (some (([] : List Int),s0_1,s0_2)) else ((spec_l1Cur_pick.f s0_0 s0_1 s0_2 (t569.length : Int)).bind fun bt572 => (if 0 ≤ bt572.1 then (if bt572.1 < (t569.length : Int) then ((spec_l1Cur_pick.f s0_0 bt572.2.1 bt572.2.2 12).bind fun bt579 => (spec_l1Cur_stroll.l0 k (rd t569 bt572.1) (([rd t569 bt572.1] : List Int)) bt579.1 s0_0 bt579.2.1 bt579.2.2 a1_0 l1_1)) else (none)) else (none))))
/-! ### spec_Strolled: function 36 -/
def spec_Strolled.f (k : Nat) (l0 : List Int) (a1_0 : Int) (l1_1 : List Int) : Option (List Int):=(spec_l1Cur_stroll.f k l0 0 0 a1_0 l1_1).bind fun bt608 => (some bt608.1)
/-! ### impl_between: function 54 -/
def impl_between.f (a0 : Int) (a1 : Int) (a2 : Int) : Option (Bool):=if a0 ≥ a1 then (some (decide (a0 ≤ a2))) else (some false)

/-! ### impl_CmpCost: function 37 -/
def impl_CmpCost.l0 : Nat → Int → Int → Int → Int → List Int → Int → Int → Option (Int × Bool)
  | 0,_,_,_,_,_,_,_ => none
  | k + 1,x0,x1,x2,x3,x16,x17,x18 => if x18 < x17 then (if 0 ≤ x18 then (if x18 < (x16.length : Int) then ((impl_between.f (rd x16 x18) 0 1000000).bind fun t617 => (if t617 = true then (impl_CmpCost.l0 k x0 x1 x2 x3 x16 x17 (wrap64 (x18 + 1))) else (some (0,false)))) else (none)) else (none)) else ((impl_cmpCost.f (wrap64 (x0 - x2)) (wrap64 (x1 - x3))).bind fun t618 => (some (t618,true)))
def impl_CmpCost.f (k : Nat) (a0 : Int) (a1 : Int) (a2 : Int) (a3 : Int) : Option (Int × Bool):=(some (([a0,a1,a2,a3] : List Int) : List Int)).bind fun y613 => (impl_CmpCost.l0 k a0 a1 a2 a3 y613 (y613.length : Int) 0)
/-! ### laws_FnWays: function 9 -/
mutual
noncomputable def laws_FnWays.j0 : Nat → List Int → List Int → Bool → Option (Bool)
  | 0,_,_,_ => none
  | k + 1,x0,x1,x33 => if x33 = true then (some true) else ((spec_DrawShortestWay.f k x0).bind fun bt619 => ((spec_Strolled.f k x1 bt619.1 bt619.2.1).bind fun t626 => (if (t626.length : Int) = 0 then (some true) else (if 0 < (t626.length : Int) then (if 0 ≤ (wrap64 ((t626.length : Int) - 1)) then (if (wrap64 ((t626.length : Int) - 1)) < (t626.length : Int) then ((impl_ShortestWay.f bt619.1 bt619.2.1 (rd t626 0) (rd t626 (wrap64 ((t626.length : Int) - 1)))).bind fun bt631 => ((spec_ShortestWay.f k bt619.1 bt619.2.1 (rd t626 0) (rd t626 (wrap64 ((t626.length : Int) - 1)))).bind fun bt638 => (if (bt631.2.2.2 != bt638.2.2.2) = true then (some false) else ((impl_WayCost.f k bt619.1 bt619.2.1 t626).bind fun bt645 => (if bt645.2.2 = true then (laws_FnWays.j1 k (rd t626 0) (rd t626 (wrap64 ((t626.length : Int) - 1))) bt631.2.2.2 bt645.1 bt645.2.1 bt645.2.2 (!bt631.2.2.2) bt619.1 bt619.2.1 bt631.1 bt631.2.1 bt631.2.2.1) else (laws_FnWays.j1 k (rd t626 0) (rd t626 (wrap64 ((t626.length : Int) - 1))) bt631.2.2.2 bt645.1 bt645.2.1 bt645.2.2 false bt619.1 bt619.2.1 bt631.1 bt631.2.1 bt631.2.2.1)))))) else (none)) else (none)) else (none)))))
noncomputable def laws_FnWays.j1 : Nat → Int → Int → Bool → Int → Int → Bool → Bool → Int → List Int → List Int → Int → Int → Option (Bool)
  | 0,_,_,_,_,_,_,_,_,_,_,_,_ => none
  | k + 1,x9,x10,x12,x15,x16,x17,x83,x626000,x626001,x638000,x638001,x638002 => if x83 = true then (some false) else (if x12 = true then ((impl_WayCost.f k x626000 x626001 x638000).bind fun bt648 => (if bt648.2.2 = true then (if bt648.1 = x638001 then (if bt648.2.1 = x638002 then (if 0 < (x638000.length : Int) then (if (rd x638000 0) = x9 then (if 0 ≤ (wrap64 ((x638000.length : Int) - 1)) then (if (wrap64 ((x638000.length : Int) - 1)) < (x638000.length : Int) then (laws_FnWays.j2 k x9 x10 x15 x16 x17 bt648.1 bt648.2.1 ((rd x638000 (wrap64 ((x638000.length : Int) - 1))) != x10) x626000 x626001 x638000 x638001 x638002) else (none)) else (none)) else (laws_FnWays.j2 k x9 x10 x15 x16 x17 bt648.1 bt648.2.1 true x626000 x626001 x638000 x638001 x638002)) else (none)) else (laws_FnWays.j2 k x9 x10 x15 x16 x17 bt648.1 bt648.2.1 true x626000 x626001 x638000 x638001 x638002)) else (laws_FnWays.j2 k x9 x10 x15 x16 x17 bt648.1 bt648.2.1 true x626000 x626001 x638000 x638001 x638002)) else (laws_FnWays.j2 k x9 x10 x15 x16 x17 bt648.1 bt648.2.1 true x626000 x626001 x638000 x638001 x638002))) else (some true))
noncomputable def laws_FnWays.j2 : Nat → Int → Int → Int → Int → Bool → Int → Int → Bool → Int → List Int → List Int → Int → Int → Option (Bool)
  | 0,_,_,_,_,_,_,_,_,_,_,_,_,_ => none
  | k + 1,x9,x10,x15,x16,x17,x18,x19,x127,x626000,x626001,x638000,x638001,x638002 => if x127 = true then (some false) else ((impl_CmpCost.f k x18 x19 x15 x16).bind fun bt653 => (if x17 = true then (laws_FnWays.j3 k x9 x10 (decide (bt653.1 > 0)) x626000 x626001 x638000 x638001 x638002) else (laws_FnWays.j3 k x9 x10 false x626000 x626001 x638000 x638001 x638002)))
noncomputable def laws_FnWays.j3 : Nat → Int → Int → Bool → Int → List Int → List Int → Int → Int → Option (Bool)
  | 0,_,_,_,_,_,_,_,_ => none
  | k + 1,x9,x10,x140,x626000,x626001,x638000,x638001,x638002 => if x140 = true then (some false) else ((impl_PulledWay.f k x626000 x626001 x638000).bind fun bt655 => (if bt655.2 = true then (if (bt655.1.length : Int) = 0 then (laws_FnWays.j4 k bt655.1 true x626000 x626001) else (if (bt655.1.length : Int) > (x638000.length : Int) then (laws_FnWays.j4 k bt655.1 true x626000 x626001) else (if 0 < (bt655.1.length : Int) then (if (rd bt655.1 0) = x9 then (if 0 ≤ (wrap64 ((bt655.1.length : Int) - 1)) then (if (wrap64 ((bt655.1.length : Int) - 1)) < (bt655.1.length : Int) then (laws_FnWays.j4 k bt655.1 ((rd bt655.1 (wrap64 ((bt655.1.length : Int) - 1))) != x10) x626000 x626001) else (none)) else (none)) else (laws_FnWays.j4 k bt655.1 true x626000 x626001)) else (none)))) else (laws_FnWays.j4 k bt655.1 true x626000 x626001)))
noncomputable def laws_FnWays.j4 : Nat → List Int → Bool → Int → List Int → Option (Bool)
  | 0,_,_,_,_ => none
  | k + 1,x23,x179,x626000,x626001 => if x179 = true then (some false) else (laws_FnWays.l0 k x23 1 x626000 x626001)
noncomputable def laws_FnWays.l0 : Nat → List Int → Int → Int → List Int → Option (Bool)
  | 0,_,_,_,_ => none
  | k + 1,x23,x25,x626000,x626001 => if x25 < (x23.length : Int) then (if 0 ≤ (wrap64 (x25 - 1)) then (if (wrap64 (x25 - 1)) < (x23.length : Int) then (if 0 ≤ x25 then ((impl_Clear.f k x626000 x626001 (rd x23 (wrap64 (x25 - 1))) (rd x23 x25)).bind fun t663 => (if t663 = true then ((spec_Clear.f k x626000 x626001 (rd x23 x25) (rd x23 (wrap64 (x25 - 1)))).bind fun t666 => (if t666 = true then (laws_FnWays.l0 k x23 (wrap64 (x25 + 1)) x626000 x626001) else (some false))) else (some false))) else (none)) else (none)) else (none)) else (some true)
end
noncomputable def laws_FnWays.f (k : Nat) (l0 : List Int) (l1 : List Int) : Option (Bool):=if (l0.length : Int) > 1048576 then (laws_FnWays.j0 k l0 l1 true) else (laws_FnWays.j0 k l0 l1 (decide ((l1.length : Int) > 1048576)))
end Go.Proofs.Ytjcmlggdaajicaa.Pr
namespace Go.Proofs.Ytjcmlggdaajicaa.Pr
open Go.RowKit Go.Proofs.YtjcmlggdaajicaaW.PrintWords Go.Proofs.YtjcmlggdaajicaaW.PrintLast Go.Proofs.YtjcmlggdaajicaaW.PrintMore
attribute [local go_sem] max2_int min2_int max_two min_two max_three min_three max_four min_four
set_option linter.unusedVariables false
set_option linter.unusedSimpArgs false

set_option maxHeartbeats 8000000 in
set_option maxRecDepth 100000 in
theorem spec_Clear.calls (k : Nat) (a0_0 : Int) (z3 : Option Addr) (c0_1 : Nat) (z1 : List Int) (a1 : Int) (a2 : Int) (r : Bool) (w : World) (hr0_1 : Kd.C (Kd.int .i64) w z3 z1.length z1) (hc0_1 : z1.length ≤ c0_1) (h : spec_Clear.f k a0_0 z1 a1 a2 = some r) :
   Calls Try.prog 11 #[.agg #[.int .i64 a0_0,.slice z3 z1.length c0_1],.int .i64 a1,.int .i64 a2] w fun e w' => e = .returned (.bool r) ∧ Below w.heap.size w w':=by
  have r4:=Try.underlying27;have z7:=ak hr0_1;have z8:=ak hc0_1;clear hr0_1 hc0_1;have HB:=ak (Below.refl w.heap.size w);have H : ((spec_GoodCells.f k a0_0 z1).bind fun z9 => (if z9 = true then ((spec_l18Clear.f k a0_0 z1 a1 a2).bind fun z6 => (some z6)) else (some false))) = some r:=h;clear h;replace H:=Option.bind_eq_some_iff.mp H;obtain ⟨z9,A40,H⟩:=H;replace H : (if z9 = true then ((spec_l18Clear.f k a0_0 z1 a1 a2).bind fun z6 => (some z6)) else (some false)) = some r:=H;have A4:=ak A40;clear A40;by_cases c5 : z9 = true
  ·subst c5
   rw [if_pos rfl] at H;replace H:=Option.bind_eq_some_iff.mp H;obtain ⟨z6,A60,H⟩:=H;replace H : (some z6) = some r:=H;have A6:=ak A60;clear A60
   obtain rfl:=Option.some.inj H
   go_enter Try.func11,Try.ntmps11;go_wp2_with (first | ((with_reducible refine gate_dst (N:=3) rfl ?_);refine box_event ?hg (N:=3) ?hd (cs:=#[.int .i64 a0_0,.slice z3 z1.length c0_1]) (t:=27) ?hr ?_;(case hd => rfl);(case hg => rfl);(case hr => first | (go_simp;done) | (go_simp;rfl));intro z2 hg w7 hbox hb;have z0:=ak (hbox);have j0 : Aside0 (w.heap.size ≤ z2):=gz_;have j1 : Aside0 (w.heap.size ≤ z2):=gz_;replace HB:=bq_ hb;clear hb hbox hg;have r0:=b20 z0;have r1:=b21 z0;have r2:=bf_ z0 0;have r3:=bf_ z0 1) | ((with_reducible refine gate_callee (f:=28) rfl ?_);refine goesL_ (some 8) rfl rfl Try.func28 (by kernel_rfl) rfl #[.agg #[.int .i64 a0_0,.slice z3 z1.length c0_1]] rfl ls_ ?_;(with_reducible refine (spec_GoodCells.calls k a0_0 _ _ z1 true _ ?z4 ?z5 A4.out).mono ?_);(case z4 => exact cb_ z7.out);(case z5 => exact z8.out);rintro e w9 ⟨rfl,hb⟩;refine ⟨_,rfl,?_⟩;replace z0:=bb_ z0 hb;replace HB:=bq_ hb;(try clear hb);(try clear hb2);(try clear hk);(try clear hi);have j2:=b20 z0;have j3:=b21 z0;have j4:=bf_ z0 0;have j5:=bf_ z0 1) | (go_at_call 39;(with_reducible refine (spec_l18Clear.calls k a0_0 _ _ z1 a1 a2 z6 _ ?z4 ?z5 A6.out).mono ?_);(case z4 => exact cb_ z7.out);(case z5 => exact z8.out);rintro e w11 ⟨rfl,hb⟩;replace z0:=bb_ z0 hb;replace HB:=bq_ hb;(try clear hb);(try clear hb2);(try clear hk);(try clear hi)));go_ret;exact ⟨er_,hb_⟩
  ·replace c5:=Bool.eq_false_iff.mpr c5
   subst c5;rw [if_neg (show ¬ (false = true) by decide)] at H
   obtain rfl:=Option.some.inj H
   go_enter Try.func11,Try.ntmps11;go_wp2_with (first | ((with_reducible refine gate_dst (N:=3) rfl ?_);refine box_event ?hg (N:=3) ?hd (cs:=#[.int .i64 a0_0,.slice z3 z1.length c0_1]) (t:=27) ?hr ?_;(case hd => rfl);(case hg => rfl);(case hr => first | (go_simp;done) | (go_simp;rfl));intro z2 hg w12 hbox hb;have z0:=ak (hbox);have j0 : Aside0 (w.heap.size ≤ z2):=gz_;have j1 : Aside0 (w.heap.size ≤ z2):=gz_;replace HB:=bq_ hb;clear hb hbox hg;have j6:=b20 z0;have j7:=b21 z0;have j8:=bf_ z0 0;have j9:=bf_ z0 1) | ((with_reducible refine gate_callee (f:=28) rfl ?_);refine goesL_ (some 8) rfl rfl Try.func28 (by kernel_rfl) rfl #[.agg #[.int .i64 a0_0,.slice z3 z1.length c0_1]] rfl ls_ ?_;(with_reducible refine (spec_GoodCells.calls k a0_0 _ _ z1 false _ ?z4 ?z5 A4.out).mono ?_);(case z4 => exact cb_ z7.out);(case z5 => exact z8.out);rintro e w14 ⟨rfl,hb⟩;refine ⟨_,rfl,?_⟩;replace z0:=bb_ z0 hb;replace HB:=bq_ hb;(try clear hb);(try clear hb2);(try clear hk);(try clear hi)));go_ret;exact ⟨er_,hb_⟩

end Go.Proofs.Ytjcmlggdaajicaa.Pr
namespace Go.Proofs.Ytjcmlggdaajicaa.Pr
open Go.RowKit Go.Proofs.YtjcmlggdaajicaaW.PrintWords Go.Proofs.YtjcmlggdaajicaaW.PrintLast Go.Proofs.YtjcmlggdaajicaaW.PrintMore
attribute [local go_sem] max2_int min2_int max_two min_two max_three min_three max_four min_four
set_option linter.unusedVariables false
set_option linter.unusedSimpArgs false

set_option maxHeartbeats 8000000 in
set_option maxRecDepth 100000 in
theorem impl_sign.calls (a0 : Int) (r : Int) (w : World) (h : impl_sign.f a0 = some r) :
   Calls Try.prog 65 #[.int .i64 a0] w fun e w' => e = .returned (.int .i64 r) ∧ Drawn0 w w':=by
  have H : (if a0 < 0 then (some (-1)) else (if a0 > 0 then (some 1) else (some 0))) = some r:=h;clear h;by_cases c2 : a0 < 0
  ·rw [if_pos c2] at H
   have z0 : decide (a0 < 0) = true:=dt_ c2;clear c2
   obtain rfl:=Option.some.inj H
   go_enter Try.func65,Try.ntmps65;go_wp2;go_ret;exact ⟨es_,by repeat (first | exact Drawn0.refl _ | apply Drawn0.step)⟩
  ·rw [if_neg c2] at H
   have z0 : decide (a0 < 0) = false:=df_ c2;clear c2;by_cases c3 : a0 > 0
   ·rw [if_pos c3] at H
    have z1 : decide (0 < a0) = true:=dt_ c3;clear c3
    obtain rfl:=Option.some.inj H
    go_enter Try.func65,Try.ntmps65;go_wp2;go_ret;exact ⟨es_,by repeat (first | exact Drawn0.refl _ | apply Drawn0.step)⟩
   ·rw [if_neg c3] at H
    have z1 : decide (0 < a0) = false:=df_ c3;clear c3
    obtain rfl:=Option.some.inj H
    go_enter Try.func65,Try.ntmps65;go_wp2;go_ret;exact ⟨es_,by repeat (first | exact Drawn0.refl _ | apply Drawn0.step)⟩

set_option maxHeartbeats 8000000 in
set_option maxRecDepth 100000 in
theorem impl_cmpCost.calls (a0 : Int) (a1 : Int) (r : Int) (w : World) (h : impl_cmpCost.f a0 a1 = some r) :
   Calls Try.prog 51 #[.int .i64 a0,.int .i64 a1] w fun e w' => e = .returned (.int .i64 r) ∧ Drawn0 w w':=by
  have H : ((impl_sign.f a0).bind fun z2 => ((impl_sign.f a1).bind fun z0 => (if (wrap64 (z2 * z0)) ≥ 0 then ((impl_sign.f (wrap64 (a0 + a1))).bind fun z4 => (some z4)) else ((impl_sign.f a0).bind fun z3 => ((impl_sign.f (wrap64 ((wrap64 (a0 * a0)) - (wrap64 ((wrap64 (2 * a1)) * a1))))).bind fun z1 => (some (wrap64 (z3 * z1)))))))) = some r:=h;clear h;replace H:=Option.bind_eq_some_iff.mp H;obtain ⟨z2,A30,H⟩:=H;replace H : ((impl_sign.f a1).bind fun z0 => (if (wrap64 (z2 * z0)) ≥ 0 then ((impl_sign.f (wrap64 (a0 + a1))).bind fun z4 => (some z4)) else ((impl_sign.f a0).bind fun z3 => ((impl_sign.f (wrap64 ((wrap64 (a0 * a0)) - (wrap64 ((wrap64 (2 * a1)) * a1))))).bind fun z1 => (some (wrap64 (z3 * z1))))))) = some r:=H;have A3:=ak A30;clear A30;replace H:=Option.bind_eq_some_iff.mp H;obtain ⟨z0,A40,H⟩:=H;replace H : (if (wrap64 (z2 * z0)) ≥ 0 then ((impl_sign.f (wrap64 (a0 + a1))).bind fun z4 => (some z4)) else ((impl_sign.f a0).bind fun z3 => ((impl_sign.f (wrap64 ((wrap64 (a0 * a0)) - (wrap64 ((wrap64 (2 * a1)) * a1))))).bind fun z1 => (some (wrap64 (z3 * z1)))))) = some r:=H;have A4:=ak A40;clear A40;by_cases c5 : (wrap64 (z2 * z0)) ≥ 0
  ·rw [if_pos c5] at H
   have z5 : decide (0 ≤ (wrap64 (z2 * z0))) = true:=dt_ c5;clear c5;replace H:=Option.bind_eq_some_iff.mp H;obtain ⟨z4,A60,H⟩:=H;replace H : (some z4) = some r:=H;have A6:=ak A60;clear A60
   obtain rfl:=Option.some.inj H
   go_enter Try.func51,Try.ntmps51;go_wp2_with (first | ((with_reducible refine gate_callee (f:=65) rfl ?_);refine goesL_ (some 6) rfl rfl Try.func65 (by kernel_rfl) rfl #[.int .i64 a0] rfl ls_ ?_;(with_reducible refine (impl_sign.calls a0 z2 _ A3.out).mono ?_);rintro e w' ⟨rfl,⟨nd,rfl⟩⟩;refine ⟨_,rfl,?_⟩) | ((with_reducible refine gate_callee (f:=65) rfl ?_);refine goesL_ (some 8) rfl rfl Try.func65 (by kernel_rfl) rfl #[.int .i64 a1] rfl ls_ ?_;(with_reducible refine (impl_sign.calls a1 z0 _ A4.out).mono ?_);rintro e w' ⟨rfl,⟨nd,rfl⟩⟩;refine ⟨_,rfl,?_⟩) | ((with_reducible refine gate_callee (f:=65) rfl ?_);refine goesL_ (some 14) rfl rfl Try.func65 (by kernel_rfl) rfl #[.int .i64 (wrap64 (a0 + a1))] rfl ls_ ?_;(with_reducible refine (impl_sign.calls (wrap64 (a0 + a1)) z4 _ A6.out).mono ?_);rintro e w' ⟨rfl,⟨nd,rfl⟩⟩;refine ⟨_,rfl,?_⟩));go_ret;exact ⟨es_,by repeat (first | exact Drawn0.refl _ | apply Drawn0.step)⟩
  ·rw [if_neg c5] at H
   have z5 : decide (0 ≤ (wrap64 (z2 * z0))) = false:=df_ c5;clear c5;replace H:=Option.bind_eq_some_iff.mp H;obtain ⟨z3,A70,H⟩:=H;replace H : ((impl_sign.f (wrap64 ((wrap64 (a0 * a0)) - (wrap64 ((wrap64 (2 * a1)) * a1))))).bind fun z1 => (some (wrap64 (z3 * z1)))) = some r:=H;have A7:=ak A70;clear A70;replace H:=Option.bind_eq_some_iff.mp H;obtain ⟨z1,A80,H⟩:=H;replace H : (some (wrap64 (z3 * z1))) = some r:=H;have A8:=ak A80;clear A80
   obtain rfl:=Option.some.inj H
   go_enter Try.func51,Try.ntmps51;go_wp2_with (first | ((with_reducible refine gate_callee (f:=65) rfl ?_);refine goesL_ (some 6) rfl rfl Try.func65 (by kernel_rfl) rfl #[.int .i64 a0] rfl ls_ ?_;(with_reducible refine (impl_sign.calls a0 z2 _ A3.out).mono ?_);rintro e w' ⟨rfl,⟨nd,rfl⟩⟩;refine ⟨_,rfl,?_⟩) | ((with_reducible refine gate_callee (f:=65) rfl ?_);refine goesL_ (some 8) rfl rfl Try.func65 (by kernel_rfl) rfl #[.int .i64 a1] rfl ls_ ?_;(with_reducible refine (impl_sign.calls a1 z0 _ A4.out).mono ?_);rintro e w' ⟨rfl,⟨nd,rfl⟩⟩;refine ⟨_,rfl,?_⟩) | ((with_reducible refine gate_callee (f:=65) rfl ?_);refine goesL_ (some 16) rfl rfl Try.func65 (by kernel_rfl) rfl #[.int .i64 a0] rfl ls_ ?_;(with_reducible refine (impl_sign.calls a0 z3 _ A7.out).mono ?_);rintro e w' ⟨rfl,⟨nd,rfl⟩⟩;refine ⟨_,rfl,?_⟩) | ((with_reducible refine gate_callee (f:=65) rfl ?_);refine goesL_ (some 25) rfl rfl Try.func65 (by kernel_rfl) rfl #[.int .i64 (wrap64 ((wrap64 (a0 * a0)) - (wrap64 ((wrap64 (2 * a1)) * a1))))] rfl ls_ ?_;(with_reducible refine (impl_sign.calls (wrap64 ((wrap64 (a0 * a0)) - (wrap64 ((wrap64 (2 * a1)) * a1)))) z1 _ A8.out).mono ?_);rintro e w' ⟨rfl,⟨nd,rfl⟩⟩;refine ⟨_,rfl,?_⟩));go_ret;exact ⟨es_,by repeat (first | exact Drawn0.refl _ | apply Drawn0.step)⟩

set_option maxHeartbeats 8000000 in
set_option maxRecDepth 100000 in
theorem impl_Cells_next.calls (a0_0 : Int) (z3 : Option Addr) (c0_1 : Nat) (z2 : List Int) (a1 : Int) (a2 : Int) (a3 : Int) (r : Int) (w : World) (hr0_1 : Kd.C (Kd.int .i64) w z3 z2.length z2) (hc0_1 : z2.length ≤ c0_1) (h : impl_Cells_next.f a0_0 z2 a1 a2 a3 = some r) :
   Calls Try.prog 58 #[.agg #[.int .i64 a0_0,.slice z3 z2.length c0_1],.int .i64 a1,.int .i64 a2,.int .i64 a3] w fun e w' => e = .returned (.int .i64 r) ∧ Below w.heap.size w w':=by
  have m2:=Try.underlying27;have m0:=ak hr0_1;have m1:=ak hc0_1;clear hr0_1 hc0_1;have HB:=ak (Below.refl w.heap.size w);have H : (if a0_0 = 0 then (none) else (if (wrap64 ((Int.tmod a1 a0_0) + a2)) < 0 then (some (-1)) else (if (wrap64 ((Int.tmod a1 a0_0) + a2)) ≥ a0_0 then (some (-1)) else (if (wrap64 ((wrap64 (Int.tdiv a1 a0_0)) + a3)) < 0 then (some (-1)) else (if (wrap64 ((wrap64 (Int.tdiv a1 a0_0)) + a3)) ≥ (wrap64 ((z2.length : Int) / a0_0)) then (some (-1)) else (some (wrap64 ((wrap64 ((wrap64 ((wrap64 (Int.tdiv a1 a0_0)) + a3)) * a0_0)) + (wrap64 ((Int.tmod a1 a0_0) + a2)))))))))) = some r:=h;clear h;by_cases c5 : a0_0 = 0
  ·rw [if_pos c5] at H
   exact absurd H (by simp)
  ·rw [if_neg c5] at H
   have m3 : (a0_0 == 0) = false:=beq_eq_false_iff_ne.mpr c5;have m4 : (a0_0 != 0) = true:=bne_iff_ne.mpr c5;by_cases c6 : (wrap64 ((Int.tmod a1 a0_0) + a2)) < 0
   ·rw [if_pos c6] at H
    have r8 : decide ((wrap64 ((Int.tmod a1 a0_0) + a2)) < 0) = true:=dt_ c6;clear c6
    obtain rfl:=Option.some.inj H
    go_enter Try.func58,Try.ntmps58;go_wp2_with (first | ((with_reducible refine gate_dst (N:=4) rfl ?_);(try (refine gate_guard (by rfl) ?_;dsimp only));refine box_event ?hg (N:=4) ?hd (cs:=#[.int .i64 a0_0,.slice z3 z2.length c0_1]) (t:=27) ?hr ?_;(case hd => rfl);(case hg => rfl);(case hr => first | (go_simp;done) | (go_simp;rfl));intro z0 hg w7 hbox hb;have z1:=ak (hbox);have z4 : Aside0 (w.heap.size ≤ z0):=gz_;have z5 : Aside0 (w.heap.size ≤ z0):=gz_;replace HB:=bq_ hb;clear hb hbox hg;have r2:=b20 z1;have r3:=b21 z1;have r4:=bf_ z1 0;have r5:=bf_ z1 1));(repeat (go_quiet (first | ((with_reducible refine gate_dst (N:=4) rfl ?_);(try (refine gate_guard (by rfl) ?_;dsimp only));refine box_event ?hg (N:=4) ?hd (cs:=#[.int .i64 a0_0,.slice z3 z2.length c0_1]) (t:=27) ?hr ?_;(case hd => rfl);(case hg => rfl);(case hr => first | (go_simp;done) | (go_simp;rfl));intro z0 hg w7 hbox hb;have z1:=ak (hbox);have z4 : Aside0 (w.heap.size ≤ z0):=gz_;have z5 : Aside0 (w.heap.size ≤ z0):=gz_;replace HB:=bq_ hb;clear hb hbox hg;have r2:=b20 z1;have r3:=b21 z1;have r4:=bf_ z1 0;have r5:=bf_ z1 1));try go_wp2_with (first | ((with_reducible refine gate_dst (N:=4) rfl ?_);(try (refine gate_guard (by rfl) ?_;dsimp only));refine box_event ?hg (N:=4) ?hd (cs:=#[.int .i64 a0_0,.slice z3 z2.length c0_1]) (t:=27) ?hr ?_;(case hd => rfl);(case hg => rfl);(case hr => first | (go_simp;done) | (go_simp;rfl));intro z0 hg w7 hbox hb;have z1:=ak (hbox);have z4 : Aside0 (w.heap.size ≤ z0):=gz_;have z5 : Aside0 (w.heap.size ≤ z0):=gz_;replace HB:=bq_ hb;clear hb hbox hg;have r2:=b20 z1;have r3:=b21 z1;have r4:=bf_ z1 0;have r5:=bf_ z1 1))));go_ret;exact ⟨er_,hb_⟩
   ·rw [if_neg c6] at H
    have r8 : decide ((wrap64 ((Int.tmod a1 a0_0) + a2)) < 0) = false:=df_ c6;clear c6;by_cases c9 : (wrap64 ((Int.tmod a1 a0_0) + a2)) ≥ a0_0
    ·rw [if_pos c9] at H
     have r9 : decide (a0_0 ≤ (wrap64 ((Int.tmod a1 a0_0) + a2))) = true:=dt_ c9;clear c9
     obtain rfl:=Option.some.inj H
     go_enter Try.func58,Try.ntmps58;go_wp2_with (first | ((with_reducible refine gate_dst (N:=4) rfl ?_);(try (refine gate_guard (by rfl) ?_;dsimp only));refine box_event ?hg (N:=4) ?hd (cs:=#[.int .i64 a0_0,.slice z3 z2.length c0_1]) (t:=27) ?hr ?_;(case hd => rfl);(case hg => rfl);(case hr => first | (go_simp;done) | (go_simp;rfl));intro z0 hg w10 hbox hb;have z1:=ak (hbox);have z4 : Aside0 (w.heap.size ≤ z0):=gz_;have z5 : Aside0 (w.heap.size ≤ z0):=gz_;replace HB:=bq_ hb;clear hb hbox hg;have z6:=b20 z1;have z7:=b21 z1;have z8:=bf_ z1 0;have z9:=bf_ z1 1));(repeat (go_quiet (first | ((with_reducible refine gate_dst (N:=4) rfl ?_);(try (refine gate_guard (by rfl) ?_;dsimp only));refine box_event ?hg (N:=4) ?hd (cs:=#[.int .i64 a0_0,.slice z3 z2.length c0_1]) (t:=27) ?hr ?_;(case hd => rfl);(case hg => rfl);(case hr => first | (go_simp;done) | (go_simp;rfl));intro z0 hg w10 hbox hb;have z1:=ak (hbox);have z4 : Aside0 (w.heap.size ≤ z0):=gz_;have z5 : Aside0 (w.heap.size ≤ z0):=gz_;replace HB:=bq_ hb;clear hb hbox hg;have z6:=b20 z1;have z7:=b21 z1;have z8:=bf_ z1 0;have z9:=bf_ z1 1));try go_wp2_with (first | ((with_reducible refine gate_dst (N:=4) rfl ?_);(try (refine gate_guard (by rfl) ?_;dsimp only));refine box_event ?hg (N:=4) ?hd (cs:=#[.int .i64 a0_0,.slice z3 z2.length c0_1]) (t:=27) ?hr ?_;(case hd => rfl);(case hg => rfl);(case hr => first | (go_simp;done) | (go_simp;rfl));intro z0 hg w10 hbox hb;have z1:=ak (hbox);have z4 : Aside0 (w.heap.size ≤ z0):=gz_;have z5 : Aside0 (w.heap.size ≤ z0):=gz_;replace HB:=bq_ hb;clear hb hbox hg;have z6:=b20 z1;have z7:=b21 z1;have z8:=bf_ z1 0;have z9:=bf_ z1 1))));go_ret;exact ⟨er_,hb_⟩
    ·rw [if_neg c9] at H
     have r9 : decide (a0_0 ≤ (wrap64 ((Int.tmod a1 a0_0) + a2))) = false:=df_ c9;clear c9;by_cases c12 : (wrap64 ((wrap64 (Int.tdiv a1 a0_0)) + a3)) < 0
     ·rw [if_pos c12] at H
      have r6 : decide ((wrap64 ((wrap64 (Int.tdiv a1 a0_0)) + a3)) < 0) = true:=dt_ c12;clear c12
      obtain rfl:=Option.some.inj H
      go_enter Try.func58,Try.ntmps58;go_wp2_with (first | ((with_reducible refine gate_dst (N:=4) rfl ?_);(try (refine gate_guard (by rfl) ?_;dsimp only));refine box_event ?hg (N:=4) ?hd (cs:=#[.int .i64 a0_0,.slice z3 z2.length c0_1]) (t:=27) ?hr ?_;(case hd => rfl);(case hg => rfl);(case hr => first | (go_simp;done) | (go_simp;rfl));intro z0 hg w13 hbox hb;have z1:=ak (hbox);have z4 : Aside0 (w.heap.size ≤ z0):=gz_;have z5 : Aside0 (w.heap.size ≤ z0):=gz_;replace HB:=bq_ hb;clear hb hbox hg;have j0:=b20 z1;have j1:=b21 z1;have j2:=bf_ z1 0;have j3:=bf_ z1 1));(repeat (go_quiet (first | ((with_reducible refine gate_dst (N:=4) rfl ?_);(try (refine gate_guard (by rfl) ?_;dsimp only));refine box_event ?hg (N:=4) ?hd (cs:=#[.int .i64 a0_0,.slice z3 z2.length c0_1]) (t:=27) ?hr ?_;(case hd => rfl);(case hg => rfl);(case hr => first | (go_simp;done) | (go_simp;rfl));intro z0 hg w13 hbox hb;have z1:=ak (hbox);have z4 : Aside0 (w.heap.size ≤ z0):=gz_;have z5 : Aside0 (w.heap.size ≤ z0):=gz_;replace HB:=bq_ hb;clear hb hbox hg;have j0:=b20 z1;have j1:=b21 z1;have j2:=bf_ z1 0;have j3:=bf_ z1 1));try go_wp2_with (first | ((with_reducible refine gate_dst (N:=4) rfl ?_);(try (refine gate_guard (by rfl) ?_;dsimp only));refine box_event ?hg (N:=4) ?hd (cs:=#[.int .i64 a0_0,.slice z3 z2.length c0_1]) (t:=27) ?hr ?_;(case hd => rfl);(case hg => rfl);(case hr => first | (go_simp;done) | (go_simp;rfl));intro z0 hg w13 hbox hb;have z1:=ak (hbox);have z4 : Aside0 (w.heap.size ≤ z0):=gz_;have z5 : Aside0 (w.heap.size ≤ z0):=gz_;replace HB:=bq_ hb;clear hb hbox hg;have j0:=b20 z1;have j1:=b21 z1;have j2:=bf_ z1 0;have j3:=bf_ z1 1))));go_ret;exact ⟨er_,hb_⟩
     ·rw [if_neg c12] at H
      have r6 : decide ((wrap64 ((wrap64 (Int.tdiv a1 a0_0)) + a3)) < 0) = false:=df_ c12;clear c12;by_cases c15 : (wrap64 ((wrap64 (Int.tdiv a1 a0_0)) + a3)) ≥ (wrap64 ((z2.length : Int) / a0_0))
      ·rw [if_pos c15] at H
       have r7 : decide ((wrap64 ((z2.length : Int) / a0_0)) ≤ (wrap64 ((wrap64 (Int.tdiv a1 a0_0)) + a3))) = true:=dt_ c15;clear c15
       obtain rfl:=Option.some.inj H
       go_enter Try.func58,Try.ntmps58;go_wp2_with (first | ((with_reducible refine gate_dst (N:=4) rfl ?_);(try (refine gate_guard (by rfl) ?_;dsimp only));refine box_event ?hg (N:=4) ?hd (cs:=#[.int .i64 a0_0,.slice z3 z2.length c0_1]) (t:=27) ?hr ?_;(case hd => rfl);(case hg => rfl);(case hr => first | (go_simp;done) | (go_simp;rfl));intro z0 hg w16 hbox hb;have z1:=ak (hbox);have z4 : Aside0 (w.heap.size ≤ z0):=gz_;have z5 : Aside0 (w.heap.size ≤ z0):=gz_;replace HB:=bq_ hb;clear hb hbox hg;have j4:=b20 z1;have j5:=b21 z1;have j6:=bf_ z1 0;have j7:=bf_ z1 1));(repeat (go_quiet (first | ((with_reducible refine gate_dst (N:=4) rfl ?_);(try (refine gate_guard (by rfl) ?_;dsimp only));refine box_event ?hg (N:=4) ?hd (cs:=#[.int .i64 a0_0,.slice z3 z2.length c0_1]) (t:=27) ?hr ?_;(case hd => rfl);(case hg => rfl);(case hr => first | (go_simp;done) | (go_simp;rfl));intro z0 hg w16 hbox hb;have z1:=ak (hbox);have z4 : Aside0 (w.heap.size ≤ z0):=gz_;have z5 : Aside0 (w.heap.size ≤ z0):=gz_;replace HB:=bq_ hb;clear hb hbox hg;have j4:=b20 z1;have j5:=b21 z1;have j6:=bf_ z1 0;have j7:=bf_ z1 1));try go_wp2_with (first | ((with_reducible refine gate_dst (N:=4) rfl ?_);(try (refine gate_guard (by rfl) ?_;dsimp only));refine box_event ?hg (N:=4) ?hd (cs:=#[.int .i64 a0_0,.slice z3 z2.length c0_1]) (t:=27) ?hr ?_;(case hd => rfl);(case hg => rfl);(case hr => first | (go_simp;done) | (go_simp;rfl));intro z0 hg w16 hbox hb;have z1:=ak (hbox);have z4 : Aside0 (w.heap.size ≤ z0):=gz_;have z5 : Aside0 (w.heap.size ≤ z0):=gz_;replace HB:=bq_ hb;clear hb hbox hg;have j4:=b20 z1;have j5:=b21 z1;have j6:=bf_ z1 0;have j7:=bf_ z1 1))));go_ret;exact ⟨er_,hb_⟩
      ·rw [if_neg c15] at H
       have r7 : decide ((wrap64 ((z2.length : Int) / a0_0)) ≤ (wrap64 ((wrap64 (Int.tdiv a1 a0_0)) + a3))) = false:=df_ c15;clear c15
       obtain rfl:=Option.some.inj H
       go_enter Try.func58,Try.ntmps58;go_wp2_with (first | ((with_reducible refine gate_dst (N:=4) rfl ?_);(try (refine gate_guard (by rfl) ?_;dsimp only));refine box_event ?hg (N:=4) ?hd (cs:=#[.int .i64 a0_0,.slice z3 z2.length c0_1]) (t:=27) ?hr ?_;(case hd => rfl);(case hg => rfl);(case hr => first | (go_simp;done) | (go_simp;rfl));intro z0 hg w18 hbox hb;have z1:=ak (hbox);have z4 : Aside0 (w.heap.size ≤ z0):=gz_;have z5 : Aside0 (w.heap.size ≤ z0):=gz_;replace HB:=bq_ hb;clear hb hbox hg;have j8:=b20 z1;have j9:=b21 z1;have r0:=bf_ z1 0;have r1:=bf_ z1 1));(repeat (go_quiet (first | ((with_reducible refine gate_dst (N:=4) rfl ?_);(try (refine gate_guard (by rfl) ?_;dsimp only));refine box_event ?hg (N:=4) ?hd (cs:=#[.int .i64 a0_0,.slice z3 z2.length c0_1]) (t:=27) ?hr ?_;(case hd => rfl);(case hg => rfl);(case hr => first | (go_simp;done) | (go_simp;rfl));intro z0 hg w18 hbox hb;have z1:=ak (hbox);have z4 : Aside0 (w.heap.size ≤ z0):=gz_;have z5 : Aside0 (w.heap.size ≤ z0):=gz_;replace HB:=bq_ hb;clear hb hbox hg;have j8:=b20 z1;have j9:=b21 z1;have r0:=bf_ z1 0;have r1:=bf_ z1 1));try go_wp2_with (first | ((with_reducible refine gate_dst (N:=4) rfl ?_);(try (refine gate_guard (by rfl) ?_;dsimp only));refine box_event ?hg (N:=4) ?hd (cs:=#[.int .i64 a0_0,.slice z3 z2.length c0_1]) (t:=27) ?hr ?_;(case hd => rfl);(case hg => rfl);(case hr => first | (go_simp;done) | (go_simp;rfl));intro z0 hg w18 hbox hb;have z1:=ak (hbox);have z4 : Aside0 (w.heap.size ≤ z0):=gz_;have z5 : Aside0 (w.heap.size ≤ z0):=gz_;replace HB:=bq_ hb;clear hb hbox hg;have j8:=b20 z1;have j9:=b21 z1;have r0:=bf_ z1 0;have r1:=bf_ z1 1))));go_ret;exact ⟨er_,hb_⟩

end Go.Proofs.Ytjcmlggdaajicaa.Pr
