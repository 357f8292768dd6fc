-- Joined and pruned by wip/tools/prune.py out of this session's own texts (PureBase, PureInts, PureCells, PureGrid, PureStep, PureDij, PureNb, HdShort, Prd3, Pr22, PureCmp, PureAr, Mp, MpEv, MpRange)
import Derived.Test.YtjcmlggdaajicaaZsw7
import Derived.MapKept
import Derived.Laws.StructEq
import Derived.Maps.RangeRun
/-
Own text: what many of the pure proofs use: 'for all from i on',counters,'between',the copy and the comparison of slices of bytes.
-/
namespace Go.Proofs.Ytjcmlggdaajicaa.Pure
open Go.RowKit Go.Proofs.YtjcmlggdaajicaaW.PrintWords Go.Proofs.Ytjcmlggdaajicaa.EvKit

def From (n i : Nat) (C : Nat → Prop) : Prop:=∀ j,i ≤ j → j < n → C j
theorem From.end_ {n i : Nat} {C : Nat → Prop} (h : n ≤ i) : From n i C:=fun j h1 h2 => by omega
theorem From.step {n i : Nat} {C : Nat → Prop} (h : i < n) : From n i C ↔ C i ∧ From n (i + 1) C:=by
  constructor
  · exact fun a => ⟨a i (Nat.le_refl i) h,fun j h1 h2 => a j (by omega) h2⟩
  · rintro ⟨a,b⟩ j h1 h2
    by_cases e : j = i
    · exact e ▸ a
    · exact b j (by omega) h2
/-- One of those from i on, below n. -/
def Some_ (n i : Nat) (C : Nat → Prop) : Prop:=∃ j,i ≤ j ∧ j < n ∧ C j
theorem Some_.end_ {n i : Nat} {C : Nat → Prop} (h : n ≤ i) : ¬ Some_ n i C:=by
  rintro ⟨j,h1,h2,_⟩
  omega
theorem Some_.step {n i : Nat} {C : Nat → Prop} (h : i < n) : Some_ n i C ↔ C i ∨ Some_ n (i + 1) C:=by
  constructor
  · rintro ⟨j,h1,h2,h3⟩
    by_cases e : j = i
    · exact Or.inl (e ▸ h3)
    · exact Or.inr ⟨j,by omega,h2,h3⟩
  · rintro (a | ⟨j,h1,h2,h3⟩)
    · exact ⟨i,Nat.le_refl i,h,a⟩
    · exact ⟨j,by omega,h2,h3⟩
theorem succ_w {i : Nat} (h : i < 35184372088833) : wrap64 ((i : Int) + 1) = ((i + 1 : Nat) : Int):=by rw [wrap64_id (by omega) (by omega)];omega
end Go.Proofs.Ytjcmlggdaajicaa.Pure
/-
Own text: what the laws' own helpers on []int come to: a copy,a comparison.
-/
namespace Go.Proofs.Ytjcmlggdaajicaa.Pure
open Go.RowKit Go.Proofs.YtjcmlggdaajicaaW.PrintWords Go.Proofs.YtjcmlggdaajicaaW.PrintLast Go.Proofs.Ytjcmlggdaajicaa.Pr Go.Proofs.Ytjcmlggdaajicaa.EvKit

theorem toIntS_l0 (l : List Int) (hl : l.length ≤ 35184372088832) (d : Nat) : ∀ i : Nat,i + d = l.length →
    Ev (fun k => laws_toIntS.l0 k l ((l.take i).map id ++ List.replicate (l.length - i) 0) i) (l.map id):=by
  induction d with
  | zero =>
    intro i hi;apply Ev.succ;simp only [laws_toIntS.l0,show ¬ ((i : Int) < (l.length : Int)) by omega,if_false];(have : i = l.length:=by omega);subst this;exact Ev.some (copy_done _ _ _)
  | succ d ih =>
    intro i hi;apply Ev.succ;(have hlen : ((l.take i).map id ++ List.replicate (l.length - i) (0 : Int)).length = l.length:=by simp;omega);simp only [laws_toIntS.l0,hlen,show ((i : Int) < (l.length : Int)) by omega,show (0 : Int) ≤ (i : Int) by omega,if_true,Int.toNat_natCast];rw [show wrap64 ((i : Int) + 1) = ((i + 1 : Nat) : Int) by rw [wrap64_id (by omega) (by omega)];omega];have:=copy_step id (0 : Int) 0 l i (by omega);have e : rd l (i : Int) = id (l.getD i 0):=rfl;rw [e,this];exact ih (i + 1) (by omega)
theorem toIntS_ev (l : List Int) (hl : l.length ≤ 35184372088832) : Ev (fun k => laws_toIntS.f k l) l:=by
  simp only [laws_toIntS.f,Int.toNat_natCast,show (0 : Int) ≤ (l.length : Int) by omega,hl,if_true];have:=toIntS_l0 l hl l.length 0 (by omega)
  simpa using this

theorem eqIntS_l0 (l : List Int) (hl : l.length ≤ 35184372088832) (d : Nat) : ∀ i : Nat,i + d = l.length → Ev (fun k => laws_eqIntS.l0 k l l i) true:=by
  induction d with
  | zero =>
    intro i hi;apply Ev.succ;simp only [laws_eqIntS.l0,show ¬ ((i : Int) < (l.length : Int)) by omega,if_false];exact Ev.some rfl
  | succ d ih =>
    intro i hi;apply Ev.succ;simp only [laws_eqIntS.l0,show ((i : Int) < (l.length : Int)) by omega,show (0 : Int) ≤ (i : Int) by omega,if_true];rw [show wrap64 ((i : Int) + 1) = ((i + 1 : Nat) : Int) by rw [wrap64_id (by omega) (by omega)];omega];exact ih (i + 1) (by omega)
theorem eqIntS_ev (l : List Int) (hl : l.length ≤ 35184372088832) : Ev (fun k => laws_eqIntS.f k l l) true:=by
  simp only [laws_eqIntS.f,if_true];exact eqIntS_l0 l hl l.length 0 (by omega)

end Go.Proofs.Ytjcmlggdaajicaa.Pure
/-
Own text: cells: the two checks agree;what good cells are;what is free;the laws' helpers on cells.
-/
namespace Go.Proofs.Ytjcmlggdaajicaa.Pure
open Go.RowKit Go.Proofs.YtjcmlggdaajicaaW.PrintWords Go.Proofs.YtjcmlggdaajicaaW.PrintLast Go.Proofs.Ytjcmlggdaajicaa.Pr Go.Proofs.Ytjcmlggdaajicaa.EvKit
open Classical

def Sq (w : Int) (n : Nat) : Prop:=1 ≤ w ∧ w ≤ 16 ∧ (n : Int) % w = 0 ∧ w ≤ n ∧ (n : Int) / w ≤ 16
/-- Good cells. -/
def Cl (w : Int) (c : List Int) : Prop:=Sq w c.length ∧ From c.length 0 fun j => 0 ≤ c.getD j 0 ∧ c.getD j 0 ≤ 2

theorem sq_impl (w : Int) (n : Nat) (hn : n ≤ 35184372088832) : impl_squared.f w n = some (decide (Sq w n)):=by
  unfold impl_squared.f Sq;by_cases h1 : w ≥ 1
  · by_cases h2 : w ≤ 16
    · have hm : (n : Int).tmod w = (n : Int) % w:=Int.tmod_eq_emod_of_nonneg (by omega)
      have hd : (n : Int).tdiv w = (n : Int) / w:=Int.tdiv_eq_ediv_of_nonneg (by omega);rw [if_pos h1,if_pos h2,if_neg (by omega),hm,hd];by_cases h3 : (n : Int) % w = 0
      · have hle : (n : Int) / w ≤ n:=Int.ediv_le_self _ (by omega)
        have h0 : 0 ≤ (n : Int) / w:=Int.ediv_nonneg (by omega) (by omega);have key : (n : Int) / w ≥ 1 ↔ w ≤ n:=(Int.le_ediv_iff_mul_le (by omega)).trans (by rw [Int.one_mul]);rw [if_pos h3,wrap64_id (by omega) (by omega)];by_cases h4 : (n : Int) / w ≥ 1
        · have h5 : w ≤ n:=key.1 h4
          rw [if_pos h4]
          simp [h1,h2,h3,h5]
        · have h5 : ¬ w ≤ n:=fun h => h4 (key.2 h)
          rw [if_neg h4]
          simp [h5]
      · rw [if_neg h3]
        simp [h3]
    · rw [if_pos h1,if_neg h2]
      simp [h2]
  · rw [if_neg h1]
    simp [show ¬ 1 ≤ w from h1]
theorem sq_spec (w : Int) (n : Nat) (hn : n ≤ 35184372088832) : spec_l12Sized.f w n = some (decide (Sq w n)):=by
  unfold spec_l12Sized.f Sq;by_cases h1 : w ≥ 1
  · by_cases h2 : w ≤ 16
    · have hm : (n : Int).tmod w = (n : Int) % w:=Int.tmod_eq_emod_of_nonneg (by omega)
      have hd : (n : Int).tdiv w = (n : Int) / w:=Int.tdiv_eq_ediv_of_nonneg (by omega);have hle : (n : Int) / w ≤ n:=Int.ediv_le_self _ (by omega);have h0 : 0 ≤ (n : Int) / w:=Int.ediv_nonneg (by omega) (by omega);rw [if_pos h1,if_pos h2,hm,hd,if_neg (show ¬ w = 0 by omega),wrap64_id (by omega) (by omega)];by_cases h4 : (n : Int) ≥ w
      · rw [if_pos h4]
        by_cases h3 : (n : Int) % w = 0
        · rw [if_pos h3]
          simp [h1,h2,h3,show w ≤ (n : Int) from h4]
        · rw [if_neg h3]
          simp [h3]
      · rw [if_neg h4]
        simp [show ¬ w ≤ (n : Int) from h4]
    · rw [if_pos h1,if_neg h2]
      simp [h2]
  · rw [if_neg h1]
    simp [show ¬ 1 ≤ w from h1]

theorem cells_l0 (c : List Int) (hn : c.length ≤ 35184372088832) (d : Nat) : ∀ i : Nat,i + d = c.length →
    Ev (fun k => impl_GoodCells.l0 k c (c.length : Int) i) (decide (From c.length i fun j => 0 ≤ c.getD j 0 ∧ c.getD j 0 ≤ 2)) ∧ Ev (fun k => spec_GoodCells.l0 k c (c.length : Int) i) (decide (From c.length i fun j => 0 ≤ c.getD j 0 ∧ c.getD j 0 ≤ 2)):=by
  induction d with
  | zero =>
    intro i hi
    have e : decide (From c.length i fun j => 0 ≤ c.getD j 0 ∧ c.getD j 0 ≤ 2) = true:=by
      rw [decide_eq_true_eq];exact From.end_ (by omega)
    rw [e];refine ⟨Ev.succ ?_,Ev.succ ?_⟩
    · simp only [impl_GoodCells.l0]
      exact Ev.neg (by omega) (Ev.some rfl)
    · simp only [spec_GoodCells.l0]
      exact Ev.neg (by omega) (Ev.some rfl)
  | succ d ih =>
    intro i hi;obtain ⟨a,b⟩:=ih (i + 1) (by omega);have step:=From.step (n:=c.length) (i:=i) (C:=fun j => 0 ≤ c.getD j 0 ∧ c.getD j 0 ≤ 2) (by omega);have e : rd c (i : Int) = c.getD i 0:=rfl;by_cases h : 0 ≤ c.getD i 0 ∧ c.getD i 0 ≤ 2
    · have e2 : decide (From c.length i fun j => 0 ≤ c.getD j 0 ∧ c.getD j 0 ≤ 2) = decide (From c.length (i + 1) fun j => 0 ≤ c.getD j 0 ∧ c.getD j 0 ≤ 2):=by
        rw [decide_eq_decide];exact ⟨fun x => (step.1 x).2,fun x => step.2 ⟨h,x⟩⟩
      rw [e2];refine ⟨Ev.succ ?_,Ev.succ ?_⟩
      · simp only [impl_GoodCells.l0,e,succ_w (show i < 35184372088833 by omega)]
        exact Ev.pos (by omega) (Ev.pos (by omega) (Ev.pos (by omega) (Ev.neg (by omega) (Ev.neg (by omega) a))))
      · simp only [spec_GoodCells.l0,e,succ_w (show i < 35184372088833 by omega)]
        exact Ev.pos (by omega) (Ev.pos (by omega) (Ev.pos (by omega) (Ev.neg (by omega) (Ev.neg (by omega) b))))
    · have e2 : decide (From c.length i fun j => 0 ≤ c.getD j 0 ∧ c.getD j 0 ≤ 2) = false:=by
        rw [decide_eq_false_iff_not];(exact fun x => h (step.1 x).1)
      rw [e2];refine ⟨Ev.succ ?_,Ev.succ ?_⟩
      · simp only [impl_GoodCells.l0,e]
        exact Ev.pos (by omega) (Ev.pos (by omega) (Ev.pos (by omega) (Ev.ite (fun _ => Ev.some rfl) (fun _ => Ev.pos (by omega) (Ev.some rfl)))))
      · simp only [spec_GoodCells.l0,e]
        exact Ev.pos (by omega) (Ev.pos (by omega) (Ev.pos (by omega) (Ev.ite (fun _ => Ev.some rfl) (fun _ => Ev.pos (by omega) (Ev.some rfl)))))
theorem goodCells_impl (w : Int) (c : List Int) (hn : c.length ≤ 35184372088832) : Ev (fun k => impl_GoodCells.f k w c) (decide (Cl w c)):=by
  simp only [impl_GoodCells.f];refine Ev.bnd0 (sq_impl w c.length hn) (Ev.ite (fun h => Ev.eq (cells_l0 c hn c.length 0 (by omega)).1 ?_) (fun h => Ev.some ?_))
  · rw [decide_eq_decide]
    exact ⟨fun x => ⟨by simpa using h,x⟩,fun x => x.2⟩
  · symm
    rw [decide_eq_false_iff_not];(exact fun x => h (by simpa using x.1))
theorem goodCells_spec (w : Int) (c : List Int) (hn : c.length ≤ 35184372088832) : Ev (fun k => spec_GoodCells.f k w c) (decide (Cl w c)):=by
  simp only [spec_GoodCells.f];refine Ev.bnd0 (sq_spec w c.length hn) (Ev.ite (fun h => Ev.eq (cells_l0 c hn c.length 0 (by omega)).2 ?_) (fun h => Ev.some ?_))
  · rw [decide_eq_decide]
    exact ⟨fun x => ⟨by simpa using h,x⟩,fun x => x.2⟩
  · symm
    rw [decide_eq_false_iff_not];(exact fun x => h (by simpa using x.1))

/-- The number of a free cell. -/
def Fr (c : List Int) (a : Int) : Prop:=0 ≤ a ∧ a < c.length ∧ c.getD a.toNat 0 = 0
theorem free_impl (w : Int) (c : List Int) (a : Int) : impl_Cells_free.f w c a = some (decide (Fr c a)):=by
  unfold impl_Cells_free.f;have e : rd c a = c.getD a.toNat 0:=rfl;by_cases h1 : a ≥ 0
  · by_cases h2 : a < (c.length : Int)
    · rw [if_pos h1,if_pos h2,if_pos h1,e]
      congr 1
      by_cases h3 : c.getD a.toNat 0 = 0
      · rw [decide_eq_true (p:=Fr c a) (And.intro h1 (And.intro h2 h3)),h3]
        rfl
      · rw [decide_eq_false (p:=Fr c a) (fun x => h3 x.2.2)]
        simpa using h3
    · rw [if_pos h1,if_neg h2,decide_eq_false (p:=Fr c a) (fun x => h2 x.2.1)]
  · rw [if_neg h1,decide_eq_false (p:=Fr c a) (fun x => h1 x.1)]
theorem free_spec (w : Int) (c : List Int) (a : Int) : spec_l12Free.f w c a = some (decide (Fr c a)):=free_impl w c a

/-! ### the laws' helpers -/
theorem toCells_ev (w : Int) (c : List Int) (hl : c.length ≤ 1048576) : Ev (fun k => laws_toCells.f k w c) (w,c):=by
  simp only [laws_toCells.f];exact Ev.bnd (toIntS_ev c (by omega)) (Ev.some rfl)
theorem eqCells_ev (w : Int) (c : List Int) (hl : c.length ≤ 1048576) : Ev (fun k => laws_eqCells.f k w c w c) true:=by
  simp only [laws_eqCells.f];exact Ev.pos trivial (Ev.bnd (eqIntS_ev c (by omega)) (Ev.pos rfl (Ev.some rfl)))
theorem szCells_eq (w : Int) (c : List Int) (a : Int) (hl : c.length ≤ 9223372036854775807) (h0 : 0 ≤ a) (h1 : a ≤ 1048576) :
    ∃ r,laws_szCells.f w c a = some r ∧ (¬ r < 0 → (c.length : Int) ≤ a ∧ r ≤ a):=by
  simp only [laws_szCells.f,laws_szIntS.f];rw [wrap64_id (x:=a - (c.length : Int)) (by omega) (by omega)];by_cases h : a - (c.length : Int) < 0
  · exact ⟨-1,by simp [h],by omega⟩
  · exact ⟨a - (c.length : Int),by simp only [h,if_false,Option.bind_some],by omega⟩
end Go.Proofs.Ytjcmlggdaajicaa.Pure
/-
Own text: where a cell lies: its column and its row;the cell beside it.
-/
namespace Go.Proofs.Ytjcmlggdaajicaa.Pure
open Go.RowKit Go.Proofs.YtjcmlggdaajicaaW.PrintWords Go.Proofs.YtjcmlggdaajicaaW.PrintLast Go.Proofs.Ytjcmlggdaajicaa.Pr Go.Proofs.Ytjcmlggdaajicaa.EvKit
open Classical

def X_ (w a : Int) : Int:=a % w
def Y_ (w a : Int) : Int:=a / w
/-- How many rows. -/
def H_ (w : Int) (c : List Int) : Int:=(c.length : Int) / w

section
variable {w : Int} {c : List Int}
theorem Cl.w1 (h : Cl w c) : 1 ≤ w:=h.1.1
theorem Cl.w16 (h : Cl w c) : w ≤ 16:=h.1.2.1
theorem Cl.h16 (h : Cl w c) : H_ w c ≤ 16:=h.1.2.2.2.2
theorem Cl.wh (h : Cl w c) : H_ w c * w = c.length:=by
  have h1:=Int.mul_ediv_add_emod (c.length : Int) w;rw [h.1.2.2.1,Int.add_zero,Int.mul_comm] at h1;exact h1
theorem Cl.h1 (h : Cl w c) : 1 ≤ H_ w c:=(Int.le_ediv_iff_mul_le (by have:=h.w1;omega)).2 (by rw [Int.one_mul];exact h.1.2.2.2.1)
theorem mul_le16 {x y : Int} (hx : 0 ≤ x) (hx2 : x ≤ 16) (hy : 0 ≤ y) (hy2 : y ≤ 16) : x * y ≤ 256 ∧ 0 ≤ x * y:=by
  have h1:=Int.mul_le_mul hx2 hy2 hy (by omega : (0 : Int) ≤ 16);exact ⟨by omega,Int.mul_nonneg hx hy⟩
theorem Cl.n256 (h : Cl w c) : c.length ≤ 256:=by
  have h1:=h.wh;have h2:=mul_le16 (by have:=h.h1;omega) h.h16 (by have:=h.w1;omega) h.w16
  omega
theorem XY (w a : Int) : Y_ w a * w + X_ w a = a:=by
  have:=Int.mul_ediv_add_emod a w;rw [Int.mul_comm] at this;exact this
theorem X_range (h : Cl w c) (a : Int) : 0 ≤ X_ w a ∧ X_ w a < w:=⟨Int.emod_nonneg _ (by have:=h.w1;omega),Int.emod_lt_of_pos _ (by have:=h.w1;omega)⟩
theorem Y_range (h : Cl w c) {a : Int} (h0 : 0 ≤ a) (h1 : a < c.length) : 0 ≤ Y_ w a ∧ Y_ w a < H_ w c:=by
  refine ⟨Int.ediv_nonneg h0 (by have:=h.w1;omega),Int.ediv_lt_of_lt_mul (by have:=h.w1;omega) ?_⟩;rw [h.wh];exact h1
theorem cell_in (h : Cl w c) {x y : Int} (hx : 0 ≤ x) (hx2 : x < w) (hy : 0 ≤ y) (hy2 : y < H_ w c) : 0 ≤ y * w + x ∧ y * w + x < c.length:=by
  have h1:=Int.mul_nonneg hy (show 0 ≤ w by omega);have h2:=Int.mul_le_mul_of_nonneg_right (show y ≤ H_ w c - 1 by omega) (show 0 ≤ w by omega);have h3:=h.wh;rw [Int.sub_mul,Int.one_mul] at h2
  omega
theorem X_cell {x : Int} (hx : 0 ≤ x) (hx2 : x < w) (y : Int) : X_ w (y * w + x) = x:=by
  unfold X_;rw [Int.add_comm,Int.add_mul_emod_self_right];exact Int.emod_eq_of_lt hx hx2
theorem Y_cell {x : Int} (hx : 0 ≤ x) (hx2 : x < w) (y : Int) : Y_ w (y * w + x) = y:=by
  have h1:=XY w (y * w + x);rw [X_cell hx hx2] at h1;(have h2 : Y_ w (y * w + x) * w = y * w:=by omega);exact Int.eq_of_mul_eq_mul_right (by omega) h2
theorem tmod_X {a : Int} (h : 0 ≤ a) : a.tmod w = X_ w a:=Int.tmod_eq_emod_of_nonneg h
theorem tdiv_Y {a : Int} (h : 0 ≤ a) : a.tdiv w = Y_ w a:=Int.tdiv_eq_ediv_of_nonneg h

/-- The cell beside one, -1 beyond the edge. -/
noncomputable def Nx (w : Int) (c : List Int) (a dx dy : Int) : Int:=
  if 0 ≤ X_ w a + dx ∧ X_ w a + dx < w ∧ 0 ≤ Y_ w a + dy ∧ Y_ w a + dy < H_ w c then (Y_ w a + dy) * w + (X_ w a + dx) else -1
theorem next_eq (h : Cl w c) {a dx dy : Int} (h0 : 0 ≤ a) (h1 : a < c.length) (hx : -100 ≤ dx ∧ dx ≤ 100) (hy : -100 ≤ dy ∧ dy ≤ 100) : impl_Cells_next.f w c a dx dy = some (Nx w c a dx dy):=by
  have hX:=X_range h a;have hY:=Y_range h h0 h1;have hw:=h.w1;have hw2:=h.w16;have hH:=h.h16;unfold impl_Cells_next.f;rw [if_neg (by omega),tmod_X h0,tdiv_Y h0,show (c.length : Int) / w = H_ w c from rfl];rw [wrap64_id (x:=Y_ w a) (by omega) (by omega),wrap64_id (x:=H_ w c) (by omega) (by omega),wrap64_id (x:=X_ w a + dx) (by omega) (by omega),wrap64_id (x:=Y_ w a + dy) (by omega) (by omega)];by_cases c1 : X_ w a + dx < 0
  · rw [if_pos c1]
    unfold Nx;rw [if_neg (by omega)]
  · rw [if_neg c1]
    by_cases c2 : X_ w a + dx ≥ w
    · rw [if_pos c2]
      unfold Nx;rw [if_neg (by omega)]
    · rw [if_neg c2]
      by_cases c3 : Y_ w a + dy < 0
      · rw [if_pos c3]
        unfold Nx;rw [if_neg (by omega)]
      · rw [if_neg c3]
        by_cases c4 : Y_ w a + dy ≥ H_ w c
        · rw [if_pos c4]
          unfold Nx;rw [if_neg (by omega)]
        · rw [if_neg c4]
          have hm:=mul_le16 (x:=Y_ w a + dy) (y:=w) (by omega) (by omega) (by omega) hw2;rw [wrap64_id (x:=(Y_ w a + dy) * w) (by omega) (by omega),wrap64_id (by omega) (by omega)];unfold Nx;rw [if_pos (by omega)]
end
end Go.Proofs.Ytjcmlggdaajicaa.Pure
/-
Own text: a step between two cells: the program's and the reference's come to the same.
-/
namespace Go.Proofs.Ytjcmlggdaajicaa.Pure
open Go.RowKit Go.Proofs.YtjcmlggdaajicaaW.PrintWords Go.Proofs.YtjcmlggdaajicaaW.PrintLast Go.Proofs.Ytjcmlggdaajicaa.Pr Go.Proofs.Ytjcmlggdaajicaa.EvKit
open Classical

/-- A whole number's square: 0, 1, or 4 at least. -/
theorem sq_cases (x : Int) : (x = 0 ∧ x * x = 0) ∨ ((x = 1 ∨ x = -1) ∧ x * x = 1) ∨ ((2 ≤ x ∨ x ≤ -2) ∧ 4 ≤ x * x):=by
  by_cases h0 : x = 0
  · exact Or.inl ⟨h0,by rw [h0];rfl⟩
  by_cases h1 : x = 1
  · exact Or.inr (Or.inl ⟨Or.inl h1,by rw [h1];rfl⟩)
  by_cases h2 : x = -1
  · exact Or.inr (Or.inl ⟨Or.inr h2,by rw [h2];rfl⟩)
  · refine Or.inr (Or.inr ⟨by omega,?_⟩)
    by_cases h3 : 2 ≤ x
    · have:=Int.mul_le_mul h3 h3 (by omega) (by omega : (0 : Int) ≤ x)
      omega
    · have h4 : 2 ≤ -x:=by omega
      have:=Int.mul_le_mul h4 h4 (by omega) (by omega : (0 : Int) ≤ -x);rw [Int.neg_mul_neg] at this
      omega
theorem sq_le (x m : Int) (h1 : -m ≤ x) (h2 : x ≤ m) : x * x ≤ m * m:=by
  have:=Int.mul_nonneg (show 0 ≤ m - x by omega) (show 0 ≤ m + x by omega);rw [Int.sub_mul,Int.mul_add,Int.mul_add] at this;have e : x * m = m * x:=Int.mul_comm _ _
  omega
theorem abs_eq (x : Int) (h : -1000 ≤ x ∧ x ≤ 1000) : spec_l4Abs.f x = some (if x < 0 then -x else x):=by
  unfold spec_l4Abs.f;by_cases c : x < 0
  · rw [if_pos c,if_pos c,wrap64_id (by omega) (by omega)]
  · rw [if_neg c,if_neg c]

/-- How far b lies from a, in columns and in rows. -/
def DX (w a b : Int) : Int:=X_ w b - X_ w a
def DY (w a b : Int) : Int:=Y_ w b - Y_ w a
def Sq2 (w a b : Int) : Int:=DX w a b * DX w a b + DY w a b * DY w a b
/-- The step from a to b: 1 a straight one, 2 a slant one, 0 none. -/
noncomputable def Stp (w : Int) (c : List Int) (a b : Int) : Int:=
  if Fr c a ∧ Fr c b then (if Sq2 w a b = 1 then 1 else if Sq2 w a b = 2 ∧ Fr c (a + DX w a b) ∧ Fr c (a + DY w a b * w) then 2 else 0) else 0
theorem Stp_or (w : Int) (c : List Int) (a b : Int) : Stp w c a b = 0 ∨ Stp w c a b = 1 ∨ Stp w c a b = 2:=by
  unfold Stp;by_cases h : Fr c a ∧ Fr c b
  · rw [if_pos h]
    by_cases h1 : Sq2 w a b = 1
    · rw [if_pos h1];simp
    · rw [if_neg h1]
      by_cases h2 : Sq2 w a b = 2 ∧ Fr c (a + DX w a b) ∧ Fr c (a + DY w a b * w)
      · rw [if_pos h2];simp
      · rw [if_neg h2];simp
  · rw [if_neg h];simp

section
variable {w : Int} {c : List Int}
theorem D_range (h : Cl w c) {a b : Int} (ha : Fr c a) (hb : Fr c b) : -15 ≤ DX w a b ∧ DX w a b ≤ 15 ∧ -15 ≤ DY w a b ∧ DY w a b ≤ 15:=by
  have h1:=X_range h a;have h2:=X_range h b;have h3:=Y_range h ha.1 ha.2.1;have h4:=Y_range h hb.1 hb.2.1;have h5:=h.w16;have h6:=h.h16;unfold DX DY
  omega
theorem Sq2_range (h : Cl w c) {a b : Int} (ha : Fr c a) (hb : Fr c b) : DX w a b * DX w a b ≤ 225 ∧ 0 ≤ DX w a b * DX w a b ∧ DY w a b * DY w a b ≤ 225 ∧ 0 ≤ DY w a b * DY w a b:=by
  obtain ⟨h1,h2,h3,h4⟩:=D_range h ha hb;have s1:=sq_le (DX w a b) 15 h1 h2;have s2:=sq_le (DY w a b) 15 h3 h4;have s3:=sq_cases (DX w a b);have s4:=sq_cases (DY w a b)
  omega
theorem dyw (h : Cl w c) {a b : Int} (ha : Fr c a) (hb : Fr c b) : -256 ≤ DY w a b * w ∧ DY w a b * w ≤ 256:=by
  obtain ⟨_,_,h3,h4⟩:=D_range h ha hb;have h5:=h.w1;have h6:=h.w16;have m1:=Int.mul_le_mul_of_nonneg_right h4 (show 0 ≤ w by omega);have m2:=Int.mul_le_mul_of_nonneg_right h3 (show 0 ≤ w by omega)
  omega

theorem step_spec (h : Cl w c) (a b : Int) : Ev (fun k => spec_l18Step.f k w c a b) (Stp w c a b):=by
  simp only [spec_l18Step.f]
  have no : ¬ (Fr c a ∧ Fr c b) → Ev (fun k => spec_l18Step.j0 k a b true w c) (Stp w c a b):=by
    intro hn;apply Ev.succ;simp only [spec_l18Step.j0,if_true];exact Ev.some (by unfold Stp;rw [if_neg hn])
  by_cases ha : Fr c a
  · by_cases hb : Fr c b
    · refine Ev.bnd0 (free_spec w c a) (Ev.pos (by simpa using ha) (Ev.bnd0 (free_spec w c b) ?_))
      rw [decide_eq_true hb];apply Ev.succ;obtain ⟨d1,d2,d3,d4⟩:=D_range h ha hb;have hYa:=Y_range h ha.1 ha.2.1;have hYb:=Y_range h hb.1 hb.2.1;have hXa:=X_range h a;have hXb:=X_range h b;have hw:=h.w1;have hw2:=h.w16;have hH:=h.h16;have hn:=h.n256;have hm:=dyw h ha hb;have s3:=sq_cases (DX w a b);have s4:=sq_cases (DY w a b);have hlta:=ha.2.1;have h0a:=ha.1
      simp only [spec_l18Step.j0,Bool.not_true,Bool.false_eq_true,if_false,tmod_X ha.1,tmod_X hb.1,tdiv_Y ha.1,tdiv_Y hb.1,wrap64_id (x:=Y_ w a) (by omega) (by omega),wrap64_id (x:=Y_ w b) (by omega) (by omega),
        wrap64_id (x:=X_ w b - X_ w a) (by omega) (by omega),wrap64_id (x:=Y_ w b - Y_ w a) (by omega) (by omega)]
      have ed : X_ w b - X_ w a = DX w a b:=rfl;have ey : Y_ w b - Y_ w a = DY w a b:=rfl;simp only [ed,ey,abs_eq (DX w a b) (by omega),abs_eq (DY w a b) (by omega),Option.bind_some]
      have es : Stp w c a b = if Sq2 w a b = 1 then 1 else if Sq2 w a b = 2 ∧ Fr c (a + DX w a b) ∧ Fr c (a + DY w a b * w) then 2 else 0:=by
        unfold Stp;rw [if_pos ⟨ha,hb⟩]
      rw [es];unfold Sq2;generalize DX w a b = x at *;generalize DY w a b = y at *;rw [wrap64_id (x:=y * w) (by omega) (by omega),wrap64_id (x:=a + x) (by omega) (by omega),wrap64_id (x:=a + y * w) (by omega) (by omega)];generalize hp : (if x < 0 then -x else x) = p;generalize hq : (if y < 0 then -y else y) = q
      have hp1 : p = 1 ↔ x * x = 1:=by
        by_cases c : x < 0
        · rw [if_pos c] at hp;omega
        · rw [if_neg c] at hp;omega
      have hq1 : q = 1 ↔ y * y = 1:=by
        by_cases c : y < 0
        · rw [if_pos c] at hq;omega
        · rw [if_neg c] at hq;omega
      have hp0 : (p = 0 ↔ x * x = 0) ∧ 0 ≤ p ∧ p ≤ 15:=by
        by_cases c : x < 0
        · rw [if_pos c] at hp;omega
        · rw [if_neg c] at hp;omega
      have hq0 : (q = 0 ↔ y * y = 0) ∧ 0 ≤ q ∧ q ≤ 15:=by
        by_cases c : y < 0
        · rw [if_pos c] at hq;omega
        · rw [if_neg c] at hq;omega
      rw [wrap64_id (x:=p + q) (by omega) (by omega)];refine Ev.neg (by omega) ?_;by_cases c1 : x * x + y * y = 1
      · rw [if_pos c1]
        exact Ev.pos (by omega) (Ev.some rfl)
      · rw [if_neg c1]
        refine Ev.neg (by omega) ?_;by_cases c2 : x * x + y * y = 2
        · refine Ev.pos (by omega) (Ev.pos (by omega) (Ev.bnd0 (free_spec w c _) ?_))
          by_cases f1 : Fr c (a + x)
          · refine Ev.pos (by simpa using f1) (Ev.bnd0 (free_spec w c _) ?_)
            by_cases f2 : Fr c (a + y * w)
            · have eR : (if x * x + y * y = 2 ∧ Fr c (a + x) ∧ Fr c (a + y * w) then (2 : Int) else 0) = 2:=if_pos ⟨c2,f1,f2⟩
              rw [eR];exact Ev.pos (by simpa using f2) (Ev.some rfl)
            · have eR : (if x * x + y * y = 2 ∧ Fr c (a + x) ∧ Fr c (a + y * w) then (2 : Int) else 0) = 0:=if_neg (fun z => f2 z.2.2)
              rw [eR];exact Ev.neg (by simpa using f2) (Ev.some rfl)
          · have eR : (if x * x + y * y = 2 ∧ Fr c (a + x) ∧ Fr c (a + y * w) then (2 : Int) else 0) = 0:=if_neg (fun z => f1 z.2.1)
            rw [eR];exact Ev.neg (by simpa using f1) (Ev.some rfl)
        · have eR : (if x * x + y * y = 2 ∧ Fr c (a + x) ∧ Fr c (a + y * w) then (2 : Int) else 0) = 0:=if_neg (fun z => c2 z.1)
          rw [eR];exact Ev.ite (fun _ => Ev.neg (by omega) (Ev.some rfl)) (fun _ => Ev.some rfl)
    · refine Ev.bnd0 (free_spec w c a) (Ev.pos (by simpa using ha) (Ev.bnd0 (free_spec w c b) ?_))
      rw [decide_eq_false hb];exact no (fun x => hb x.2)
  · exact Ev.bnd0 (free_spec w c a) (Ev.neg (by simpa using ha) (no (fun x => ha x.1)))

/-- The program's step: what it costs, and whether there is one. -/
theorem step_impl (h : Cl w c) (a b : Int) : ∃ p q : Int,Ev (fun k => impl_Cells_step.f k w c a b) (p,q,decide (Stp w c a b ≠ 0)) ∧ (Stp w c a b = 1 → p = 1 ∧ q = 0) ∧ (Stp w c a b = 2 → p = 0 ∧ q = 1):=by
  simp only [impl_Cells_step.f]
  have no : ¬ (Fr c a ∧ Fr c b) → Stp w c a b = 0 ∧ Ev (fun k => impl_Cells_step.j0 k a b true w c) (0,0,decide (Stp w c a b ≠ 0)):=by
    intro hn;(have e : Stp w c a b = 0:=by unfold Stp;rw [if_neg hn]);refine ⟨e,Ev.succ ?_⟩;simp only [impl_Cells_step.j0,if_true];exact Ev.some (by rw [e];rfl)
  by_cases ha : Fr c a
  · by_cases hb : Fr c b
    · obtain ⟨d1,d2,d3,d4⟩:=D_range h ha hb
      have hYa:=Y_range h ha.1 ha.2.1;have hYb:=Y_range h hb.1 hb.2.1;have hXa:=X_range h a;have hXb:=X_range h b;have hw:=h.w1;have hw2:=h.w16;have hH:=h.h16;have hn:=h.n256;have hs:=Sq2_range h ha hb;have ed : X_ w b - X_ w a = DX w a b:=rfl;have ey : Y_ w b - Y_ w a = DY w a b:=rfl
      have es : Stp w c a b = if Sq2 w a b = 1 then 1 else if Sq2 w a b = 2 ∧ Fr c (a + DX w a b) ∧ Fr c (a + DY w a b * w) then 2 else 0:=by
        unfold Stp;rw [if_pos ⟨ha,hb⟩]
      -- the two cells beside
      have n1 : Nx w c a (DX w a b) 0 = a + DX w a b:=by
        have:=XY w a;unfold Nx;rw [if_pos (by unfold DX at *;omega),Int.add_zero]
        omega
      have n2 : Nx w c a 0 (DY w a b) = a + DY w a b * w:=by
        have:=XY w a;unfold Nx;rw [if_pos (by unfold DY at *;omega),Int.add_mul]
        omega
      have go : ∀ p q,Ev (fun k => impl_Cells_step.j0 k a b false w c) (p,q,decide (Stp w c a b ≠ 0)) → (Stp w c a b = 1 → p = 1 ∧ q = 0) → (Stp w c a b = 2 → p = 0 ∧ q = 1) →
          ∃ p q : Int,Ev (fun k => (impl_Cells_free.f w c a).bind fun t => if t = true then (impl_Cells_free.f w c b).bind fun t' => impl_Cells_step.j0 k a b (!t') w c else impl_Cells_step.j0 k a b true w c) (p,q,decide (Stp w c a b ≠ 0)) ∧ (Stp w c a b = 1 → p = 1 ∧ q = 0) ∧ (Stp w c a b = 2 → p = 0 ∧ q = 1):=by
        intro p q hj h1 h2;refine ⟨p,q,Ev.bnd0 (free_impl w c a) (Ev.pos (by simpa using ha) (Ev.bnd0 (free_impl w c b) ?_)),h1,h2⟩;rw [decide_eq_true hb];exact hj
      have body : ∀ p q,Ev (fun k => if Sq2 w a b = 1 then some (1,0,true) else if Sq2 w a b = 2 then (some (decide (Fr c (a + DX w a b)))).bind fun t => (if t = true then (some (decide (Fr c (a + DY w a b * w)))).bind fun t2 => some (0,1,t2) else some (0,1,false)) else some (0,0,false)) (p,q,decide (Stp w c a b ≠ 0)) →
          Ev (fun k => impl_Cells_step.j0 k a b false w c) ((p,q,decide (Stp w c a b ≠ 0)) : Int × Int × Bool):=by
        intro p q hh;apply Ev.succ
        simp only [impl_Cells_step.j0,Bool.false_eq_true,if_false,tmod_X ha.1,tmod_X hb.1,tdiv_Y ha.1,tdiv_Y hb.1,wrap64_id (x:=Y_ w a) (by omega) (by omega),wrap64_id (x:=Y_ w b) (by omega) (by omega),
          ed,ey,wrap64_id (x:=DX w a b) (by omega) (by omega),wrap64_id (x:=DY w a b) (by omega) (by omega),
          wrap64_id (x:=DX w a b * DX w a b) (by omega) (by omega),wrap64_id (x:=DY w a b * DY w a b) (by omega) (by omega),wrap64_id (x:=DX w a b * DX w a b + DY w a b * DY w a b) (by omega) (by omega),
          next_eq h ha.1 ha.2.1 (dx:=DX w a b) (dy:=0) (by omega) (by omega),next_eq h ha.1 ha.2.1 (dx:=0) (dy:=DY w a b) (by omega) (by omega),n1,n2,free_impl]
        refine Ev.neg (by omega) ?_
        simpa only [Sq2,Option.bind_some] using hh
      by_cases c1 : Sq2 w a b = 1
      · have e : Stp w c a b = 1:=by rw [es,if_pos c1]
        refine go 1 0 (body 1 0 (Ev.pos c1 (Ev.some (by rw [e];rfl)))) (fun _ => ⟨rfl,rfl⟩) (fun x => by rw [e] at x;exact absurd x (by decide))
      · by_cases c2 : Sq2 w a b = 2
        · by_cases f1 : Fr c (a + DX w a b)
          · by_cases f2 : Fr c (a + DY w a b * w)
            · have e : Stp w c a b = 2:=by rw [es,if_neg c1,if_pos ⟨c2,f1,f2⟩]
              refine go 0 1 (body 0 1 (Ev.neg c1 (Ev.pos c2 ?_))) (fun x => by rw [e] at x;exact absurd x (by decide)) (fun _ => ⟨rfl,rfl⟩);rw [decide_eq_true f1,decide_eq_true f2];exact Ev.some (by rw [e];rfl)
            · have e : Stp w c a b = 0:=by rw [es,if_neg c1,if_neg (fun z => f2 z.2.2)]
              refine go 0 1 (body 0 1 (Ev.neg c1 (Ev.pos c2 ?_))) (fun x => by rw [e] at x;exact absurd x (by decide)) (fun _ => ⟨rfl,rfl⟩);rw [decide_eq_true f1,decide_eq_false f2];exact Ev.some (by rw [e];rfl)
          · have e : Stp w c a b = 0:=by rw [es,if_neg c1,if_neg (fun z => f1 z.2.1)]
            refine go 0 1 (body 0 1 (Ev.neg c1 (Ev.pos c2 ?_))) (fun x => by rw [e] at x;exact absurd x (by decide)) (fun _ => ⟨rfl,rfl⟩);rw [decide_eq_false f1];exact Ev.some (by rw [e];rfl)
        · have e : Stp w c a b = 0:=by rw [es,if_neg c1,if_neg (fun z => c2 z.1)]
          exact go 0 0 (body 0 0 (Ev.neg c1 (Ev.neg c2 (Ev.some (by rw [e];rfl))))) (fun x => by rw [e] at x;exact absurd x (by decide)) (fun x => by rw [e] at x;exact absurd x (by decide))
    · obtain ⟨e,f⟩:=no (fun x => hb x.2)
      refine ⟨0,0,Ev.bnd0 (free_impl w c a) (Ev.pos (by simpa using ha) (Ev.bnd0 (free_impl w c b) ?_)),fun x => by omega,fun x => by omega⟩;rw [decide_eq_false hb];exact f
  · obtain ⟨e,f⟩:=no (fun x => ha x.1)
    exact ⟨0,0,Ev.bnd0 (free_impl w c a) (Ev.neg (by simpa using ha) f),fun x => by omega,fun x => by omega⟩
end
end Go.Proofs.Ytjcmlggdaajicaa.Pure
/-
Own text: shortest ways from one cell with costs a + b * sqrt 2. The costs are compared by whole numbers (a close fraction for the root);a search that takes the least open cell,in whatever order among equals,ends with the one table of least costs. No program in it.
-/
namespace Go.Proofs.Ytjcmlggdaajicaa.Dij
set_option linter.unusedVariables false

/-- 8119 / 5741 is close to the root of 2. -/
def wt (p : Int × Int) : Int:=p.1 * 5741 + p.2 * 8119
def sgn (x : Int) : Int:=if x < 0 then -1 else if x > 0 then 1 else 0

theorem key (a b : Nat) (hb : 0 < b) (hb2 : b < 5741) : (a * 5741 < b * 8119 ∧ a * a < 2 * (b * b)) ∨ (b * 8119 < a * 5741 ∧ 2 * (b * b) < a * a):=by
  have e1 : (a * 5741) * (a * 5741) = (a * a) * 32959081:=by
    rw [Nat.mul_mul_mul_comm a 5741 a 5741]
  have e2 : (b * 8119) * (b * 8119) = (b * b) * 65918161:=by
    rw [Nat.mul_mul_mul_comm b 8119 b 8119]
  (have h3 : b * b < 32959081:=by have:=Nat.mul_self_lt_mul_self hb2;omega);have h4 : 0 < b * b:=Nat.mul_pos hb hb
  rcases Nat.lt_or_ge (a * 5741) (b * 8119) with h | h
  · left
    refine ⟨h,?_⟩;have:=Nat.mul_self_lt_mul_self h;rw [e1,e2] at this
    omega
  · right
    have h5:=Nat.mul_self_le_mul_self h;rw [e1,e2] at h5;(have h6 : 2 * (b * b) ≤ a * a:=by omega)
    rcases Nat.lt_or_ge (2 * (b * b)) (a * a) with h7 | h7
    · refine ⟨?_,h7⟩
      rcases Nat.lt_or_ge (b * 8119) (a * 5741) with h8 | h8
      · exact h8
      · have h9:=Nat.mul_self_le_mul_self h8
        rw [e1,e2] at h9
        omega
    · exfalso
      (have h8 : a * a = 2 * (b * b):=by omega)
      have h9 : b * 8119 ≠ a * 5741:=by
        intro e;rw [← e,e2,h8] at e1
        omega
      have h10 : b * 8119 + 1 ≤ a * 5741:=Nat.succ_le_of_lt (Nat.lt_of_le_of_ne h h9);have h11:=Nat.mul_self_le_mul_self h10;rw [e1,h8] at h11
      have e3 : (b * 8119 + 1) * (b * 8119 + 1) = (b * b) * 65918161 + 2 * (b * 8119) + 1:=by
        rw [Nat.add_mul,Nat.mul_add,e2];omega
      have h12 : b * b ≤ b * 5741:=Nat.mul_le_mul_left b (by omega)
      omega

/-- The same for whole numbers of unlike signs. -/
theorem key_int (a b : Int) (ha : 0 < a) (hb : b < 0) (hb2 : -5741 < b) : (wt (a,b) < 0 ∧ a * a < 2 * (b * b)) ∨ (0 < wt (a,b) ∧ 2 * (b * b) < a * a):=by
  obtain ⟨m,rfl⟩ : ∃ m : Nat,a = m:=⟨a.toNat,by omega⟩;obtain ⟨n,rfl⟩ : ∃ n : Nat,b = -(n : Int):=⟨(-b).toNat,by omega⟩;(have e : (-(n : Int)) * (-(n : Int)) = ((n * n : Nat) : Int):=by rw [Int.neg_mul_neg];simp);(have e' : (m : Int) * (m : Int) = ((m * m : Nat) : Int):=by simp);simp only [wt,e,e']
  rcases key m n (by omega) (by omega) with ⟨h1,h2⟩ | ⟨h1,h2⟩
  · left;constructor <;> omega
  · right;constructor <;> omega
theorem key_int' (a b : Int) (ha : a < 0) (hb : 0 < b) (hb2 : b < 5741) : (0 < wt (a,b) ∧ a * a < 2 * (b * b)) ∨ (wt (a,b) < 0 ∧ 2 * (b * b) < a * a):=by
  have:=key_int (-a) (-b) (by omega) (by omega) (by omega);simp only [Int.neg_mul_neg,wt] at this ⊢
  rcases this with ⟨h1,h2⟩ | ⟨h1,h2⟩
  · left;exact ⟨by omega,h2⟩
  · right;exact ⟨by omega,h2⟩
theorem wt_zero {a b : Int} (h : wt (a,b) = 0) (h1 : -5741 < b) (h2 : b < 5741) : a = 0 ∧ b = 0:=by
  rcases Int.lt_trichotomy b 0 with hb | hb | hb
  · have ha : 0 < a:=by unfold wt at h;simp only at h;omega
    have:=key_int a b ha hb h1
    omega
  · subst hb
    unfold wt at h
    simp only at h
    omega
  · have ha : a < 0:=by unfold wt at h;simp only at h;omega
    have:=key_int' a b ha hb h2
    omega
theorem wt_inj {p q : Int × Int} (h : wt p = wt q) (hp : 0 ≤ p.2) (hp2 : p.2 < 5741) (hq : 0 ≤ q.2) (hq2 : q.2 < 5741) : p = q:=by
  obtain ⟨a,b⟩:=p;obtain ⟨c,d⟩:=q;have:=wt_zero (a:=a - c) (b:=b - d) (by unfold wt at h ⊢;simp only at h ⊢;omega) (by simp only at *;omega) (by simp only at *;omega);simp only [Prod.mk.injEq]
  omega
theorem wt_add (p q : Int × Int) : wt (p.1 + q.1,p.2 + q.2) = wt p + wt q:=by unfold wt;simp only;omega

section
variable (nb : Int → List (Int × Int × Int)) (src : Int)
/-- A walk from the source and its cost. -/
inductive Wk : Int → Int × Int → Prop
  | base : Wk src (0,0)
  | step {c n p q} : Wk c p → (n,q) ∈ nb c → Wk n (p.1 + q.1,p.2 + q.2)

/-- How many of the cells are not done. -/
def cnt (done : Int → Bool) (U : List Int) : Nat:=(U.filter fun x => !done x).length
/-- What holds between two rounds. -/
structure Inv (U : List Int) (D : Int → Option (Int × Int)) (done : Int → Bool) : Prop where
  start : D src = some (0,0)
  walk : ∀ c p,D c = some p → Wk nb src c p ∧ 0 ≤ p.1 ∧ 0 ≤ p.2 ∧ p.1 + p.2 + (cnt done U : Int) + (if done c = true then 1 else 0) ≤ U.length ∧ c ∈ U
  has : ∀ c,done c = true → ∃ p,D c = some p
  shut : ∀ c p,done c = true → D c = some p → ∀ n q,(n,q) ∈ nb c → ∃ p',D n = some p' ∧ wt p' ≤ wt p + wt q
  low : ∀ c p k p',done c = true → D c = some p → done k = false → D k = some p' → wt p ≤ wt p'
/-- What holds at the end. -/
structure End (U : List Int) (D : Int → Option (Int × Int)) : Prop where
  start : D src = some (0,0)
  walk : ∀ c p,D c = some p → Wk nb src c p ∧ 0 ≤ p.1 ∧ 0 ≤ p.2 ∧ p.1 + p.2 + 1 ≤ U.length ∧ c ∈ U
  shut : ∀ c p,D c = some p → ∀ n q,(n,q) ∈ nb c → ∃ p',D n = some p' ∧ wt p' ≤ wt p + wt q
variable {nb src} {U : List Int} {D : Int → Option (Int × Int)} {done : Int → Bool}
theorem Inv.end (h : Inv nb src U D done) (hd : ∀ c p,D c = some p → done c = true) : End nb src U D:=
  ⟨h.start,fun c p hp => by obtain ⟨a,b,c',d,e⟩:=h.walk c p hp;rw [if_pos (hd c p hp)] at d;exact ⟨a,b,c',by omega,e⟩,fun c p hp => h.shut c p (hd c p hp) hp⟩
theorem End.least (h : End nb src U D) {c : Int} {p : Int × Int} (hw : Wk nb src c p) : ∃ p',D c = some p' ∧ wt p' ≤ wt p:=by
  induction hw with
  | base => exact ⟨_,h.start,Int.le_refl _⟩
  | step hw hn ih =>
    obtain ⟨p',h1,h2⟩:=ih;obtain ⟨p'',h3,h4⟩:=h.shut _ _ h1 _ _ hn;exact ⟨p'',h3,by rw [wt_add];omega⟩
theorem End.unique {D' : Int → Option (Int × Int)} (hU : U.length < 5741) (h : End nb src U D) (h' : End nb src U D') : D = D':=by
  have one : ∀ {D D' : Int → Option (Int × Int)},End nb src U D → End nb src U D' → ∀ c p,D c = some p → ∃ p',D' c = some p' ∧ wt p' ≤ wt p:=
    fun h h' c p hp => h'.least (h.walk c p hp).1
  funext c
  cases hp : D c with
  | none =>
    cases hp' : D' c with
    | none => rfl
    | some p' =>
      obtain ⟨q,hq,_⟩:=one h' h c p' hp';rw [hp] at hq;cases hq
  | some p =>
    obtain ⟨p',hp',hl⟩:=one h h' c p hp;obtain ⟨q,hq,hl'⟩:=one h' h c p' hp';rw [hp] at hq
    cases hq
    rw [hp'];have a:=h.walk c p hp;have b:=h'.walk c p' hp';rw [wt_inj (p:=p) (q:=p') (by omega) (by omega) (by omega) (by omega) (by omega)]

theorem inv0 (hs : src ∈ U) (D : Int → Option (Int × Int)) (hD : ∀ c,D c = if c = src then some (0,0) else none) (done : Int → Bool) (hd : ∀ c,done c = false) : Inv nb src U D done:=by
  refine ⟨by rw [hD,if_pos rfl],fun c p hp => ?_,fun c h => (by rw [hd] at h;cases h),fun c p h => (by rw [hd] at h;cases h),fun c p k p' h => (by rw [hd] at h;cases h)⟩;rw [hD] at hp
  split at hp
  · rename_i e
    cases hp;subst e
    refine ⟨Wk.base,Int.le_refl _,Int.le_refl _,?_,hs⟩;have : cnt done U ≤ U.length:=List.length_filter_le _ _;rw [if_neg (by rw [hd];exact Bool.false_ne_true)]
    simp only
    omega
  · cases hp

/-- One neighbour. -/
def rel1 (p : Int × Int) (D : Int → Option (Int × Int)) (x : Int × Int × Int) : Int → Option (Int × Int):=
  match D x.1 with
  | none => fun y => if y = x.1 then some (p.1 + x.2.1,p.2 + x.2.2) else D y
  | some o => if wt (p.1 + x.2.1,p.2 + x.2.2) < wt o then fun y => if y = x.1 then some (p.1 + x.2.1,p.2 + x.2.2) else D y else D
/-- All of them. -/
def rel (p : Int × Int) (D : Int → Option (Int × Int)) (l : List (Int × Int × Int)) : Int → Option (Int × Int):=l.foldl (rel1 p) D

theorem cnt_le (done done' : Int → Bool) (h : ∀ y,done y = true → done' y = true) (U : List Int) : cnt done' U ≤ cnt done U:=by
  unfold cnt
  induction U with
  | nil => exact Nat.le_refl _
  | cons x l ih =>
    simp only [List.filter_cons]
    cases h1 : done x with
    | true => simp only [h x h1,Bool.not_true,Bool.false_eq_true,if_false];exact ih
    | false =>
      simp only [Bool.not_false,if_true,List.length_cons]
      split
      · simp only [List.length_cons];omega
      · omega
theorem cnt_mark {at_ : Int} {done done' : Int → Bool} {U : List Int} (hU : at_ ∈ U) (hd : done at_ = false) (hd' : ∀ y,done' y = if y = at_ then true else done y) : cnt done' U + 1 ≤ cnt done U:=by
  have hle : ∀ y,done y = true → done' y = true:=fun y hy => by rw [hd'];split <;> first | rfl | exact hy
  induction U with
  | nil => cases hU
  | cons x l ih =>
    by_cases e : x = at_
    · subst e
      have:=cnt_le done done' hle l;(have h1 : done' x = true:=by rw [hd',if_pos rfl]);unfold cnt at this ⊢;simp only [List.filter_cons,h1,hd,Bool.not_true,Bool.not_false,Bool.false_eq_true,if_false,if_true,List.length_cons]
      omega
    · have:=ih ((List.mem_cons.1 hU).resolve_left (fun h => e h.symm))
      (have h1 : done' x = done x:=by rw [hd',if_neg e]);unfold cnt at this ⊢;simp only [List.filter_cons,h1]
      split
      · simp only [List.length_cons];omega
      · exact this

/-- What a relaxing leaves as it is, and what it brings. -/
theorem rel_spec (p : Int × Int) : ∀ (l : List (Int × Int × Int)) (D : Int → Option (Int × Int)),
    (∀ c o,D c = some o → ∃ o',rel p D l c = some o' ∧ wt o' ≤ wt o) ∧
    (∀ n q,(n,q) ∈ l → ∃ o',rel p D l n = some o' ∧ wt o' ≤ wt p + wt q) ∧
    (∀ c o',rel p D l c = some o' → D c = some o' ∨ (∃ q,(c,q) ∈ l ∧ o' = (p.1 + q.1,p.2 + q.2) ∧ ∀ o,D c = some o → wt o' < wt o)):=by
  intro l
  induction l with
  | nil => exact fun D => ⟨fun c o h => ⟨o,h,Int.le_refl _⟩,fun n q h => (by cases h),fun c o' h => .inl h⟩
  | cons x l ih =>
    intro D;obtain ⟨n,q⟩:=x
    have r1 : (∀ c o,D c = some o → ∃ o',rel1 p D (n,q) c = some o' ∧ wt o' ≤ wt o) ∧ (∃ o',rel1 p D (n,q) n = some o' ∧ wt o' ≤ wt p + wt q) ∧
        (∀ c o',rel1 p D (n,q) c = some o' → D c = some o' ∨ (c = n ∧ o' = (p.1 + q.1,p.2 + q.2) ∧ ∀ o,D c = some o → wt o' < wt o)):=by
      unfold rel1
      simp only
      cases hn : D n with
      | none =>
        dsimp only;refine ⟨fun c o h => ⟨o,?_,Int.le_refl _⟩,⟨_,if_pos rfl,by rw [wt_add];exact Int.le_refl _⟩,fun c o' h => ?_⟩
        · rw [if_neg (fun e => by rw [e,hn] at h;cases h)];exact h
        · try dsimp only at h
          split at h
          · rename_i e
            cases h
            exact .inr ⟨e,rfl,fun o ho => by rw [e,hn] at ho;cases ho⟩
          · exact .inl h
      | some o0 =>
        dsimp only
        split
        · rename_i hlt
          refine ⟨fun c o h => ?_,⟨_,if_pos rfl,by rw [wt_add];exact Int.le_refl _⟩,fun c o' h => ?_⟩
          · by_cases e : c = n
            · subst e
              rw [hn] at h;cases h;exact ⟨_,if_pos rfl,Int.le_of_lt hlt⟩
            · exact ⟨o,(if_neg e).trans h,Int.le_refl _⟩
          · try dsimp only at h
            split at h
            · rename_i e
              cases h
              exact .inr ⟨e,rfl,fun o ho => by rw [e,hn] at ho;cases ho;exact hlt⟩
            · exact .inl h
        · rename_i hlt
          exact ⟨fun c o h => ⟨o,h,Int.le_refl _⟩,⟨o0,hn,by rw [wt_add] at hlt;omega⟩,fun c o' h => .inl h⟩
    obtain ⟨a1,a2,a3⟩:=r1;obtain ⟨b1,b2,b3⟩:=ih (rel1 p D (n,q));refine ⟨fun c o h => ?_,fun n' q' h => ?_,fun c o' h => ?_⟩
    · obtain ⟨o1,h1,h2⟩:=a1 c o h
      obtain ⟨o2,h3,h4⟩:=b1 c o1 h1;exact ⟨o2,h3,by omega⟩
    · rcases List.mem_cons.1 h with e | h
      · cases e
        obtain ⟨o1,h1,h2⟩:=a2;obtain ⟨o2,h3,h4⟩:=b1 _ o1 h1;exact ⟨o2,h3,by omega⟩
      · exact b2 n' q' h
    · rcases b3 c o' h with h | ⟨q',h1,h2,h3⟩
      · rcases a3 c o' h with h | ⟨e,h1,h2⟩
        · exact .inl h
        · subst e
          exact .inr ⟨q,List.mem_cons_self,h1,h2⟩
      · refine .inr ⟨q',List.mem_cons_of_mem _ h1,h2,fun o ho => ?_⟩
        obtain ⟨o1,h4,h5⟩:=a1 c o ho;have:=h3 o1 h4
        omega

/-- A round: a least open cell is done, its neighbours are told what they cost from it. -/
theorem Inv.round (h : Inv nb src U D done) {at_ : Int} {p : Int × Int} (hat : D at_ = some p) (hnd : done at_ = false) (hmin : ∀ c o,D c = some o → done c = false → wt p ≤ wt o)
    (hnb : ∀ n q,(n,q) ∈ nb at_ → n ∈ U ∧ n ≠ at_ ∧ (q = (1,0) ∨ q = (0,1))) (done' : Int → Bool) (hdone : ∀ y,done' y = if y = at_ then true else done y) : Inv nb src U (rel p D (nb at_)) done':=by
  obtain ⟨r1,r2,r3⟩:=rel_spec p (nb at_) D;have hw:=h.walk at_ p hat
  have qpos : ∀ n q,(n,q) ∈ nb at_ → 0 < wt q:=by
    intro n q hq
    rcases (hnb n q hq).2.2 with e | e <;> subst e <;> decide
  -- what is done stays
  have keep : ∀ c o,D c = some o → wt o ≤ wt p → rel p D (nb at_) c = some o:=by
    intro c o ho hle;obtain ⟨o',h1,h2⟩:=r1 c o ho
    rcases r3 c o' h1 with e | ⟨q,hq,e,hlt⟩
    · rw [h1,← e,ho]
    · have:=hlt o ho
      subst e;have:=qpos c q hq;rw [wt_add] at *
      omega
  have hcnt : cnt done' U + 1 ≤ cnt done U:=cnt_mark hw.2.2.2.2 hnd hdone;have hat':=keep at_ p hat (Int.le_refl _)
  have dcase : ∀ c,done' c = true → c = at_ ∨ done c = true:=by
    intro c hc;rw [hdone] at hc
    split at hc
    · rename_i e;exact .inl e
    · exact .inr hc
  (have dle : ∀ c o,done c = true → D c = some o → wt o ≤ wt p:=fun c o hc ho => h.low c o at_ p hc ho hnd hat);refine ⟨?_,fun c o' ho' => ?_,fun c hc => ?_,fun c o' hc ho' n q hq => ?_,fun c o k o' hc ho hk ho' => ?_⟩
  · rcases hd : done src with _ | _
    · have : wt p ≤ wt (0,0):=hmin src _ h.start hd
      (have hp0 : 0 ≤ wt p:=by unfold wt;omega);refine keep src _ h.start ?_;have : wt (0,0) = 0:=rfl
      omega
    · exact keep src _ h.start (dle src _ hd h.start)
  · rcases r3 c o' ho' with e | ⟨q,hq,e,hlt⟩
    · obtain ⟨a,b,c',d,e⟩:=h.walk c o' e
      refine ⟨a,b,c',?_,e⟩
      have h1 : (0 : Int) ≤ if done c = true then 1 else 0:=by split <;> omega
      have h2 : (if done' c = true then 1 else 0 : Int) ≤ 1:=by split <;> omega
      omega
    · have hnd' : ¬ done' c = true:=by
        intro hc
        rcases dcase c hc with e2 | e2
        · exact (hnb c q hq).2.1 e2
        · obtain ⟨o,ho⟩:=h.has c e2
          have h1:=hlt o ho;have h2:=dle c o e2 ho;subst e;have:=qpos c q hq;rw [wt_add] at h1
          omega
      subst e;have:=hnb c q hq;have hw4:=hw.2.2.2.1;rw [if_neg (by rw [hnd];exact Bool.false_ne_true)] at hw4
      refine ⟨Wk.step hw.1 hq,?_,?_,?_,this.1⟩ <;> (try rw [if_neg hnd']) <;> rcases this.2.2 with e | e <;> subst e <;> simp only <;> omega
  · rcases dcase c hc with e | e
    · subst e;exact ⟨p,hat'⟩
    · obtain ⟨o,ho⟩:=h.has c e
      exact ⟨o,keep c o ho (dle c o e ho)⟩
  · rcases dcase c hc with e | e
    · subst e
      rw [hat'] at ho'
      cases ho'
      exact r2 n q hq
    · obtain ⟨o,ho⟩:=h.has c e
      have e3 : o = o':=Option.some.inj ((keep c o ho (dle c o e ho)).symm.trans ho');subst e3;obtain ⟨o1,h1,h2⟩:=h.shut c o e ho n q hq;obtain ⟨o2,h3,h4⟩:=r1 n o1 h1;exact ⟨o2,h3,by omega⟩
  · have hkn : k ≠ at_ ∧ done k = false:=by
      rw [hdone] at hk
      split at hk
      · cases hk
      · rename_i e;exact ⟨e,hk⟩
    have hle : wt o ≤ wt p:=by
      rcases dcase c hc with e | e
      · subst e
        rw [hat'] at ho
        cases ho
        exact Int.le_refl _
      · obtain ⟨o1,ho1⟩:=h.has c e
        rw [keep c o1 ho1 (dle c o1 e ho1)] at ho
        cases ho
        exact dle c o e ho1
    rcases r3 k o' ho' with e | ⟨q,hq,e,_⟩
    · have:=hmin k o' e hkn.2
      omega
    · subst e
      have:=qpos k q hq;rw [wt_add]
      omega
/-- A way back: a reached cell that is not the source has a neighbour from which it is reached at its cost. -/
theorem End.back (h : End nb src U D) (hU : U.length < 5741) (hsym : ∀ c n q,(n,q) ∈ nb c → (c,q) ∈ nb n) (hq01 : ∀ c n q,(n,q) ∈ nb c → q = (1,0) ∨ q = (0,1)) {c : Int} {p : Int × Int} (hc : D c = some p) (hne : c ≠ src) :
    ∃ n q o,(n,q) ∈ nb c ∧ D n = some o ∧ (o.1 + q.1,o.2 + q.2) = p:=by
  obtain ⟨hw,h0,h1,h2,_⟩:=h.walk c p hc
  cases hw with
  | base => exact absurd rfl hne
  | step hw' hn =>
    rename_i c' p' q
    obtain ⟨o,ho,hle⟩:=h.least hw';obtain ⟨o',ho',hle'⟩:=h.shut _ _ ho _ _ hn;rw [hc] at ho'
    cases ho'
    rw [wt_add] at hle';obtain ⟨_,a,b,d,_⟩:=h.walk _ _ ho;refine ⟨c',q,o,hsym _ _ _ hn,ho,wt_inj ?_ ?_ ?_ ?_ ?_⟩
    · rw [wt_add,wt_add];omega
    all_goals rcases hq01 _ _ _ hn with e | e <;> subst e <;> simp only at * <;> omega
/-- The next cell of a way back. -/
def nxt (nb : Int → List (Int × Int × Int)) (D : Int → Option (Int × Int)) (c : Int) : Int:=
  (((nb c).find? fun x => match D x.1,D c with
    | some o,some p => decide (o.1 + x.2.1 = p.1 ∧ o.2 + x.2.2 = p.2)
    | _,_ => false).map fun x => x.1).getD c
/-- The way back, of so many steps. -/
def trail (nb : Int → List (Int × Int × Int)) (D : Int → Option (Int × Int)) : Nat → Int → List Int
  | 0,c => [c]
  | f + 1,c => c :: trail nb D f (nxt nb D c)
theorem trail_length (f : Nat) (c : Int) : (trail nb D f c).length = f + 1:=by
  induction f generalizing c with
  | zero => rfl
  | succ f ih => simp [trail,ih]
theorem trail_head (f : Nat) (c : Int) : ∃ l,trail nb D f c = c :: l:=by
  cases f with
  | zero => exact ⟨[],rfl⟩
  | succ f => exact ⟨_,rfl⟩
theorem End.nxt_spec (h : End nb src U D) (hU : U.length < 5741) (hsym : ∀ c n q,(n,q) ∈ nb c → (c,q) ∈ nb n) (hq01 : ∀ c n q,(n,q) ∈ nb c → q = (1,0) ∨ q = (0,1)) {c : Int} {p : Int × Int} (hc : D c = some p) (hne : c ≠ src) :
    ∃ q o,(nxt nb D c,q) ∈ nb c ∧ D (nxt nb D c) = some o ∧ o.1 + q.1 = p.1 ∧ o.2 + q.2 = p.2:=by
  obtain ⟨n,q,o,h1,h2,h3⟩:=h.back hU hsym hq01 hc hne;unfold nxt
  cases hf : (nb c).find? fun x => match D x.1,D c with
    | some o,some p => decide (o.1 + x.2.1 = p.1 ∧ o.2 + x.2.2 = p.2)
    | _,_ => false with
  | none =>
    have:=List.find?_eq_none.1 hf _ h1;subst h3
    simp [h2,hc] at this
  | some x =>
    have hx:=List.find?_some hf;have hm:=List.mem_of_find?_eq_some hf;simp only [Option.map_some,Option.getD_some];rw [hc] at hx
    cases ho : D x.1 with
    | none => simp only [ho] at hx;cases hx
    | some o =>
      simp only [ho,decide_eq_true_eq] at hx;exact ⟨x.2,o,hm,rfl,hx⟩
/-- The steps of a way back are as many as its cost tells, and it is over just at the source. -/
theorem End.sum_zero (h : End nb src U D) (hU : U.length < 5741) (hsym : ∀ c n q,(n,q) ∈ nb c → (c,q) ∈ nb n) (hq01 : ∀ c n q,(n,q) ∈ nb c → q = (1,0) ∨ q = (0,1)) {c : Int} {p : Int × Int} (hc : D c = some p) : c = src ↔ p.1 + p.2 = 0:=by
  constructor
  · intro e
    subst e;rw [h.start] at hc
    cases hc
    rfl
  · intro e
    rcases Decidable.em (c = src) with h1 | h1
    · exact h1
    · obtain ⟨q,o,h2,h3,h4,h5⟩:=h.nxt_spec hU hsym hq01 hc h1
      have:=h.walk _ _ h3
      rcases hq01 _ _ _ h2 with e2 | e2 <;> subst e2 <;> simp only at h4 h5 <;> omega
end
end Go.Proofs.Ytjcmlggdaajicaa.Dij
/-
Own text: the cells around one,in order,and what a step to them costs.
-/
namespace Go.Proofs.Ytjcmlggdaajicaa.Pure
open Go.RowKit Go.Proofs.YtjcmlggdaajicaaW.PrintWords Go.Proofs.YtjcmlggdaajicaaW.PrintLast Go.Proofs.Ytjcmlggdaajicaa.Pr Go.Proofs.Ytjcmlggdaajicaa.EvKit
open Classical
set_option linter.unusedVariables false

def Us (n : Nat) : List Int:=(List.range n).map (fun i : Nat => (i : Int))
theorem mem_Us {n : Nat} {x : Int} : x ∈ Us n ↔ 0 ≤ x ∧ x < n:=by
  unfold Us;rw [List.mem_map]
  constructor
  · rintro ⟨a,ha,rfl⟩
    have:=List.mem_range.1 ha
    omega
  · rintro ⟨h0,h1⟩
    exact ⟨x.toNat,List.mem_range.2 (by omega),by omega⟩
theorem Us_length (n : Nat) : (Us n).length = n:=by simp [Us]

/-- The ways to go, as the program takes them: column, row. -/
def dirs : List (Int × Int):=[(-1,-1),(0,-1),(1,-1),(-1,0),(0,0),(1,0),(-1,1),(0,1),(1,1)]
/-- One of the cells around. -/
noncomputable def ar1 (w : Int) (c : List Int) (a : Int) (d : Int × Int) : Option Int:=if Nx w c a d.1 d.2 < 0 ∨ Nx w c a d.1 d.2 = a then none else some (Nx w c a d.1 d.2)
noncomputable def AR (w : Int) (c : List Int) (a : Int) : List Int:=dirs.filterMap (ar1 w c a)
/-- A step to a cell: what it costs. -/
noncomputable def st1 (w : Int) (c : List Int) (a n : Int) : Option (Int × Int × Int):=if Stp w c a n = 1 then some (n,1,0) else if Stp w c a n = 2 then some (n,0,1) else none
noncomputable def NB (w : Int) (c : List Int) (a : Int) : List (Int × Int × Int):=(AR w c a).filterMap (st1 w c a)

section
variable {w : Int} {c : List Int}
theorem Nx_or (w : Int) (c : List Int) (h : Cl w c) {a : Int} (h0 : 0 ≤ a) (h1 : a < c.length) (d : Int × Int) : (Nx w c a d.1 d.2 = -1) ∨ (0 ≤ Nx w c a d.1 d.2 ∧ Nx w c a d.1 d.2 < c.length ∧ X_ w (Nx w c a d.1 d.2) = X_ w a + d.1 ∧ Y_ w (Nx w c a d.1 d.2) = Y_ w a + d.2):=by
  unfold Nx
  split
  · rename_i hx
    right
    have:=cell_in h hx.1 hx.2.1 hx.2.2.1 hx.2.2.2;exact ⟨this.1,this.2,X_cell hx.1 hx.2.1 _,Y_cell hx.1 hx.2.1 _⟩
  · left;rfl
theorem mem_AR (h : Cl w c) {a n : Int} (h0 : 0 ≤ a) (h1 : a < c.length) : n ∈ AR w c a ↔ 0 ≤ n ∧ n < c.length ∧ n ≠ a ∧ -1 ≤ DX w a n ∧ DX w a n ≤ 1 ∧ -1 ≤ DY w a n ∧ DY w a n ≤ 1:=by
  unfold AR;rw [List.mem_filterMap]
  constructor
  · rintro ⟨d,hd,he⟩
    unfold ar1 at he
    split at he
    · cases he
    · rename_i hn
      cases he
      rcases Nx_or w c h h0 h1 d with e | ⟨e1,e2,e3,e4⟩
      · exact absurd (.inl (by omega)) hn
      · have hdd : -1 ≤ d.1 ∧ d.1 ≤ 1 ∧ -1 ≤ d.2 ∧ d.2 ≤ 1:=by
          simp only [dirs,List.mem_cons,List.not_mem_nil,or_false] at hd
          rcases hd with e | e | e | e | e | e | e | e | e <;> subst e <;> simp
        unfold DX DY;rw [e3,e4];exact ⟨e1,e2,fun e => hn (.inr e),by omega,by omega,by omega,by omega⟩
  · rintro ⟨g0,g1,g2,g3,g4,g5,g6⟩
    have hX:=X_range h n;have hY:=Y_range h g0 g1
    have e : Nx w c a (DX w a n) (DY w a n) = n:=by
      unfold Nx;rw [if_pos (by unfold DX DY;omega),show X_ w a + DX w a n = X_ w n by unfold DX;omega,show Y_ w a + DY w a n = Y_ w n by unfold DY;omega];exact XY w n
    refine ⟨(DX w a n,DY w a n),?_,?_⟩
    · generalize DX w a n = x at g3 g4
      generalize DY w a n = y at g5 g6;(have hx : x = -1 ∨ x = 0 ∨ x = 1:=by omega);(have hy : y = -1 ∨ y = 0 ∨ y = 1:=by omega)
      rcases hx with rfl | rfl | rfl <;> rcases hy with rfl | rfl | rfl <;> simp [dirs]
    · unfold ar1
      simp only [e];rw [if_neg (by omega)]
theorem sq_small {x : Int} (h : x * x ≤ 2) : -1 ≤ x ∧ x ≤ 1:=by
  rcases sq_cases x with ⟨e,_⟩ | ⟨e,_⟩ | ⟨_,e⟩ <;> omega
theorem Stp_facts {a b : Int} (h : Stp w c a b ≠ 0) : Fr c a ∧ Fr c b ∧ (-1 ≤ DX w a b ∧ DX w a b ≤ 1 ∧ -1 ≤ DY w a b ∧ DY w a b ≤ 1) ∧ b ≠ a:=by
  unfold Stp at h
  split at h
  · rename_i hf
    have sq : ∀ x : Int,0 ≤ x * x:=fun x => by rcases sq_cases x with ⟨_,e⟩ | ⟨_,e⟩ | ⟨_,e⟩ <;> omega
    have hs : Sq2 w a b = 1 ∨ Sq2 w a b = 2:=by
      by_cases h1 : Sq2 w a b = 1
      · exact .inl h1
      · rw [if_neg h1] at h
        by_cases h2 : Sq2 w a b = 2
        · exact .inr h2
        · rw [if_neg (fun z => h2 z.1)] at h
          exact absurd rfl h
    have s1:=sq (DX w a b);have s2:=sq (DY w a b);unfold Sq2 at hs;have d1:=sq_small (x:=DX w a b) (by omega);have d2:=sq_small (x:=DY w a b) (by omega);refine ⟨hf.1,hf.2,⟨d1.1,d1.2,d2.1,d2.2⟩,fun e => ?_⟩;subst e;(have e1 : DX w b b = 0:=by unfold DX;omega);(have e2 : DY w b b = 0:=by unfold DY;omega);rw [e1,e2] at hs
    omega
  · exact absurd rfl h
theorem Stp_symm (h : Cl w c) (a b : Int) : Stp w c a b = Stp w c b a:=by
  (have e1 : DX w b a = - DX w a b:=by unfold DX;omega);(have e2 : DY w b a = - DY w a b:=by unfold DY;omega);(have e3 : Sq2 w b a = Sq2 w a b:=by unfold Sq2;rw [e1,e2,Int.neg_mul_neg,Int.neg_mul_neg])
  have e4 : b + DX w b a = a + DY w a b * w:=by
    have:=XY w a;have:=XY w b;unfold DX DY;rw [Int.sub_mul]
    omega
  have e5 : b + DY w b a * w = a + DX w a b:=by
    have:=XY w a;have:=XY w b;unfold DX DY;rw [Int.sub_mul]
    omega
  unfold Stp;rw [e3,e4,e5];by_cases hf : Fr c a ∧ Fr c b
  · rw [if_pos hf,if_pos (show Fr c b ∧ Fr c a from ⟨hf.2,hf.1⟩)]
    have : (Sq2 w a b = 2 ∧ Fr c (a + DX w a b) ∧ Fr c (a + DY w a b * w)) ↔ (Sq2 w a b = 2 ∧ Fr c (a + DY w a b * w) ∧ Fr c (a + DX w a b)):=⟨fun x => ⟨x.1,x.2.2,x.2.1⟩,fun x => ⟨x.1,x.2.2,x.2.1⟩⟩;by_cases h1 : Sq2 w a b = 1
    · rw [if_pos h1,if_pos h1]
    · rw [if_neg h1,if_neg h1]
      simp only [this]
  · rw [if_neg hf,if_neg (show ¬ (Fr c b ∧ Fr c a) from fun x => hf ⟨x.2,x.1⟩)]
theorem mem_NB (h : Cl w c) {a n : Int} {q : Int × Int} (h0 : 0 ≤ a) (h1 : a < c.length) : (n,q) ∈ NB w c a ↔ (Stp w c a n = 1 ∧ q = (1,0)) ∨ (Stp w c a n = 2 ∧ q = (0,1)):=by
  unfold NB;rw [List.mem_filterMap]
  constructor
  · rintro ⟨m,hm,he⟩
    unfold st1 at he
    split at he
    · rename_i h2;cases he;exact .inl ⟨h2,rfl⟩
    · split at he
      · rename_i h2;cases he;exact .inr ⟨h2,rfl⟩
      · cases he
  · intro hh
    (have hne : Stp w c a n ≠ 0:=by omega);obtain ⟨f1,f2,f3,f4⟩:=Stp_facts hne;refine ⟨n,(mem_AR h h0 h1).2 ⟨f2.1,f2.2.1,f4,f3⟩,?_⟩;unfold st1
    rcases hh with ⟨e,rfl⟩ | ⟨e,rfl⟩
    · rw [if_pos e]
    · rw [if_neg (by omega),if_pos e]
/-- Out of the field, or on a wall, there is no step. -/
theorem NB_in {a n : Int} {q : Int × Int} (hm : (n,q) ∈ NB w c a) : Stp w c a n ≠ 0 ∧ ((Stp w c a n = 1 ∧ q = (1,0)) ∨ (Stp w c a n = 2 ∧ q = (0,1))):=by
  unfold NB at hm;obtain ⟨m,hm,he⟩:=List.mem_filterMap.1 hm;unfold st1 at he
  split at he
  · rename_i h2;cases he;exact ⟨by omega,.inl ⟨h2,rfl⟩⟩
  · split at he
    · rename_i h2;cases he;exact ⟨by omega,.inr ⟨h2,rfl⟩⟩
    · cases he
theorem NB_free {a n : Int} {q : Int × Int} (hm : (n,q) ∈ NB w c a) : Fr c a ∧ Fr c n ∧ n ≠ a:=by
  obtain ⟨f1,f2,_,f4⟩:=Stp_facts (NB_in hm).1;exact ⟨f1,f2,f4⟩
theorem NB_q {a n : Int} {q : Int × Int} (hm : (n,q) ∈ NB w c a) : q = (1,0) ∨ q = (0,1):=(NB_in hm).2.elim (fun x => .inl x.2) (fun x => .inr x.2)
theorem NB_symm (h : Cl w c) (a n : Int) (q : Int × Int) (hm : (n,q) ∈ NB w c a) : (a,q) ∈ NB w c n:=by
  obtain ⟨f1,f2,_⟩:=NB_free hm;have:=(mem_NB h f1.1 f1.2.1).1 hm;refine (mem_NB h f2.1 f2.2.1).2 ?_;rw [Stp_symm h n a];exact this
theorem NB_length (w : Int) (c : List Int) (a : Int) : (AR w c a).length ≤ 9 ∧ (NB w c a).length ≤ 9:=by
  have h1 : (AR w c a).length ≤ 9:=List.length_filterMap_le _ _;exact ⟨h1,Nat.le_trans (List.length_filterMap_le _ _) h1⟩
end
end Go.Proofs.Ytjcmlggdaajicaa.Pure
/-
Own text,by hand: what ShortestWay comes to.
-/
namespace Go.Proofs.Ytjcmlggdaajicaa.Pr
open Go.RowKit Go.Proofs.YtjcmlggdaajicaaW.PrintWords Go.Proofs.YtjcmlggdaajicaaW.PrintLast
/-- The way that a table tells. -/
noncomputable def wayOf (w : Int) (c : List Int) (D : Int → Option (Int × Int)) (from_ : Int) : List Int × Int × Int × Bool:=
  match D from_ with
  | none => ([],0,0,false)
  | some p => (Dij.trail (Pure.NB w c) D (p.1 + p.2).toNat from_,p.1,p.2,true)
def IsWay (w : Int) (c : List Int) (from_ to_ : Int) (r : List Int × Int × Int × Bool) : Prop:=
  (Pure.Cl w c ∧ Pure.Fr c from_ ∧ Pure.Fr c to_ ∧ ∃ D,Dij.End (Pure.NB w c) to_ (Pure.Us c.length) D ∧ r = wayOf w c D from_) ∨ (¬ (Pure.Cl w c ∧ Pure.Fr c from_ ∧ Pure.Fr c to_) ∧ r = ([],0,0,false))
theorem IsWay.unique {w : Int} {c : List Int} {from_ to_ : Int} {r r' : List Int × Int × Int × Bool} (h : IsWay w c from_ to_ r) (h' : IsWay w c from_ to_ r') : r = r':=by
  rcases h with ⟨a,b,d,D,e,f⟩ | ⟨a,b⟩
  · rcases h' with ⟨a',b',d',D',e',f'⟩ | ⟨a',b'⟩
    · have hu : (Pure.Us c.length).length < 5741:=by rw [Pure.Us_length];have:=a.n256;omega
      rw [f,f',e.unique hu e']
    · exact absurd ⟨a,b,d⟩ a'
  · rcases h' with ⟨a',b',d',D',e',f'⟩ | ⟨a',b'⟩
    · exact absurd ⟨a',b',d'⟩ a
    · rw [b,b']
open Classical in
noncomputable def impl_ShortestWay.f (a0_0 : Int) (l0_1 : List Int) (a1 : Int) (a2 : Int) : Option (List Int × Int × Int × Bool):=
  if h : l0_1.length ≤ 35184372088832 ∧ ∃ r,IsWay a0_0 l0_1 a1 a2 r then some (Classical.choose h.2) else none
theorem impl_ShortestWay.is {a0_0 : Int} {l0_1 : List Int} {a1 a2 : Int} {r : List Int × Int × Int × Bool} (h : impl_ShortestWay.f a0_0 l0_1 a1 a2 = some r) : l0_1.length ≤ 35184372088832 ∧ IsWay a0_0 l0_1 a1 a2 r:=by
  unfold impl_ShortestWay.f at h
  split at h
  · rename_i hh
    injection h with h
    subst h;exact ⟨hh.1,Classical.choose_spec hh.2⟩
  · cases h
theorem impl_ShortestWay.of {a0_0 : Int} {l0_1 : List Int} {a1 a2 : Int} {r : List Int × Int × Int × Bool} (hn : l0_1.length ≤ 35184372088832) (h : IsWay a0_0 l0_1 a1 a2 r) : impl_ShortestWay.f a0_0 l0_1 a1 a2 = some r:=by
  unfold impl_ShortestWay.f;rw [dif_pos ⟨hn,r,h⟩];exact congrArg some (IsWay.unique (Classical.choose_spec (⟨r,h⟩ : ∃ r,IsWay a0_0 l0_1 a1 a2 r)) h)
end Go.Proofs.Ytjcmlggdaajicaa.Pr
namespace Go.Proofs.Ytjcmlggdaajicaa.Pr
open Go.RowKit Go.Proofs.YtjcmlggdaajicaaW.PrintWords Go.Proofs.YtjcmlggdaajicaaW.PrintLast Go.Proofs.YtjcmlggdaajicaaW.PrintMore
attribute [local go_sem] max2_int min2_int max_two min_two max_three min_three max_four min_four
set_option linter.unusedVariables false
set_option linter.unusedSimpArgs false

/-! ### laws_eqWay: function 32 -/
def laws_eqWay.f (k : Nat) (l0_0 : List Int) (a0_1 : Int) (a0_2 : Int) (l1_0 : List Int) (a1_1 : Int) (a1_2 : Int) : Option (Bool):=(laws_eqIntS.f k l0_0 l1_0).bind fun t470 => (if t470 = true then (if a0_1 = a1_1 then (if a0_2 = a1_2 then (some true) else (some false)) else (some false)) else (some false))
/-! ### laws_markWay: function 33 -/
def laws_markWay.f (k : Nat) (l0_0 : List Int) (a0_1 : Int) (a0_2 : Int) (a1 : Int) : Option (Int × List Int):=(laws_markIntS.f k l0_0 a1).bind fun bt472 => (some (bt472.1,bt472.2))
/-! ### laws_heldIntS: function 23 -/
def laws_heldIntS.l0 : Nat → List Int → Int → Int → Option (Int)
  | 0,_,_,_ => none
  | k + 1,x0,x1,x5 => if x5 < (x0.length : Int) then (if 0 ≤ x5 then (if (rd x0 x5) = x1 then (laws_heldIntS.l0 k x0 (wrap64 (x1 + 1)) (wrap64 (x5 + 1))) else (some (-1))) else (none)) else (some x1)
def laws_heldIntS.f (k : Nat) (l0 : List Int) (a1 : Int) : Option (Int):=laws_heldIntS.l0 k l0 a1 0
/-! ### laws_heldWay: function 34 -/
def laws_heldWay.f (k : Nat) (l0_0 : List Int) (a0_1 : Int) (a0_2 : Int) (a1 : Int) : Option (Int):=(laws_heldIntS.f k l0_0 a1).bind fun t476 => (if t476 < 0 then (some (-1)) else (some t476))
/-! ### laws_FnExactShortestWay: function 8 -/
mutual
noncomputable def laws_FnExactShortestWay.j0 : Nat → Int → Int → Bool → Bool → Bool → Int → List Int → List Int → Int → Int → Int → List Int → List Int → Int → Int → Option (Bool)
  | 0,_,_,_,_,_,_,_,_,_,_,_,_,_,_,_ => none
  | k + 1,x1,x2,x9,x12,x48,x478000,x478001,x490000,x490001,x490002,x495000,x495001,x502000,x502001,x502002 => if x48 = true then (some false) else ((laws_toCells.f k x478000 x478001).bind fun bt503 => ((laws_eqCells.f k x495000 x495001 bt503.1 bt503.2).bind fun t507 => (if t507 = true then ((laws_markCells.f k x495000 x495001 1).bind fun bt508 => (if bt508.1 < 0 then (laws_FnExactShortestWay.j1 k x1 x2 x9 true x478000 x478001 x490000 x490001 x490002 x502000 x502001 x502002) else ((laws_eqWay.f k x502000 x502001 x502002 x490000 x490001 x490002).bind fun t510 => (if t510 = true then (laws_FnExactShortestWay.j1 k x1 x2 x9 (x12 != x9) x478000 x478001 x490000 x490001 x490002 x502000 x502001 x502002) else (laws_FnExactShortestWay.j1 k x1 x2 x9 true x478000 x478001 x490000 x490001 x490002 x502000 x502001 x502002))))) else (some false))))
noncomputable def laws_FnExactShortestWay.j1 : Nat → Int → Int → Bool → Bool → Int → List Int → List Int → Int → Int → List Int → Int → Int → Option (Bool)
  | 0,_,_,_,_,_,_,_,_,_,_,_,_ => none
  | k + 1,x1,x2,x9,x69,x478000,x478001,x490000,x490001,x490002,x502000,x502001,x502002 => if x69 = true then (some false) else ((laws_markWay.f k x502000 x502001 x502002 1).bind fun bt511 => ((laws_heldWay.f k bt511.2 x502001 x502002 1).bind fun t513 => (if t513 < 0 then (some false) else (if t513 = bt511.1 then ((laws_toCells.f k x478000 x478001).bind fun bt514 => ((impl_ShortestWay.f bt514.1 bt514.2 x1 x2).bind fun bt518 => ((laws_eqWay.f k bt518.1 bt518.2.1 bt518.2.2.1 x490000 x490001 x490002).bind fun t525 => (if t525 = true then (laws_FnExactShortestWay.j2 k bt511.1 (bt518.2.2.2 != x9) bt511.2 x502001 x502002) else (laws_FnExactShortestWay.j2 k bt511.1 true bt511.2 x502001 x502002))))) else (some false)))))
noncomputable def laws_FnExactShortestWay.j2 : Nat → Int → Bool → List Int → Int → Int → Option (Bool)
  | 0,_,_,_,_,_ => none
  | k + 1,x14,x97,x502000,x502001,x502002 => if x97 = true then (some false) else ((laws_heldWay.f k x502000 x502001 x502002 1).bind fun t526 => (if t526 < 0 then (some false) else (if t526 = x14 then (some true) else (some false))))
end
noncomputable def laws_FnExactShortestWay.f (k : Nat) (a0_0 : Int) (l0_1 : List Int) (a1 : Int) (a2 : Int) : Option (Bool):=(laws_szCells.f a0_0 l0_1 1048576).bind fun t478 => (if t478 < 0 then (some true) else ((laws_toCells.f k a0_0 l0_1).bind fun bt479 => ((spec_ShortestWay.f k bt479.1 bt479.2 a1 a2).bind fun bt483 => ((laws_toCells.f k a0_0 l0_1).bind fun bt490 => ((impl_ShortestWay.f bt490.1 bt490.2 a1 a2).bind fun bt495 => ((laws_eqWay.f k bt495.1 bt495.2.1 bt495.2.2.1 bt483.1 bt483.2.1 bt483.2.2.1).bind fun t502 => (if t502 = true then (laws_FnExactShortestWay.j0 k a1 a2 bt483.2.2.2 bt495.2.2.2 (bt495.2.2.2 != bt483.2.2.2) a0_0 l0_1 bt483.1 bt483.2.1 bt483.2.2.1 bt490.1 bt490.2 bt495.1 bt495.2.1 bt495.2.2.1) else (laws_FnExactShortestWay.j0 k a1 a2 bt483.2.2.2 bt495.2.2.2 true a0_0 l0_1 bt483.1 bt483.2.1 bt483.2.2.1 bt490.1 bt490.2 bt495.1 bt495.2.1 bt495.2.2.1))))))))
/-! ### spec_Clear: function 11 -/
/-! ### impl_WayCost: function 17 -/
/-! ### impl_PulledWay: function 25 -/
/-! ### spec_DrawShortestWay: function 35 -/
/-! ### spec_l1Cur_stroll: function 53 -/
/-! ### spec_Strolled: function 36 -/
/-! ### impl_between: function 54 -/
/-! ### impl_CmpCost: function 37 -/
/-! ### laws_FnWays: function 9 -/
end Go.Proofs.Ytjcmlggdaajicaa.Pr
namespace Go.Proofs.Ytjcmlggdaajicaa.Pr
open Go.RowKit Go.Proofs.YtjcmlggdaajicaaW.PrintWords Go.Proofs.YtjcmlggdaajicaaW.PrintLast Go.Proofs.YtjcmlggdaajicaaW.PrintMore
attribute [local go_sem] max2_int min2_int max_two min_two max_three min_three max_four min_four
set_option linter.unusedVariables false
set_option linter.unusedSimpArgs false

set_option maxHeartbeats 8000000 in
set_option maxRecDepth 100000 in
theorem laws_eqWay.calls (k : Nat) (z5 : Option Addr) (c0_0 : Nat) (z4 : List Int) (a0_1 : Int) (a0_2 : Int) (z9 : Option Addr) (c1_0 : Nat) (z6 : List Int) (a1_1 : Int) (a1_2 : Int) (r : Bool) (w : World) (hr0_0 : Kd.C (Kd.int .i64) w z5 z4.length z4) (hc0_0 : z4.length ≤ c0_0) (hr1_0 : Kd.C (Kd.int .i64) w z9 z6.length z6) (hc1_0 : z6.length ≤ c1_0) (h : laws_eqWay.f k z4 a0_1 a0_2 z6 a1_1 a1_2 = some r) :
   Calls Try.prog 32 #[.agg #[.slice z5 z4.length c0_0,.int .i64 a0_1,.int .i64 a0_2],.agg #[.slice z9 z6.length c1_0,.int .i64 a1_1,.int .i64 a1_2]] w fun e w' => e = .returned (.bool r) ∧ Below w.heap.size w w':=by
  have ze1:=Try.underlying50;have j4:=Aside0.mk hr0_0;have j5:=Aside0.mk hc0_0;clear hr0_0 hc0_0;have j6:=Aside0.mk hr1_0;have j7:=Aside0.mk hc1_0;clear hr1_0 hc1_0;have HB:=ak (Below.refl w.heap.size w);have H : ((laws_eqIntS.f k z4 z6).bind fun j8 => (if j8 = true then (if a0_1 = a1_1 then (if a0_2 = a1_2 then (some true) else (some false)) else (some false)) else (some false))) = some r:=h;clear h;replace H:=Option.bind_eq_some_iff.mp H;obtain ⟨j8,A30,H⟩:=H;replace H : (if j8 = true then (if a0_1 = a1_1 then (if a0_2 = a1_2 then (some true) else (some false)) else (some false)) else (some false)) = some r:=H;have A3:=Aside0.mk A30;clear A30;by_cases c4 : j8 = true
  ·subst c4
   rw [if_pos rfl] at H;by_cases c5 : a0_1 = a1_1
   ·rw [if_pos c5] at H
    have r3 : (a0_1 == a1_1) = true:=beq_iff_eq.mpr c5;have r4 : (a0_1 != a1_1) = false:=bne_eq_false_iff_eq.mpr c5;clear c5;by_cases c6 : a0_2 = a1_2
    ·rw [if_pos c6] at H
     have r5 : (a0_2 == a1_2) = true:=beq_iff_eq.mpr c6;have r6 : (a0_2 != a1_2) = false:=bne_eq_false_iff_eq.mpr c6;clear c6
     obtain rfl:=Option.some.inj H
     go_enter Try.func32,Try.ntmps32;go_wp2_with (first | ((with_reducible refine gate_dst (N:=2) rfl ?_);refine box_event ?hg (N:=2) ?hd (cs:=#[.slice z5 z4.length c0_0,.int .i64 a0_1,.int .i64 a0_2]) (t:=50) ?hr ?_;(case hd => rfl);(case hg => rfl);(case hr => first | (go_simp;done) | (go_simp;rfl));intro z1 hg w7 hbox hb;have z0:=ak (hbox);have j9 : Aside0 (w.heap.size ≤ z1):=gz_;have r0 : Aside0 (w.heap.size ≤ z1):=gz_;replace HB:=ak (below_step hb_ hb);clear hb hbox hg) | ((with_reducible refine gate_dst (N:=3) rfl ?_);refine box_event ?hg (N:=3) ?hd (cs:=#[.slice z9 z6.length c1_0,.int .i64 a1_1,.int .i64 a1_2]) (t:=50) ?hr ?_;(case hd => rfl);(case hg => rfl);(case hr => first | (go_simp;done) | (go_simp;rfl));intro z2 hg w8 hbox hb;have z3:=ak (hbox);have r1 : Aside0 (w.heap.size ≤ z2):=gz_;have r2 : Aside0 (w.heap.size ≤ z2):=gz_;have z7:=ak ((by rw [hg];exact Nat.ne_of_lt (blk_lt (g:=z1) (o:=.cells #[.slice z5 z4.length c0_0,.int .i64 a0_1,.int .i64 a0_2] 50 (0,0)) (bk_ z0.out)) : z1 ≠ z2));have z8:=ak ((by rw [hg];exact Nat.ne_of_gt (blk_lt (g:=z1) (o:=.cells #[.slice z5 z4.length c0_0,.int .i64 a0_1,.int .i64 a0_2] 50 (0,0)) (bk_ z0.out)) : z2 ≠ z1));replace z0:=bb_ z0 hb;replace HB:=ak (below_step hb_ hb);clear hb hbox hg;have ze2:=z7.out;have ze3:=z8.out;have r7:=b30 z0;have r8:=b31 z0;have r9:=b32 z0;have m0:=blk_frozen z0.out 0;have m1:=blk_frozen z0.out 1;have m2:=blk_frozen z0.out 2;have m3:=b30 z3;have m4:=b31 z3;have m5:=b32 z3;have m6:=blk_frozen z3.out 0;have m7:=blk_frozen z3.out 1;have m8:=blk_frozen z3.out 2) | ((with_reducible refine gate_callee (f:=18) rfl ?_);refine goesL_ (some 9) rfl rfl Try.func18 (by kernel_rfl) rfl #[.slice z5 z4.length c0_0,.slice z9 z6.length c1_0] rfl ls_ ?_;(with_reducible refine (laws_eqIntS.calls k _ _ z4 _ _ z6 true _ ?j0 ?j1 ?j2 ?j3 A3.out).mono ?_);(case j0 => exact cb_ j4.out);(case j1 => exact j5.out);(case j2 => exact cb_ j6.out);(case j3 => exact j7.out);rintro e w' ⟨rfl,⟨nd,rfl⟩⟩;refine ⟨_,rfl,?_⟩));go_ret;exact ⟨er_,hb_⟩
    ·rw [if_neg c6] at H
     have r5 : (a0_2 == a1_2) = false:=beq_eq_false_iff_ne.mpr c6;have r6 : (a0_2 != a1_2) = true:=bne_iff_ne.mpr c6
     obtain rfl:=Option.some.inj H
     go_enter Try.func32,Try.ntmps32;go_wp2_with (first | ((with_reducible refine gate_dst (N:=2) rfl ?_);refine box_event ?hg (N:=2) ?hd (cs:=#[.slice z5 z4.length c0_0,.int .i64 a0_1,.int .i64 a0_2]) (t:=50) ?hr ?_;(case hd => rfl);(case hg => rfl);(case hr => first | (go_simp;done) | (go_simp;rfl));intro z1 hg w12 hbox hb;have z0:=ak (hbox);have j9 : Aside0 (w.heap.size ≤ z1):=gz_;have r0 : Aside0 (w.heap.size ≤ z1):=gz_;replace HB:=ak (below_step hb_ hb);clear hb hbox hg) | ((with_reducible refine gate_dst (N:=3) rfl ?_);refine box_event ?hg (N:=3) ?hd (cs:=#[.slice z9 z6.length c1_0,.int .i64 a1_1,.int .i64 a1_2]) (t:=50) ?hr ?_;(case hd => rfl);(case hg => rfl);(case hr => first | (go_simp;done) | (go_simp;rfl));intro z2 hg w13 hbox hb;have z3:=ak (hbox);have r1 : Aside0 (w.heap.size ≤ z2):=gz_;have r2 : Aside0 (w.heap.size ≤ z2):=gz_;have z7:=ak ((by rw [hg];exact Nat.ne_of_lt (blk_lt (g:=z1) (o:=.cells #[.slice z5 z4.length c0_0,.int .i64 a0_1,.int .i64 a0_2] 50 (0,0)) (bk_ z0.out)) : z1 ≠ z2));have z8:=ak ((by rw [hg];exact Nat.ne_of_gt (blk_lt (g:=z1) (o:=.cells #[.slice z5 z4.length c0_0,.int .i64 a0_1,.int .i64 a0_2] 50 (0,0)) (bk_ z0.out)) : z2 ≠ z1));replace z0:=bb_ z0 hb;replace HB:=ak (below_step hb_ hb);clear hb hbox hg;have zd5:=z7.out;have zd6:=z8.out;have m9:=b30 z0;have za0:=b31 z0;have za1:=b32 z0;have za2:=blk_frozen z0.out 0;have za3:=blk_frozen z0.out 1;have za4:=blk_frozen z0.out 2;have za5:=b30 z3;have za6:=b31 z3;have za7:=b32 z3;have za8:=blk_frozen z3.out 0;have za9:=blk_frozen z3.out 1;have zb0:=blk_frozen z3.out 2) | ((with_reducible refine gate_callee (f:=18) rfl ?_);refine goesL_ (some 9) rfl rfl Try.func18 (by kernel_rfl) rfl #[.slice z5 z4.length c0_0,.slice z9 z6.length c1_0] rfl ls_ ?_;(with_reducible refine (laws_eqIntS.calls k _ _ z4 _ _ z6 true _ ?j0 ?j1 ?j2 ?j3 A3.out).mono ?_);(case j0 => exact cb_ j4.out);(case j1 => exact j5.out);(case j2 => exact cb_ j6.out);(case j3 => exact j7.out);rintro e w' ⟨rfl,⟨nd,rfl⟩⟩;refine ⟨_,rfl,?_⟩));go_ret;exact ⟨er_,hb_⟩
   ·rw [if_neg c5] at H
    have r3 : (a0_1 == a1_1) = false:=beq_eq_false_iff_ne.mpr c5;have r4 : (a0_1 != a1_1) = true:=bne_iff_ne.mpr c5
    obtain rfl:=Option.some.inj H
    go_enter Try.func32,Try.ntmps32;go_wp2_with (first | ((with_reducible refine gate_dst (N:=2) rfl ?_);refine box_event ?hg (N:=2) ?hd (cs:=#[.slice z5 z4.length c0_0,.int .i64 a0_1,.int .i64 a0_2]) (t:=50) ?hr ?_;(case hd => rfl);(case hg => rfl);(case hr => first | (go_simp;done) | (go_simp;rfl));intro z1 hg w17 hbox hb;have z0:=ak (hbox);have j9 : Aside0 (w.heap.size ≤ z1):=gz_;have r0 : Aside0 (w.heap.size ≤ z1):=gz_;replace HB:=ak (below_step hb_ hb);clear hb hbox hg) | ((with_reducible refine gate_dst (N:=3) rfl ?_);refine box_event ?hg (N:=3) ?hd (cs:=#[.slice z9 z6.length c1_0,.int .i64 a1_1,.int .i64 a1_2]) (t:=50) ?hr ?_;(case hd => rfl);(case hg => rfl);(case hr => first | (go_simp;done) | (go_simp;rfl));intro z2 hg w18 hbox hb;have z3:=ak (hbox);have r1 : Aside0 (w.heap.size ≤ z2):=gz_;have r2 : Aside0 (w.heap.size ≤ z2):=gz_;have z7:=ak ((by rw [hg];exact Nat.ne_of_lt (blk_lt (g:=z1) (o:=.cells #[.slice z5 z4.length c0_0,.int .i64 a0_1,.int .i64 a0_2] 50 (0,0)) (bk_ z0.out)) : z1 ≠ z2));have z8:=ak ((by rw [hg];exact Nat.ne_of_gt (blk_lt (g:=z1) (o:=.cells #[.slice z5 z4.length c0_0,.int .i64 a0_1,.int .i64 a0_2] 50 (0,0)) (bk_ z0.out)) : z2 ≠ z1));replace z0:=bb_ z0 hb;replace HB:=ak (below_step hb_ hb);clear hb hbox hg;have zd7:=z7.out;have zd8:=z8.out;have zb1:=b30 z0;have zb2:=b31 z0;have zb3:=b32 z0;have zb4:=blk_frozen z0.out 0;have zb5:=blk_frozen z0.out 1;have zb6:=blk_frozen z0.out 2;have zb7:=b30 z3;have zb8:=b31 z3;have zb9:=b32 z3;have zc0:=blk_frozen z3.out 0;have zc1:=blk_frozen z3.out 1;have zc2:=blk_frozen z3.out 2) | ((with_reducible refine gate_callee (f:=18) rfl ?_);refine goesL_ (some 9) rfl rfl Try.func18 (by kernel_rfl) rfl #[.slice z5 z4.length c0_0,.slice z9 z6.length c1_0] rfl ls_ ?_;(with_reducible refine (laws_eqIntS.calls k _ _ z4 _ _ z6 true _ ?j0 ?j1 ?j2 ?j3 A3.out).mono ?_);(case j0 => exact cb_ j4.out);(case j1 => exact j5.out);(case j2 => exact cb_ j6.out);(case j3 => exact j7.out);rintro e w' ⟨rfl,⟨nd,rfl⟩⟩;refine ⟨_,rfl,?_⟩));go_ret;exact ⟨er_,hb_⟩
  ·replace c4:=Bool.eq_false_iff.mpr c4
   subst c4;rw [if_neg (show ¬ (false = true) by decide)] at H
   obtain rfl:=Option.some.inj H
   go_enter Try.func32,Try.ntmps32;go_wp2_with (first | ((with_reducible refine gate_dst (N:=2) rfl ?_);refine box_event ?hg (N:=2) ?hd (cs:=#[.slice z5 z4.length c0_0,.int .i64 a0_1,.int .i64 a0_2]) (t:=50) ?hr ?_;(case hd => rfl);(case hg => rfl);(case hr => first | (go_simp;done) | (go_simp;rfl));intro z1 hg w22 hbox hb;have z0:=ak (hbox);have j9 : Aside0 (w.heap.size ≤ z1):=gz_;have r0 : Aside0 (w.heap.size ≤ z1):=gz_;replace HB:=ak (below_step hb_ hb);clear hb hbox hg) | ((with_reducible refine gate_dst (N:=3) rfl ?_);refine box_event ?hg (N:=3) ?hd (cs:=#[.slice z9 z6.length c1_0,.int .i64 a1_1,.int .i64 a1_2]) (t:=50) ?hr ?_;(case hd => rfl);(case hg => rfl);(case hr => first | (go_simp;done) | (go_simp;rfl));intro z2 hg w23 hbox hb;have z3:=ak (hbox);have r1 : Aside0 (w.heap.size ≤ z2):=gz_;have r2 : Aside0 (w.heap.size ≤ z2):=gz_;have z7:=ak ((by rw [hg];exact Nat.ne_of_lt (blk_lt (g:=z1) (o:=.cells #[.slice z5 z4.length c0_0,.int .i64 a0_1,.int .i64 a0_2] 50 (0,0)) (bk_ z0.out)) : z1 ≠ z2));have z8:=ak ((by rw [hg];exact Nat.ne_of_gt (blk_lt (g:=z1) (o:=.cells #[.slice z5 z4.length c0_0,.int .i64 a0_1,.int .i64 a0_2] 50 (0,0)) (bk_ z0.out)) : z2 ≠ z1));replace z0:=bb_ z0 hb;replace HB:=ak (below_step hb_ hb);clear hb hbox hg;have zd9:=z7.out;have ze0:=z8.out;have zc3:=b30 z0;have zc4:=b31 z0;have zc5:=b32 z0;have zc6:=blk_frozen z0.out 0;have zc7:=blk_frozen z0.out 1;have zc8:=blk_frozen z0.out 2;have zc9:=b30 z3;have zd0:=b31 z3;have zd1:=b32 z3;have zd2:=blk_frozen z3.out 0;have zd3:=blk_frozen z3.out 1;have zd4:=blk_frozen z3.out 2) | ((with_reducible refine gate_callee (f:=18) rfl ?_);refine goesL_ (some 9) rfl rfl Try.func18 (by kernel_rfl) rfl #[.slice z5 z4.length c0_0,.slice z9 z6.length c1_0] rfl ls_ ?_;(with_reducible refine (laws_eqIntS.calls k _ _ z4 _ _ z6 false _ ?j0 ?j1 ?j2 ?j3 A3.out).mono ?_);(case j0 => exact cb_ j4.out);(case j1 => exact j5.out);(case j2 => exact cb_ j6.out);(case j3 => exact j7.out);rintro e w' ⟨rfl,⟨nd,rfl⟩⟩;refine ⟨_,rfl,?_⟩));go_ret;exact ⟨er_,hb_⟩

set_option maxHeartbeats 8000000 in
set_option maxRecDepth 100000 in
theorem laws_markWay.calls (k : Nat) (P0_0_ : Nat → Prop) (z3 : Value) (z2 : List Int) (a0_1 : Int) (a0_2 : Int) (a1 : Int) (r1 : Int) (r2 : List Int) (w0 w : World) (hB : Below w0.heap.size w0 w) (z8 : Kd.R (Kd.int .i64) 3 w w0.heap.size P0_0_ z3 z2) (h : laws_markWay.f k z2 a0_1 a0_2 a1 = some (r1,r2)) :
   Calls Try.prog 33 #[.agg #[z3,.int .i64 a0_1,.int .i64 a0_2],.int .i64 a1] w fun e w' => e = .returned (.int .i64 r1) ∧ Kd.R (Kd.int .i64) 3 w' w0.heap.size (fun k_ => (P0_0_ k_ ∨ w.heap.size ≤ k_)) z3 r2 ∧ Below w0.heap.size w0 w' ∧ Kept w w' (fun k_ => P0_0_ k_):=by
  have j8:=Try.underlying50;have z0:=ak (show Kd.R (Kd.int .i64) 3 w w0.heap.size (fun k_ => (P0_0_ k_ ∨ w.heap.size ≤ k_)) z3 z2 from Kd.R_mono z8 (fun k_ hk => (.inl hk)));have HK:=ak (Kept.refl w (fun k_ => P0_0_ k_));have HW0:=Aside0.mk hB.size;have HB:=Aside0.mk hB;clear hB;have H : ((laws_markIntS.f k z2 a1).bind fun bt472 => (some (bt472.1,bt472.2))) = some (r1,r2):=h;clear h;replace H:=Option.bind_eq_some_iff.mp H;obtain ⟨⟨z6,z7⟩,A30,H⟩:=H;replace H : (some (z6,z7)) = some (r1,r2):=H;have A3:=Aside0.mk A30;clear A30;simp only [Option.some.injEq,Prod.mk.injEq] at H;obtain ⟨rfl,rfl⟩:=H;obtain ⟨Ao4,co4,eo4⟩:=Kd.R_slice z0.out;subst eo4;go_enter Try.func33,Try.ntmps33;go_wp2_with (first | ((with_reducible refine gate_dst (N:=2) rfl ?_);refine box_event ?hg (N:=2) ?hd (cs:=#[.slice Ao4 z2.length co4,.int .i64 a0_1,.int .i64 a0_2]) (t:=50) ?hr ?_;(case hd => rfl);(case hg => rfl);(case hr => first | (go_simp;done) | (go_simp;rfl));intro z4 hg w5 hbox hb;replace z0:=ak (Kd.R_below (ra_ z0.out) hb);have z1:=ak (hbox);have z5:=ak ((by rw [hg];exact (by first | exact HK.out.1 | exact (show Kept w _ (fun k_ => P0_0_ k_) from by repeat (first | (with_reducible first | exact HK.out | apply Kept.alloc | apply Kept.drewN | apply Kept.drew) | exact HK.out)).1) : w.heap.size ≤ z4));replace HK:=ak (Kept.below (S:=(fun k_ => P0_0_ k_)) (by repeat (first | (with_reducible first | exact HK.out | apply Kept.alloc | apply Kept.drewN | apply Kept.drew) | exact HK.out)) hb);have z9 : Aside0 (w0.heap.size ≤ z4):=gz_;replace HB:=ak (below_step hb_ hb);clear hb hbox hg;have j2:=b30 z1;have j3:=b31 z1;have j4:=b32 z1;have j5:=blk_frozen z1.out 0;have j6:=blk_frozen z1.out 1;have j7:=blk_frozen z1.out 2) | ((with_reducible refine gate_callee (f:=22) rfl ?_);refine goesL_ (some 8) rfl rfl Try.func22 (by kernel_rfl) rfl #[.slice Ao4 z2.length co4,.int .i64 a1] rfl ls_ ?_;(with_reducible refine (laws_markIntS.calls k (fun k_ => some k_ = (.slice Ao4 z2.length co4 : Value).ownBlock) (.slice Ao4 z2.length co4) z2 a1 z6 z7 w0 _ ?j0 ?j1 A3.out).mono ?_);(case j0 => repeat (first | (with_reducible first | exact HB.out | apply below_alloc | apply pw_below_drewN | apply below_drew1 | refine below_set ?_ z9.out) | exact HB.out));(case j1 => exact Kd.R_tight rfl z0.out);rintro e w7 ⟨rfl,hy0,hb,hkp⟩;refine ⟨_,rfl,?_⟩;replace z1:=ak (blk_kept (bk_ z1.out) hkp (fun hs_ => (fun e_ => (Kd.R_ne z0.out z1.out (by decide)) e_) hs_));replace HK:=ak (Kept.then_ (S:=(fun k_ => P0_0_ k_)) (by repeat (first | (with_reducible first | exact HK.out | apply Kept.alloc | apply Kept.drewN | apply Kept.drew | refine Kept.setCell ?_ (.inr z5.out) _) | exact HK.out)) hkp (fun k_ hs_ => (fun e_ => (z0.out.1 k_ e_.symm)) hs_));replace z0:=ak (Kd.R_reok rfl hy0 (fun k_ e_ => z0.out.1 k_ e_));replace HB:=ak (hb);(try clear hb);(try clear hkp);(try clear hy0)));go_ret;exact ⟨er_,by (with_reducible repeat (first | apply Kd.R_alloc | apply Kd.R_drewN | apply Kd.R_drew));exact z0.out,hb_,by repeat (first | (with_reducible first | exact HK.out | apply Kept.alloc | apply Kept.drewN | apply Kept.drew | refine Kept.setCell ?_ (.inr z5.out) _) | exact HK.out)⟩

set_option maxHeartbeats 8000000 in
set_option maxRecDepth 100000 in
theorem laws_heldIntS.calls (k : Nat) (A0 : Option Addr) (c0 : Nat) (l0 : List Int) (a1 : Int) (r : Int) (w : World) (hr0 : Kd.C (Kd.int .i64) w A0 l0.length l0) (hc0 : l0.length ≤ c0) (h : laws_heldIntS.f k l0 a1 = some r) :
   Calls Try.prog 23 #[.slice A0 l0.length c0,.int .i64 a1] w fun e w' => e = .returned (.int .i64 r) ∧ Drawn0 w w':=by
  have HR0:=Aside0.mk hr0;have HC0:=Aside0.mk hc0;clear hr0 hc0;have H : (laws_heldIntS.l0 k l0 a1 0) = some r:=h;clear h;have H':=Aside0.mk H;clear H;go_enter Try.func23,Try.ntmps23;go_wp2
  go_loopg [1,5] k (fun kq v1 v5 w' => ∃ (z1 : Int) (z0 : Int),v1 = .int .i64 z1 ∧ v5 = .int .i64 z0 ∧ Aside0 (laws_heldIntS.l0 kq l0 z1 z0 = some r) ∧ Aside0 (kq ≤ k) ∧ Drawn0 w w')
  case atStart => exact ⟨(a1),(0),es_,es_,H',⟨Nat.le_refl _⟩,by repeat (first | exact Drawn0.refl _ | apply Drawn0.step)⟩
  case round =>
   clear H';obtain ⟨z1,z0,rfl,rfl,HA,HK1,⟨m1,rfl⟩⟩:=hrel
   cases gk with
   | zero => exact absurd HA.out (by simp [laws_heldIntS.l0])
   | succ k1 =>
    have H:=HA.out;clear HA;simp only [laws_heldIntS.l0] at H;by_cases c3 : z0 < (l0.length : Int)
    ·rw [if_pos c3] at H
     have z6 : decide (z0 < (l0.length : Int)) = true:=decide_eq_true c3;clear c3;by_cases c4 : 0 ≤ z0
     ·rw [if_pos c4] at H
      have z9 : decide (0 ≤ z0) = true:=decide_eq_true c4;clear c4;by_cases c5 : (rd l0 z0) = z1
      ·rw [if_pos c5] at H
       have z7 : ((rd l0 z0) == z1) = true:=beq_iff_eq.mpr c5;have z8 : ((rd l0 z0) != z1) = false:=bne_eq_false_iff_eq.mpr c5;clear c5;have H':=Aside0.mk H;clear H;have z2 : 0 ≤ (z0 : Int):=of_decide_eq_true as_;have z3 : z0 < (l0.length : Int):=of_decide_eq_true as_;obtain ⟨z5,e474,z4⟩:=Kd.at_int HR0.out z0 z2 z3;cases e474;replace z2:=eq_true z2;replace z3:=eq_true z3;go_wp2;go_roundg k1
       case measure => have:=HK1.out;omega
       case rel => exact ⟨(wrap64 (z1 + 1)),(wrap64 (z0 + 1)),es_,es_,H',⟨by have:=HK1.out;omega⟩,by repeat (first | exact Drawn0.refl _ | apply Drawn0.step)⟩
      ·rw [if_neg c5] at H
       have z7 : ((rd l0 z0) == z1) = false:=beq_eq_false_iff_ne.mpr c5;have z8 : ((rd l0 z0) != z1) = true:=bne_iff_ne.mpr c5
       obtain rfl:=Option.some.inj H
       have z2 : 0 ≤ (z0 : Int):=of_decide_eq_true as_;have z3 : z0 < (l0.length : Int):=of_decide_eq_true as_;obtain ⟨z5,e474,z4⟩:=Kd.at_int HR0.out z0 z2 z3;cases e474;replace z2:=eq_true z2;replace z3:=eq_true z3;go_wp2;go_ret;exact ⟨es_,by repeat (first | exact Drawn0.refl _ | apply Drawn0.step)⟩
     ·rw [if_neg c4] at H
      exact absurd H (by simp)
    ·rw [if_neg c3] at H
     have z6 : decide (z0 < (l0.length : Int)) = false:=decide_eq_false c3;clear c3
     obtain rfl:=Option.some.inj H
     go_wp2;go_ret;exact ⟨es_,by repeat (first | exact Drawn0.refl _ | apply Drawn0.step)⟩

set_option maxHeartbeats 8000000 in
set_option maxRecDepth 100000 in
theorem laws_heldWay.calls (k : Nat) (z4 : Option Addr) (c0_0 : Nat) (z1 : List Int) (a0_1 : Int) (a0_2 : Int) (a1 : Int) (r : Int) (w : World) (hr0_0 : Kd.C (Kd.int .i64) w z4 z1.length z1) (hc0_0 : z1.length ≤ c0_0) (h : laws_heldWay.f k z1 a0_1 a0_2 a1 = some r) :
   Calls Try.prog 34 #[.agg #[.slice z4 z1.length c0_0,.int .i64 a0_1,.int .i64 a0_2],.int .i64 a1] w fun e w' => e = .returned (.int .i64 r) ∧ Below w.heap.size w w':=by
  have r4:=Try.underlying50;have z7:=Aside0.mk hr0_0;have z8:=Aside0.mk hc0_0;clear hr0_0 hc0_0;have HB:=ak (Below.refl w.heap.size w);have H : ((laws_heldIntS.f k z1 a1).bind fun z3 => (if z3 < 0 then (some (-1)) else (some z3))) = some r:=h;clear h;replace H:=Option.bind_eq_some_iff.mp H;obtain ⟨z3,A30,H⟩:=H;replace H : (if z3 < 0 then (some (-1)) else (some z3)) = some r:=H;have A3:=Aside0.mk A30;clear A30;by_cases c4 : z3 < 0
  ·rw [if_pos c4] at H
   have j1 : decide (z3 < 0) = true:=decide_eq_true c4;clear c4
   obtain rfl:=Option.some.inj H
   go_enter Try.func34,Try.ntmps34;go_wp2_with (first | ((with_reducible refine gate_dst (N:=2) rfl ?_);refine box_event ?hg (N:=2) ?hd (cs:=#[.slice z4 z1.length c0_0,.int .i64 a0_1,.int .i64 a0_2]) (t:=50) ?hr ?_;(case hd => rfl);(case hg => rfl);(case hr => first | (go_simp;done) | (go_simp;rfl));intro z2 hg w5 hbox hb;have z0:=ak (hbox);have z9 : Aside0 (w.heap.size ≤ z2):=gz_;have j0 : Aside0 (w.heap.size ≤ z2):=gz_;replace HB:=ak (below_step hb_ hb);clear hb hbox hg;have j2:=b30 z0;have j3:=b31 z0;have j4:=b32 z0;have j5:=blk_frozen z0.out 0;have j6:=blk_frozen z0.out 1;have j7:=blk_frozen z0.out 2) | ((with_reducible refine gate_callee (f:=23) rfl ?_);refine goesL_ (some 8) rfl rfl Try.func23 (by kernel_rfl) rfl #[.slice z4 z1.length c0_0,.int .i64 a1] rfl ls_ ?_;(with_reducible refine (laws_heldIntS.calls k _ _ z1 a1 z3 _ ?z5 ?z6 A3.out).mono ?_);(case z5 => exact cb_ z7.out);(case z6 => exact z8.out);rintro e w' ⟨rfl,⟨nd,rfl⟩⟩;refine ⟨_,rfl,?_⟩));go_ret;exact ⟨er_,hb_⟩
  ·rw [if_neg c4] at H
   have j1 : decide (z3 < 0) = false:=decide_eq_false c4;clear c4
   obtain rfl:=Option.some.inj H
   go_enter Try.func34,Try.ntmps34;go_wp2_with (first | ((with_reducible refine gate_dst (N:=2) rfl ?_);refine box_event ?hg (N:=2) ?hd (cs:=#[.slice z4 z1.length c0_0,.int .i64 a0_1,.int .i64 a0_2]) (t:=50) ?hr ?_;(case hd => rfl);(case hg => rfl);(case hr => first | (go_simp;done) | (go_simp;rfl));intro z2 hg w7 hbox hb;have z0:=ak (hbox);have z9 : Aside0 (w.heap.size ≤ z2):=gz_;have j0 : Aside0 (w.heap.size ≤ z2):=gz_;replace HB:=ak (below_step hb_ hb);clear hb hbox hg;have j8:=b30 z0;have j9:=b31 z0;have r0:=b32 z0;have r1:=blk_frozen z0.out 0;have r2:=blk_frozen z0.out 1;have r3:=blk_frozen z0.out 2) | ((with_reducible refine gate_callee (f:=23) rfl ?_);refine goesL_ (some 8) rfl rfl Try.func23 (by kernel_rfl) rfl #[.slice z4 z1.length c0_0,.int .i64 a1] rfl ls_ ?_;(with_reducible refine (laws_heldIntS.calls k _ _ z1 a1 z3 _ ?z5 ?z6 A3.out).mono ?_);(case z5 => exact cb_ z7.out);(case z6 => exact z8.out);rintro e w' ⟨rfl,⟨nd,rfl⟩⟩;refine ⟨_,rfl,?_⟩));go_ret;exact ⟨er_,hb_⟩

end Go.Proofs.Ytjcmlggdaajicaa.Pr
/-
Own text: costs are compared by whole numbers,in the program and in the reference.
-/
namespace Go.Proofs.Ytjcmlggdaajicaa.Pure
open Go.RowKit Go.Proofs.YtjcmlggdaajicaaW.PrintWords Go.Proofs.YtjcmlggdaajicaaW.PrintLast Go.Proofs.Ytjcmlggdaajicaa.Pr Go.Proofs.Ytjcmlggdaajicaa.EvKit
open Dij (wt sgn)
set_option linter.unusedVariables false

theorem sgn_impl (x : Int) : impl_sign.f x = some (sgn x):=by
  unfold impl_sign.f sgn
  split
  (rfl)
  · split <;> rfl
theorem sgn_spec (x : Int) : spec_l18Sign.f x = some (sgn x):=sgn_impl x
theorem sgn_pos {x : Int} (h : 0 < x) : sgn x = 1:=by unfold sgn;rw [if_neg (by omega),if_pos h]
theorem sgn_neg {x : Int} (h : x < 0) : sgn x = -1:=by unfold sgn;rw [if_pos h]
theorem sgn_zero : sgn 0 = 0:=rfl
theorem sgn_lt {x : Int} : sgn x < 0 ↔ x < 0:=by
  unfold sgn
  split
  · simp;assumption
  · split <;> simp <;> omega
theorem sgn_eq0 {x : Int} : sgn x = 0 ↔ x = 0:=by
  unfold sgn
  split
  · simp;omega
  · split <;> simp <;> omega
theorem wt_def (a b : Int) : wt (a,b) = a * 5741 + b * 8119:=rfl
theorem cmp_impl {a b : Int} (ha : -5000 ≤ a ∧ a ≤ 5000) (hb : -5000 ≤ b ∧ b ≤ 5000) : impl_cmpCost.f a b = some (sgn (wt (a,b))):=by
  have sa:=sq_le a 5000 ha.1 ha.2;have sb:=sq_le b 5000 hb.1 hb.2
  have na : 0 ≤ a * a:=by rcases sq_cases a with ⟨_,e⟩ | ⟨_,e⟩ | ⟨_,e⟩ <;> omega
  have nb : 0 ≤ b * b:=by rcases sq_cases b with ⟨_,e⟩ | ⟨_,e⟩ | ⟨_,e⟩ <;> omega
  have e2 : 2 * b * b = 2 * (b * b):=Int.mul_assoc 2 b b
  have ew : wrap64 (wrap64 (a * a) - wrap64 (wrap64 (2 * b) * b)) = a * a - 2 * (b * b):=by
    rw [wrap64_id (x:=2 * b) (by omega) (by omega),e2,wrap64_id (x:=a * a) (by omega) (by omega),wrap64_id (x:=2 * (b * b)) (by omega) (by omega),wrap64_id (by omega) (by omega)]
  unfold impl_cmpCost.f;simp only [sgn_impl,Option.bind_some,ew,wrap64_id (x:=a + b) (by omega) (by omega)]
  rcases Int.lt_trichotomy a 0 with h1 | h1 | h1 <;> rcases Int.lt_trichotomy b 0 with h2 | h2 | h2
  · rw [sgn_neg h1,sgn_neg h2,if_pos (by rw [wrap64_id (by decide) (by decide)];decide),sgn_neg (by omega),sgn_neg (by rw [wt_def];omega)]
  · subst h2;rw [sgn_neg h1,sgn_zero,if_pos (by rw [wrap64_id (by decide) (by decide)];decide),sgn_neg (by omega),sgn_neg (by rw [wt_def];omega)]
  · rw [sgn_neg h1,sgn_pos h2,if_neg (by rw [wrap64_id (by decide) (by decide)];decide)]
    rcases Dij.key_int' a b h1 h2 (by omega) with ⟨h3,h4⟩ | ⟨h3,h4⟩
    · rw [sgn_pos h3,sgn_neg (by omega),wrap64_id (by decide) (by decide)];rfl
    · rw [sgn_neg h3,sgn_pos (by omega),wrap64_id (by decide) (by decide)];rfl
  · subst h1;rw [sgn_neg h2,sgn_zero,if_pos (by rw [wrap64_id (by decide) (by decide)];decide),sgn_neg (by omega),sgn_neg (by rw [wt_def];omega)]
  · subst h1;subst h2;rw [sgn_zero,if_pos (by rw [wrap64_id (by decide) (by decide)];decide)];rfl
  · subst h1;rw [sgn_pos h2,sgn_zero,if_pos (by rw [wrap64_id (by decide) (by decide)];decide),sgn_pos (by omega),sgn_pos (by rw [wt_def];omega)]
  · rw [sgn_pos h1,sgn_neg h2,if_neg (by rw [wrap64_id (by decide) (by decide)];decide)]
    rcases Dij.key_int a b h1 h2 (by omega) with ⟨h3,h4⟩ | ⟨h3,h4⟩
    · rw [sgn_neg h3,sgn_neg (by omega),wrap64_id (by decide) (by decide)];rfl
    · rw [sgn_pos h3,sgn_pos (by omega),wrap64_id (by decide) (by decide)];rfl
  · subst h2;rw [sgn_pos h1,sgn_zero,if_pos (by rw [wrap64_id (by decide) (by decide)];decide),sgn_pos (by omega),sgn_pos (by rw [wt_def];omega)]
  · rw [sgn_pos h1,sgn_pos h2,if_pos (by rw [wrap64_id (by decide) (by decide)];decide),sgn_pos (by omega),sgn_pos (by rw [wt_def];omega)]
theorem cmp_spec {a b : Int} (ha : -5000 ≤ a ∧ a ≤ 5000) (hb : -5000 ≤ b ∧ b ≤ 5000) : Ev (fun k => spec_l18Cmp.f k a b) (sgn (wt (a,b))):=by
  have sa:=sq_le a 5000 ha.1 ha.2;have sb:=sq_le b 5000 hb.1 hb.2
  have na : 0 ≤ a * a:=by rcases sq_cases a with ⟨_,e⟩ | ⟨_,e⟩ | ⟨_,e⟩ <;> omega
  have nb : 0 ≤ b * b:=by rcases sq_cases b with ⟨_,e⟩ | ⟨_,e⟩ | ⟨_,e⟩ <;> omega
  have e2 : 2 * b * b = 2 * (b * b):=Int.mul_assoc 2 b b
  have ew : wrap64 (wrap64 (2 * b) * b) = 2 * (b * b):=by
    rw [wrap64_id (x:=2 * b) (by omega) (by omega),e2,wrap64_id (x:=2 * (b * b)) (by omega) (by omega)]
  have ja : Ev (fun k => spec_l18Cmp.j0 k a b true) (sgn a):=by
    refine Ev.succ ?_;simp only [spec_l18Cmp.j0,if_true,sgn_spec];exact Ev.bnd0 rfl (Ev.some rfl)
  have jf : ∀ r,(a = 0 → r = sgn b) → (a ≠ 0 → 2 * (b * b) < a * a → r = sgn a) → (a ≠ 0 → ¬ 2 * (b * b) < a * a → r = sgn b) → Ev (fun k => spec_l18Cmp.j0 k a b false) r:=by
    intro r r1 r2 r3;refine Ev.succ ?_;simp only [spec_l18Cmp.j0,Bool.false_eq_true,if_false,sgn_spec,ew,wrap64_id (x:=a * a) (by omega) (by omega)];refine Ev.ite (fun h => Ev.bnd0 rfl (Ev.some (r1 h).symm)) (fun h => Ev.ite (fun h2 => Ev.bnd0 rfl (Ev.some (r2 h h2).symm)) (fun h2 => Ev.bnd0 rfl (Ev.some (r3 h h2).symm)))
  simp only [spec_l18Cmp.f];refine Ev.bnd0 (sgn_spec a) (Ev.bnd0 (sgn_spec b) (Ev.ite (fun h => Ev.eq ja ?_) (fun h => ?_)))
  · rcases Int.lt_trichotomy a 0 with h1 | h1 | h1 <;> rcases Int.lt_trichotomy b 0 with h2 | h2 | h2
    · rw [sgn_neg h1,sgn_neg (by rw [wt_def];omega)]
    · subst h2;rw [sgn_neg h1,sgn_zero] at h;exact absurd h (by decide)
    · rw [sgn_neg h1,sgn_pos h2] at h;exact absurd h (by decide)
    · subst h1;rw [sgn_neg h2,sgn_zero] at h;exact absurd h (by decide)
    · subst h1;subst h2;rfl
    · subst h1;rw [sgn_pos h2,sgn_zero] at h;exact absurd h (by decide)
    · rw [sgn_pos h1,sgn_neg h2] at h;exact absurd h (by decide)
    · subst h2;rw [sgn_pos h1,sgn_zero] at h;exact absurd h (by decide)
    · rw [sgn_pos h1,sgn_pos (by rw [wt_def];omega)]
  · by_cases hb0 : b = 0
    · subst hb0
      refine Ev.eq ja ?_
      rcases Int.lt_trichotomy a 0 with h1 | h1 | h1
      · rw [sgn_neg h1,sgn_neg (by rw [wt_def];omega)]
      · subst h1;exact absurd rfl h
      · rw [sgn_pos h1,sgn_pos (by rw [wt_def];omega)]
    · rw [show (b == 0) = false from beq_eq_false_iff_ne.2 hb0]
      refine jf _ (fun h1 => ?_) (fun h1 h3 => ?_) (fun h1 h3 => ?_)
      · subst h1
        rcases Int.lt_trichotomy b 0 with h2 | h2 | h2
        · rw [sgn_neg h2,sgn_neg (by rw [wt_def];omega)]
        · exact absurd h2 hb0
        · rw [sgn_pos h2,sgn_pos (by rw [wt_def];omega)]
      all_goals
        rcases Int.lt_trichotomy a 0 with h4 | h4 | h4
        · rcases Int.lt_trichotomy b 0 with h2 | h2 | h2
          · rw [sgn_neg h4,sgn_neg h2] at h;exact absurd rfl h
          · exact absurd h2 hb0
          · rcases Dij.key_int' a b h4 h2 (by omega) with ⟨h5,h6⟩ | ⟨h5,h6⟩
            · first | (exfalso;omega) | rw [sgn_pos h5,sgn_pos h2]
            · first | (exfalso;omega) | rw [sgn_neg h5,sgn_neg h4]
        · exact absurd h4 h1
        · rcases Int.lt_trichotomy b 0 with h2 | h2 | h2
          · rcases Dij.key_int a b h4 h2 (by omega) with ⟨h5,h6⟩ | ⟨h5,h6⟩
            · first | (exfalso;omega) | rw [sgn_neg h5,sgn_neg h2]
            · first | (exfalso;omega) | rw [sgn_pos h5,sgn_pos h4]
          · exact absurd h2 hb0
          · rw [sgn_pos h4,sgn_pos h2] at h;exact absurd rfl h
end Go.Proofs.Ytjcmlggdaajicaa.Pure
/-
Own text: the cells around one: the program's and the reference's lists.
-/
namespace Go.Proofs.Ytjcmlggdaajicaa.Pure
open Go.RowKit Go.Proofs.YtjcmlggdaajicaaW.PrintWords Go.Proofs.YtjcmlggdaajicaaW.PrintLast Go.Proofs.Ytjcmlggdaajicaa.Pr Go.Proofs.Ytjcmlggdaajicaa.EvKit
open Classical
set_option linter.unusedVariables false

section
variable {w : Int} {c : List Int}
def dirsRow (y : Int) : List (Int × Int):=[(-1,y),(0,y),(1,y)]
theorem dirs_rows : dirs = dirsRow (-1) ++ dirsRow 0 ++ dirsRow 1:=rfl
/-- One cell of the reference's list. -/
theorem around_step {a : Int} (h : Cl w c) (h0 : 0 ≤ a) (h1 : a < c.length) (acc : List Int) (hacc : acc.length ≤ 9) {r : List Int} (y x : Int) (hy : -1 ≤ y ∧ y ≤ 1) (hx : -1 ≤ x ∧ x ≤ 1)
    (hr : Ev (fun k => spec_l18Around.l1 k a (acc ++ (ar1 w c a (x,y)).toList) y (x + 1) w c) r) : Ev (fun k => spec_l18Around.l1 k a acc y x w c) r:=by
  have hX:=X_range h a;have hY:=Y_range h h0 h1;have hw:=h.w1;have hw2:=h.w16;have hH:=h.h16;have hH1:=h.h1;refine Ev.succ ?_;simp only [spec_l18Around.l1];rw [tmod_X h0,tdiv_Y h0,wrap64_id (x:=Y_ w a) (by omega) (by omega),wrap64_id (x:=X_ w a + x) (by omega) (by omega),wrap64_id (x:=Y_ w a + y) (by omega) (by omega),wrap64_id (x:=x + 1) (by omega) (by omega)];refine Ev.pos (by omega) (Ev.neg (by omega) ?_);have hd : Int.tdiv (c.length : Int) w = H_ w c:=Int.tdiv_eq_ediv_of_nonneg (by omega)
  have hhas : spec_l12Has.f w (c.length : Int) (X_ w a + x) (Y_ w a + y) = some (decide (0 ≤ X_ w a + x ∧ X_ w a + x < w ∧ 0 ≤ Y_ w a + y ∧ Y_ w a + y < H_ w c)):=by
    unfold spec_l12Has.f;rw [hd,wrap64_id (x:=H_ w c) (by omega) (by omega)];by_cases p1 : X_ w a + x ≥ 0
    · rw [if_pos p1]
      by_cases p2 : X_ w a + x < w
      · rw [if_pos p2]
        by_cases p3 : Y_ w a + y ≥ 0
        · rw [if_pos p3,if_neg (by omega)]
          simp [show 0 ≤ X_ w a + x from p1,p2,show 0 ≤ Y_ w a + y from p3]
        · rw [if_neg p3]
          simp [show ¬ 0 ≤ Y_ w a + y from p3]
      · rw [if_neg p2]
        simp [p2]
    · rw [if_neg p1]
      simp [show ¬ 0 ≤ X_ w a + x from p1]
  refine Ev.bnd0 hhas ?_;by_cases hin : 0 ≤ X_ w a + x ∧ X_ w a + x < w ∧ 0 ≤ Y_ w a + y ∧ Y_ w a + y < H_ w c
  · rw [decide_eq_true hin]
    (have hn : Nx w c a x y = (Y_ w a + y) * w + (X_ w a + x):=by unfold Nx;rw [if_pos hin]);have hci:=cell_in h hin.1 hin.2.1 hin.2.2.1 hin.2.2.2;have hm:=mul_le16 (x:=Y_ w a + y) (y:=w) (by omega) (by omega) (by omega) hw2;rw [wrap64_id (x:=(Y_ w a + y) * w) (by omega) (by omega),wrap64_id (x:=(Y_ w a + y) * w + (X_ w a + x)) (by omega) (by omega),← hn]
    have hs : Nx w c a x y = a ↔ x = 0 ∧ y = 0:=by
      constructor
      · intro e
        have e1:=X_cell hin.1 hin.2.1 (Y_ w a + y);have e2:=Y_cell hin.1 hin.2.1 (Y_ w a + y);rw [← hn,e] at e1 e2
        omega
      · rintro ⟨rfl,rfl⟩
        rw [hn,Int.add_zero,Int.add_zero];exact XY w a
    refine Ev.pos rfl ?_
    have put : ¬ (x = 0 ∧ y = 0) → Ev (fun k => if acc.length < 17592186044416 then spec_l18Around.l1 k a (acc ++ [Nx w c a x y]) y (x + 1) w c else none) r:=by
      intro hne;refine Ev.pos (by omega) ?_
      have e : ar1 w c a (x,y) = some (Nx w c a x y):=by
        unfold ar1
        simp only
        rw [if_neg (fun hh => hh.elim (fun hh => by omega) (fun hh => hne (hs.1 hh)))]
      rw [e] at hr;exact hr
    refine Ev.ite (fun p1 => Ev.ite (fun p2 => ?_) (fun p2 => put (fun z => p2 z.2))) (fun p1 => put (fun z => p1 z.1))
    have e : ar1 w c a (x,y) = none:=by
      unfold ar1
      simp only
      rw [if_pos (.inr (hs.2 ⟨p1,p2⟩))]
    rw [e] at hr
    simpa using hr
  · rw [decide_eq_false hin]
    have e : ar1 w c a (x,y) = none:=by
      unfold ar1 Nx
      simp only
      rw [if_neg hin,if_pos (.inl (by decide))]
    rw [e] at hr;refine Ev.neg (by simp) ?_
    simpa using hr
theorem ar_len (a : Int) (d : Int × Int) : ((ar1 w c a d).toList).length ≤ 1:=by cases ar1 w c a d <;> simp
theorem around_row {a : Int} (h : Cl w c) (h0 : 0 ≤ a) (h1 : a < c.length) (acc : List Int) (hacc : acc.length ≤ 6) {r : List Int} (y : Int) (hy : -1 ≤ y ∧ y ≤ 1)
    (hr : Ev (fun k => spec_l18Around.l0 k a (acc ++ (dirsRow y).filterMap (ar1 w c a)) (y + 1) w c) r) : Ev (fun k => spec_l18Around.l0 k a acc y w c) r:=by
  refine Ev.succ ?_;simp only [spec_l18Around.l0];refine Ev.pos (by omega) ?_;have l1:=ar_len (w:=w) (c:=c) a (-1,y);have l2:=ar_len (w:=w) (c:=c) a (0,y);refine around_step h h0 h1 acc (by omega) y (-1) hy (by omega) (around_step h h0 h1 _ (by simp;omega) y 0 hy (by omega) (around_step h h0 h1 _ (by simp;omega) y 1 hy (by omega) (Ev.succ ?_)));simp only [spec_l18Around.l1];refine Ev.neg (by omega) ?_;rw [wrap64_id (x:=y + 1) (by omega) (by omega)]
  have e : acc ++ (ar1 w c a (-1,y)).toList ++ (ar1 w c a (0,y)).toList ++ (ar1 w c a (1,y)).toList = acc ++ (dirsRow y).filterMap (ar1 w c a):=by
    unfold dirsRow;simp only [List.filterMap_cons,List.filterMap_nil,List.append_assoc]
    cases ar1 w c a (-1,y) <;> cases ar1 w c a (0,y) <;> cases ar1 w c a (1,y) <;> rfl
  rw [e];exact hr
theorem around_spec {a : Int} (h : Cl w c) (h0 : 0 ≤ a) (h1 : a < c.length) : Ev (fun k => spec_l18Around.f k w c a) (AR w c a):=by
  simp only [spec_l18Around.f];(have hl : ∀ y,((dirsRow y).filterMap (ar1 w c a)).length ≤ 3:=fun y => List.length_filterMap_le _ _);have l1:=hl (-1);have l2:=hl 0;refine around_row h h0 h1 [] (by simp) (-1) (by omega) (around_row h h0 h1 _ (by simpa using Nat.le_trans l1 (by omega)) 0 (by omega) (around_row h h0 h1 _ (by simp only [List.nil_append,List.length_append];omega) 1 (by omega) (Ev.succ ?_)));simp only [spec_l18Around.l0];refine Ev.neg (by omega) (Ev.some ?_);unfold AR;rw [dirs_rows,List.filterMap_append,List.filterMap_append,List.nil_append]
/-- What the program's list takes of a cell. -/
noncomputable def nb1 (w : Int) (c : List Int) (a : Int) (d : Int × Int) : Option (Int × Int × Int):=(ar1 w c a d).bind (st1 w c a)
theorem NB_dirs (a : Int) : NB w c a = dirs.filterMap (nb1 w c a):=by
  unfold NB AR;rw [List.filterMap_filterMap]
  rfl
def cst (x : Int × Int × Int) : S66:=⟨x.2.1,x.2.2⟩
theorem iaround_step {a : Int} (h : Cl w c) (h0 : 0 ≤ a) (h1 : a < c.length) (acc : List (Int × Int × Int)) (hacc : acc.length ≤ 9) {r : List Int × List S66} (y x : Int) (hy : -1 ≤ y ∧ y ≤ 1) (hx : -1 ≤ x ∧ x ≤ 1)
    (hr : Ev (fun k => impl_Cells_around.l1 k a ((acc ++ (nb1 w c a (x,y)).toList).map (·.1)) ((acc ++ (nb1 w c a (x,y)).toList).map cst) y (x + 1) w c) r) : Ev (fun k => impl_Cells_around.l1 k a (acc.map (·.1)) (acc.map cst) y x w c) r:=by
  refine Ev.succ ?_;simp only [impl_Cells_around.l1];rw [next_eq h h0 h1 (dx:=x) (dy:=y) (by omega) (by omega)];refine Ev.pos (by omega) (Ev.bnd0 rfl ?_)
  have skip : ∀ b : Int,nb1 w c a (x,y) = none → Ev (fun k => impl_Cells_around.j2 k a (acc.map (·.1)) (acc.map cst) y x b true w c) r:=by
    intro b e;refine Ev.succ ?_;simp only [impl_Cells_around.j2,if_true,wrap64_id (x:=x + 1) (by omega) (by omega)];rw [e] at hr
    simpa using hr
  by_cases c1 : Nx w c a x y < 0
  · refine Ev.pos c1 (skip _ ?_)
    unfold nb1 ar1
    simp only
    rw [if_pos (.inl c1)]
    rfl
  · refine Ev.neg c1 ?_
    by_cases c2 : Nx w c a x y = a
    · rw [show (Nx w c a x y == a) = true from beq_iff_eq.2 c2]
      refine skip _ ?_;unfold nb1 ar1
      simp only
      rw [if_pos (.inr c2)]
      rfl
    · rw [show (Nx w c a x y == a) = false from beq_eq_false_iff_ne.2 c2]
      have e : ar1 w c a (x,y) = some (Nx w c a x y):=by
        unfold ar1
        simp only
        rw [if_neg (fun hh => hh.elim c1 c2)]
      (have e2 : nb1 w c a (x,y) = st1 w c a (Nx w c a x y):=by unfold nb1;rw [e];rfl);obtain ⟨p,q,s1,s2,s3⟩:=step_impl h a (Nx w c a x y);refine Ev.succ ?_;simp only [impl_Cells_around.j2,Bool.false_eq_true,if_false,wrap64_id (x:=x + 1) (by omega) (by omega)];refine Ev.bnd s1 ?_;rw [e2] at hr
      rcases Stp_or w c a (Nx w c a x y) with e3 | e3 | e3
      · rw [e3]
        refine Ev.neg (by simp) ?_;(have : st1 w c a (Nx w c a x y) = none:=by unfold st1;rw [if_neg (by omega),if_neg (by omega)]);rw [this] at hr
        simpa using hr
      · obtain ⟨rfl,rfl⟩:=s2 e3
        rw [e3];(have : st1 w c a (Nx w c a x y) = some (Nx w c a x y,1,0):=by unfold st1;rw [if_pos e3]);rw [this] at hr;refine Ev.pos (by simp) (Ev.bnd0 rfl (Ev.pos (by simp;omega) (Ev.bnd0 rfl (Ev.pos (by simp;omega) ?_))))
        simpa [cst] using hr
      · obtain ⟨rfl,rfl⟩:=s3 e3
        rw [e3];(have : st1 w c a (Nx w c a x y) = some (Nx w c a x y,0,1):=by unfold st1;rw [if_neg (by omega),if_pos e3]);rw [this] at hr;refine Ev.pos (by simp) (Ev.bnd0 rfl (Ev.pos (by simp;omega) (Ev.bnd0 rfl (Ev.pos (by simp;omega) ?_))))
        simpa [cst] using hr
theorem nb1_len (a : Int) (d : Int × Int) : ((nb1 w c a d).toList).length ≤ 1:=by cases nb1 w c a d <;> simp
theorem iaround_row {a : Int} (h : Cl w c) (h0 : 0 ≤ a) (h1 : a < c.length) (acc : List (Int × Int × Int)) (hacc : acc.length ≤ 6) {r : List Int × List S66} (y : Int) (hy : -1 ≤ y ∧ y ≤ 1)
    (hr : Ev (fun k => impl_Cells_around.l0 k a ((acc ++ (dirsRow y).filterMap (nb1 w c a)).map (·.1)) ((acc ++ (dirsRow y).filterMap (nb1 w c a)).map cst) (y + 1) w c) r) : Ev (fun k => impl_Cells_around.l0 k a (acc.map (·.1)) (acc.map cst) y w c) r:=by
  refine Ev.succ ?_;simp only [impl_Cells_around.l0];refine Ev.pos (by omega) ?_;have l1:=nb1_len (w:=w) (c:=c) a (-1,y);have l2:=nb1_len (w:=w) (c:=c) a (0,y);refine iaround_step h h0 h1 acc (by omega) y (-1) hy (by omega) (iaround_step h h0 h1 _ (by simp;omega) y 0 hy (by omega) (iaround_step h h0 h1 _ (by simp;omega) y 1 hy (by omega) (Ev.succ ?_)));simp only [impl_Cells_around.l1];refine Ev.neg (by omega) ?_;rw [wrap64_id (x:=y + 1) (by omega) (by omega)]
  have e : acc ++ (nb1 w c a (-1,y)).toList ++ (nb1 w c a (0,y)).toList ++ (nb1 w c a (1,y)).toList = acc ++ (dirsRow y).filterMap (nb1 w c a):=by
    unfold dirsRow;simp only [List.filterMap_cons,List.filterMap_nil,List.append_assoc]
    cases nb1 w c a (-1,y) <;> cases nb1 w c a (0,y) <;> cases nb1 w c a (1,y) <;> rfl
  rw [e];exact hr
theorem around_impl {a : Int} (h : Cl w c) (h0 : 0 ≤ a) (h1 : a < c.length) : Ev (fun k => impl_Cells_around.f k w c a) ((NB w c a).map (·.1),(NB w c a).map cst):=by
  simp only [impl_Cells_around.f];(have hl : ∀ y,((dirsRow y).filterMap (nb1 w c a)).length ≤ 3:=fun y => List.length_filterMap_le _ _);have l1:=hl (-1);have l2:=hl 0;refine iaround_row h h0 h1 [] (by simp) (-1) (by omega) (iaround_row h h0 h1 _ (by simpa using Nat.le_trans l1 (by omega)) 0 (by omega) (iaround_row h h0 h1 _ (by simp only [List.nil_append,List.length_append];omega) 1 (by omega) (Ev.succ ?_)));simp only [impl_Cells_around.l0];refine Ev.neg (by omega) (Ev.some ?_);rw [NB_dirs,dirs_rows,List.filterMap_append,List.filterMap_append,List.nil_append]
end
end Go.Proofs.Ytjcmlggdaajicaa.Pure
/-
Own text: a map without deletions,told by the list of its keys and values in the order in which they came.
-/
namespace Go.Proofs.Ytjcmlggdaajicaa.Mp
open Go.MapKept Go.ChangeMaps
set_option linter.unusedVariables false
set_option linter.unusedSimpArgs false

section
variable {α β : Type}
/-- The entries, numbered from n on. -/
def ents (ek : α → Value) (ev : β → Value) : Nat → List (α × β) → List MapEntry
  | _,[] => []
  | n,(a,b) :: l => { key:=ek a,val:=ev b,born:=n } :: ents ek ev (n + 1) l
/-- The map's block. -/
def mobj (ek : α → Value) (ev : β → Value) (L : List (α × β)) : Obj:=.map (ents ek ev 0 L).toArray L.length
theorem mem_ents {ek : α → Value} {ev : β → Value} {L : List (α × β)} {n : Nat} {x : MapEntry} (h : x ∈ ents ek ev n L) : ∃ (i : Nat) (a : α) (c : β),L[i]? = some (a,c) ∧ x = { key:=ek a,val:=ev c,born:=n + i }:=by
  induction L generalizing n with
  | nil => cases h
  | cons p l ih =>
    obtain ⟨a,c⟩:=p
    rcases List.mem_cons.1 h with rfl | h
    · exact ⟨0,a,c,rfl,rfl⟩
    · obtain ⟨i,a',c',h1,h2⟩:=ih h
      exact ⟨i + 1,a',c',by simpa using h1,by rw [h2];simp;omega⟩
variable [DecidableEq α]
/-- What stands at a key. -/
def lk : List (α × β) → α → Option β
  | [],_ => none
  | (a,b) :: l,x => if x = a then some b else lk l x
/-- .. and where. -/
def place : List (α × β) → α → Option (Nat × β)
  | [],_ => none
  | (a,b) :: l,x => if x = a then some (0,b) else (place l x).map fun p => (p.1 + 1,p.2)
/-- m[x] = v. -/
def put : List (α × β) → α → β → List (α × β)
  | [],x,v => [(x,v)]
  | (a,b) :: l,x,v => if x = a then (a,v) :: l else (a,b) :: put l x v
theorem place_lk (L : List (α × β)) (x : α) : (place L x).map Prod.snd = lk L x:=by
  induction L with
  | nil => rfl
  | cons p l ih =>
    obtain ⟨a,b⟩:=p;simp only [place,lk]
    split
    (rfl)
    · rw [← ih]
      cases place l x <;> rfl
theorem lk_put (L : List (α × β)) (x y : α) (v : β) : lk (put L x v) y = if y = x then some v else lk L y:=by
  induction L with
  | nil => simp only [put,lk]
  | cons p l ih =>
    obtain ⟨a,b⟩:=p;simp only [put]
    split
    · rename_i h
      subst h;simp only [lk]
      split <;> rfl
    · rename_i h
      simp only [lk,ih]
      split
      · rename_i h2
        subst h2;rw [if_neg (fun e => h e.symm)]
      (rfl)
theorem put_place {L : List (α × β)} {x : α} (v : β) {i : Nat} {b : β} (h : place L x = some (i,b)) (ek : α → Value) (ev : β → Value) (n : Nat) :
    (put L x v).length = L.length ∧ i < L.length ∧ ents ek ev n (put L x v) = (ents ek ev n L).modify i (fun e => { e with key:=ek x,val:=ev v }) ∧ ((ents ek ev n L)[i]?).map (·.key) = some (ek x):=by
  induction L generalizing n i with
  | nil => cases h
  | cons p l ih =>
    obtain ⟨a,c⟩:=p;simp only [place] at h
    split at h
    · rename_i e
      subst e;cases h
      simp [put,ents,List.modify]
    · rename_i e
      cases hp : place l x with
      | none => rw [hp] at h;cases h
      | some q =>
        rw [hp] at h;obtain ⟨j,b'⟩:=q
        cases h
        obtain ⟨h1,h2,h3,h4⟩:=ih hp (n + 1);simp only [put,if_neg e,ents,List.length_cons];exact ⟨by omega,by omega,by rw [h3];rfl,h4⟩
theorem put_none {L : List (α × β)} {x : α} (v : β) (h : lk L x = none) (ek : α → Value) (ev : β → Value) (n : Nat) :
    put L x v = L ++ [(x,v)] ∧ ents ek ev n (put L x v) = ents ek ev n L ++ [{ key:=ek x,val:=ev v,born:=n + L.length }]:=by
  induction L generalizing n with
  | nil => exact ⟨rfl,rfl⟩
  | cons p l ih =>
    obtain ⟨a,c⟩:=p;simp only [lk] at h
    split at h
    · cases h
    · rename_i e
      obtain ⟨h1,h2⟩:=ih h (n + 1);simp only [put,if_neg e,ents,h1,List.cons_append,List.length_cons];refine ⟨trivial,?_⟩;rw [← h1,h2,show n + 1 + l.length = n + (l.length + 1) by omega]

/-- What a key's type is good for. -/
structure Key (P : Program) (kt : TypeId) (ek : α → Value) : Prop where
  check : ∀ (w : World) (e : Bool) (a : α),(Instr.checkKey e 10000 kt (ek a)).run P w = .ok () w
  find : ∀ (w : World) (β : Type) (ev : β → Value) (L : List (α × β)) (a : α),(Instr.findKey kt (ek a) (ents ek ev 0 L)).run P w = .ok ((place L a).map fun p => (p.1,ev p.2)) w
  stays : ∀ (w : World) (a : α),(Instr.keyThatStays (ek a) (ek a)).run P w = .ok (ek a) w
variable {P : Program} {t kt e : TypeId} {ek : α → Value} {ev : β → Value} {L : List (α × β)} {w : World} {b : Nat}
theorem run_lk (K : Key P kt ek) (ht : P.underlying t = some (.map kt e)) {z : Value} (hz : (zeroValue e).run P w = .ok z w) (hb : w.heap[b]? = some (mobj ek ev L)) (a : α) :
    (Instr.lookup t (.map (some b)) (ek a) false).run P w = .ok (((lk L a).map ev).getD z) w:=by
  have hb' : w.heap[b]? = some (.map (ents ek ev 0 L).toArray L.length):=hb;have hf:=K.find w β ev L a;have hl:=place_lk L a;simp only [Instr.lookup,Sem.run_bind,run_underlying ht,Result.andThen,MapKept.run_getObj_map hb',K.check,List.toList_toArray,hf,Sem.run_pure];rw [← hl]
  cases place L a with
  | none => simp [hz,Result.andThen]
  | some p => simp [Result.andThen]
theorem run_lk_ok (K : Key P kt ek) (ht : P.underlying t = some (.map kt e)) {z : Value} (hz : (zeroValue e).run P w = .ok z w) (hb : w.heap[b]? = some (mobj ek ev L)) (a : α) :
    (Instr.lookup t (.map (some b)) (ek a) true).run P w = .ok (.tuple #[((lk L a).map ev).getD z,.bool (lk L a).isSome]) w:=by
  have hb' : w.heap[b]? = some (.map (ents ek ev 0 L).toArray L.length):=hb;have hf:=K.find w β ev L a;have hl:=place_lk L a;simp only [Instr.lookup,Sem.run_bind,run_underlying ht,Result.andThen,MapKept.run_getObj_map hb',K.check,List.toList_toArray,hf,Sem.run_pure];rw [← hl]
  cases place L a with
  | none => simp [hz,Result.andThen]
  | some p => simp [Result.andThen]
theorem run_put (K : Key P kt ek) (ht : P.underlying t = some (.map kt e)) (hb : w.heap[b]? = some (mobj ek ev L)) (a : α) (v : β) :
    (Instr.mapUpdate t (.map (some b)) (ek a) (ev v)).run P w = .ok () (setBlock w b (mobj ek ev (put L a v))):=by
  have hb' : w.heap[b]? = some (.map (ents ek ev 0 L).toArray L.length):=hb;have hf:=K.find w β ev L a;simp only [Instr.mapUpdate,Sem.run_bind,run_underlying ht,Result.andThen,MapKept.run_getObj_map hb',K.check,List.toList_toArray,hf]
  cases hp : place L a with
  | none =>
    obtain ⟨h1,h2⟩:=put_none v (by rw [← place_lk,hp];rfl) ek ev 0 (L:=L) (x:=a);simp only [Option.map_none,MapKept.run_setObj_map _ hb'];unfold setBlock mobj;rw [h2,h1]
    simp
  | some q =>
    obtain ⟨i,c⟩:=q;obtain ⟨h1,h2,h3,h4⟩:=put_place v hp ek ev 0;simp only [Option.map_some,Sem.run_bind,List.getElem?_toArray];rw [h4];simp only [Option.getD_some,K.stays,Result.andThen,MapKept.run_setObj_map _ hb'];unfold setBlock mobj;rw [h1,h3]
    simp
theorem setBlock_at {w : World} {b : Nat} {o : Obj} (hb : w.heap[b]? = some o) (o' : Obj) : (setBlock w b o').heap[b]? = some o':=by
  have hlt : b < w.heap.size:=(Array.getElem?_eq_some_iff.1 hb).1
  simp [setBlock,hlt]
end
/-- Whole numbers as keys. -/
theorem Key.int {P : Program} {kt : TypeId} (hd : P.underlying kt = some (.int .i64)) : Key P kt (Value.int .i64) where
  check w e a:=run_checkKey hd (k:=.int .i64 a) (by simp [IsKey]) e 9999
  stays w a:=run_keyThatStays (d:=.int .i64) (k:=.int .i64 a) (by simp [IsKey])
  find w β ev L a:=by
    have key : ∀ (L : List (Int × β)) (n i : Nat),Instr.findNow (.int .i64) (.int .i64 a) (ents (Value.int .i64) ev n L) i = some ((place L a).map fun p => (i + p.1,ev p.2)):=by
      intro L
      induction L with
      | nil => intro n i;rfl
      | cons p l ih =>
        intro n i;obtain ⟨x,c⟩:=p;simp only [ents,Instr.findNow,Instr.sameNow,if_true,place];by_cases h : a = x
        · subst h
          simp
        · have hb : (a == x) = false:=beq_eq_false_iff_ne.2 h
          simp only [hb,if_neg h,ih]
          cases place l a with
          | none => rfl
          | some q => simp;omega
    have:=key L 0 0;simp only [Nat.zero_add] at this;exact run_findKey hd this
/-- Two whole numbers as a struct. -/
def ekp (p : Int × Int) : Value:=.agg #[.int .i64 p.1,.int .i64 p.2]
section
variable {P : Program} {kt : TypeId} {f1 f2 : Field}
theorem run_part_int (w : World) {e : TypeId} (he : P.underlying e = some (.int .i64)) {xs : Array Value} {off : Nat} {v : Value} (hx : xs[off]? = some v) : (part e xs off).run P w = .ok v w:=by
  simp [part,isAgg,run_underlying he,hx]
theorem run_eq_pair (w : World) (hu : P.underlying kt = some (.struct #[f1, f2])) (hp : P.stoodInHeld kt = false) (n1 : f1.name ≠ "_") (n2 : f2.name ≠ "_") (t1 : P.underlying f1.type = some (.int .i64)) (t2 : P.underlying f2.type = some (.int .i64)) (o1 : f1.offset = 0) (o2 : f2.offset = 1) (a b : Int × Int) :
    (Op.equal kt (ekp a) (ekp b)).run P w = .ok (decide (a = b)) w:=by
  (have hf : P.fieldsOf kt = #[f1,f2]:=by simp [Program.fieldsOf,hu]);unfold Op.equal Op.maxDepth ekp;rw [run_equalIn_struct w 9999 kt _ _ (by rw [hf];exact hu) hp,hf];(have p1 : ∀ a : Int × Int,(part f1.type #[Value.int .i64 a.1,.int .i64 a.2] f1.offset).run P w = .ok (.int .i64 a.1) w:=fun a => run_part_int w t1 (by rw [o1];rfl));(have p2 : ∀ a : Int × Int,(part f2.type #[Value.int .i64 a.1,.int .i64 a.2] f2.offset).run P w = .ok (.int .i64 a.2) w:=fun a => run_part_int w t2 (by rw [o2];rfl));have e1:=run_equalIn_int (P:=P) w 9998 f1.type .i64 .i64 a.1 b.1 t1;have e2:=run_equalIn_int (P:=P) w 9998 f2.type .i64 .i64 a.2 b.2 t2;obtain ⟨a1,a2⟩:=a;obtain ⟨b1,b2⟩:=b
  have e3 : decide ((a1,a2) = (b1,b2)) = (a1 == b1 && a2 == b2):=by
    rw [Bool.eq_iff_iff]
    simp
  rw [e3];have q1:=p1 (a1,a2);have q2:=p1 (b1,b2);have q3:=p2 (a1,a2);have q4:=p2 (b1,b2)
  simp only at q1 q2 q3 q4 e1 e2
  simp only [Op.eqFields,ne_eq,n1,n2,not_false_eq_true,if_true,Sem.run_bind,q1,q2,Result.andThen,e1]
  cases h1 : (a1 == b1)
  · simp
  · cases h2 : (a2 == b2) <;> rw [h2] at e2 <;> simp [Result.andThen,q3,q4,e2]
theorem Key.pair (hu : P.underlying kt = some (.struct #[f1, f2])) (hp : P.stoodInHeld kt = false) (n1 : f1.name ≠ "_") (n2 : f2.name ≠ "_") (t1 : P.underlying f1.type = some (.int .i64)) (t2 : P.underlying f2.type = some (.int .i64)) (o1 : f1.offset = 0) (o2 : f2.offset = 1) : Key P kt ekp where
  check w e a:=by
    have p1 : (part f1.type #[Value.int .i64 a.1,.int .i64 a.2] f1.offset).run P w = .ok (.int .i64 a.1) w:=run_part_int w t1 (by rw [o1];rfl);have p2 : (part f2.type #[Value.int .i64 a.1,.int .i64 a.2] f2.offset).run P w = .ok (.int .i64 a.2) w:=run_part_int w t2 (by rw [o2];rfl);have c1:=run_checkKey (w:=w) t1 (k:=.int .i64 a.1) (by simp [IsKey]) e 9998;have c2:=run_checkKey (w:=w) t2 (k:=.int .i64 a.2) (by simp [IsKey]) e 9998;have hn : (10000 : Nat) = 9999 + 1:=rfl;rw [hn,ekp];unfold Instr.checkKey;simp only [Sem.run_bind,run_underlying hu,Result.andThen];rw [← Array.forIn_toList]
    simp [n1,n2,p1,p2,c1,c2,Result.andThen]
  stays w a:=by
    have h : Instr.sameBits 10000 (ekp a) (ekp a) = true:=by
      simp [ekp,Instr.sameBits]
    simp [Instr.keyThatStays,h]
  find w β ev L a:=by
    (have eq:=fun b => run_eq_pair w hu hp n1 n2 t1 t2 o1 o2 a b)
    have key : ∀ (L : List ((Int × Int) × β)) (n i : Nat),(Instr.findAsking kt (ekp a) (ents ekp ev n L) i).run P w = .ok ((place L a).map fun p => (i + p.1,ev p.2)) w:=by
      intro L
      induction L with
      | nil => intro n i;rfl
      | cons p l ih =>
        intro n i;obtain ⟨x,c⟩:=p;simp only [ents,Instr.findAsking,Sem.run_bind,eq,Result.andThen,place];by_cases h : a = x
        · simp [h]
        · simp only [h,decide_false,Bool.false_eq_true,if_false,ih]
          cases place l a with
          | none => rfl
          | some q => simp;omega
    have h2:=key L 0 0;simp only [Nat.zero_add] at h2;unfold Instr.findKey;simp only [Sem.run_bind,run_underlying hu,Result.andThen]
    cases L with
    | nil => rfl
    | cons p l =>
      obtain ⟨x,c⟩:=p;simp only [ents,Instr.findNow,Instr.sameNow];exact h2
end
end Go.Proofs.Ytjcmlggdaajicaa.Mp
/-
Own text: maps at the operations: one that is made,one that is written;a queue's first element taken off.
-/
namespace Go.Proofs.Ytjcmlggdaajicaa.Mp
open Go.RowKit Go.Proofs.YtjcmlggdaajicaaW.PrintWords Go.Proofs.YtjcmlggdaajicaaW.PrintLast Go.Proofs.YtjcmlggdaajicaaW.PrintMore
open Go.MapKept Go.ChangeMaps
set_option linter.unusedVariables false

theorem kept_block {w : World} {b : Nat} {o' : Obj} : Kept w (setBlock w b o') (fun k => k = b):=
  ⟨by simp [setBlock],fun i hi hn => by simp [setBlock,Ne.symm hn]⟩
theorem below_block {B : Nat} {w W : World} {b : Nat} {o' : Obj} (h : Below B w W) (hb : B ≤ b) : Below B w (setBlock W b o'):=
  ⟨h.os,h.tape,h.output,by simpa [setBlock] using h.size,fun i hi => by rw [← h.block i hi];simp [setBlock,show ¬ b = i by omega]⟩
section
variable {P : Program} {ops : Array Oper} {rest : List Oper} {o : Oper} {a : Act} {Q : Exit → Act → World → Prop}
variable {α β : Type} {ek : α → Value} {ev : β → Value}
/-- make(map[K]V). -/
theorem make_event {W : World} (hgd : o.guard = none) {N : Tmp} (_hd : o.dst = some N) {t : TypeId} (ho : o.op = .makeMap t none) (ek : α → Value) (ev : β → Value)
    (h : ∀ g,g = W.heap.size → ∀ w1,w1.heap[g]? = some (mobj ek ev []) → Below W.heap.size W w1 → wpList P ops Q rest (a.put o.dst (.map (some g))) w1) : wpList P ops Q (o :: rest) a W:=by
  refine Kd.event_run (w1:=W.alloc (.map #[] 0)) (v:=.map (some W.heap.size)) hgd ?_ (h _ rfl _ (blk_new W _) (below_alloc (Below.refl _ _) _));unfold execOp;rw [ho]
  simp [Instr.makeMap,Result.andThen]
variable [DecidableEq α]
/-- m[x] = v. -/
theorem put_event {W : World} {w0 : World} {B : Nat} (hgd : o.guard = none) (hN : o.dst = none) {t kt e : TypeId} {m x v : Operand} (ho : o.op = .mapUpdate t m x v ∨ o.op = .insert t m x v) (K : Key P kt ek) (ht : P.underlying t = some (.map kt e))
    {g : Nat} {L : List (α × β)} (hb : W.heap[g]? = some (mobj ek ev L)) (key : α) (val : β) (hm : a.eval m = .map (some g)) (hx : a.eval x = ek key) (hv : a.eval v = ev val) (HB : Below B w0 W) (hBg : B ≤ g)
    (h : ∀ w1,w1.heap[g]? = some (mobj ek ev (put L key val)) → Kept W w1 (fun k => k = g) → Below B w0 w1 → wpList P ops Q rest a w1) : wpList P ops Q (o :: rest) a W:=by
  have hrun:=run_put K ht hb key val;(refine wpList_plain hgd fun K' hK' => ?_)
  have he : (execOp a.eval o).run P W = .ok .skip (setBlock W g (mobj ek ev (put L key val))):=by
    unfold execOp
    rcases ho with ho | ho <;> rw [ho] <;> simp [hm,hx,hv,hrun,Result.andThen]
  unfold Oper.wp;rw [he]
  show K' (a.put o.dst undef) _
  rw [hN];exact hK' _ _ (h _ (setBlock_at hb _) kept_block (below_block HB hBg))
end
theorem gate_mapUpdate {P : Program} {ops : Array Oper} {rest : List Oper} {o : Oper} {a : Act} {Q : Exit → Act → World → Prop} {W : World} {t : TypeId} {m x v : Operand} (_ho : o.op = .mapUpdate t m x v) (h : wpList P ops Q (o :: rest) a W) : wpList P ops Q (o :: rest) a W:=h
theorem gate_insert {P : Program} {ops : Array Oper} {rest : List Oper} {o : Oper} {a : Act} {Q : Exit → Act → World → Prop} {W : World} {t : TypeId} {m x v : Operand} (_ho : o.op = .insert t m x v) (h : wpList P ops Q (o :: rest) a W) : wpList P ops Q (o :: rest) a W:=h
theorem cells_map {α β : Type} {ek : α → Value} {ev : β → Value} {L : List (α × β)} {w : World} {g gm t : Nat} {cs : Array Value} (h : w.heap[g]? = some (.cells cs t (0,0))) (hm : w.heap[gm]? = some (mobj ek ev L)) : ¬ g = gm:=fun e => by
  rw [e,hm] at h
  cases h
end Go.Proofs.Ytjcmlggdaajicaa.Mp
/-
Own text: ranging over a map that stands (its entries in whatever order).
-/
namespace Go.Proofs.Ytjcmlggdaajicaa.Mp
open Go.RowKit Go.Proofs.YtjcmlggdaajicaaW.PrintWords Go.Proofs.YtjcmlggdaajicaaW.PrintLast Go.Proofs.YtjcmlggdaajicaaW.PrintMore
open Go.MapKept Go.ChangeMaps
set_option linter.unusedVariables false

section
variable {P : Program} {ops : Array Oper} {rest : List Oper} {o : Oper} {a : Act} {Q : Exit → Act → World → Prop}
variable {α β : Type} {ek : α → Value} {ev : β → Value}
/-- for k, v := range m: the iterator is made. -/
theorem range_event {W : World} (hgd : o.guard = none) {N : Tmp} (_hd : o.dst = some N) {t kt e : TypeId} {m : Operand} (ho : o.op = .range t m) (ht : P.underlying t = some (.map kt e)) {gm : Nat} {L : List (α × β)} (hb : W.heap[gm]? = some (mobj ek ev L)) (hm : a.eval m = .map (some gm))
    (h : ∀ g,g = W.heap.size → ∀ w1,w1.heap[g]? = some (.mapIter (some gm) L.length #[] L.length) → Below W.heap.size W w1 → wpList P ops Q rest (a.put o.dst (.pointer (some ⟨g,0,none⟩))) w1) : wpList P ops Q (o :: rest) a W:=by
  have hr:=run_range_map (P:=P) W t kt e gm _ _ ht hb;refine Kd.event_run (w1:=W.alloc (.mapIter (some gm) L.length #[] L.length)) (v:=.pointer (some ⟨W.heap.size,0,none⟩)) hgd ?_ (h _ rfl _ (blk_new W _) (below_alloc (Below.refl _ _) _));unfold execOp;rw [ho]
  simp [hm,hr,Result.andThen]
/-- The step. -/
theorem next_event {W W1 : World} {v : Value} (hgd : o.guard = none) {N : Tmp} (_hd : o.dst = some N) {it : Operand} (ho : o.op = .next it false) {p : Value} (hi : a.eval it = p) (hrun : ∀ ty,(Instr.next p false ty).run P W = .ok v W1)
    (h : wpList P ops Q rest (a.put o.dst v) W1) : wpList P ops Q (o :: rest) a W:=by
  refine Kd.event_run (w1:=W1) (v:=v) hgd ?_ h;unfold execOp;rw [ho]
  simp [hi,hrun,Result.andThen]
theorem ents_get (L : List (α × β)) (n : Nat) (i : Nat) : (ents ek ev n L)[i]? = (L[i]?).map fun p => { key:=ek p.1,val:=ev p.2,born:=n + i }:=by
  induction L generalizing n i with
  | nil => simp [ents]
  | cons p l ih =>
    obtain ⟨x,y⟩:=p
    cases i with
    | zero => simp [ents]
    | succ i => simp only [ents,List.getElem?_cons_succ,ih];congr 2;funext q;congr 1;omega
theorem ents_born (L : List (α × β)) (n : Nat) : (ents ek ev n L).map (·.born) = List.range' n L.length:=by
  induction L generalizing n with
  | nil => rfl
  | cons p l ih =>
    obtain ⟨x,y⟩:=p
    simp [ents,ih,List.range'_succ]
/-- What the step comes to: nothing is left, or an entry that has not been. -/
theorem next_cases {W : World} {r gm : Nat} {L : List (α × β)} {seen : Array Nat} {c0 : Nat} (hr : W.heap[r]? = some (.mapIter (some gm) L.length seen c0)) (hc : L.length ≤ c0) (hb : W.heap[gm]? = some (mobj ek ev L)) :
    ((∀ i,i < L.length → seen.contains i = true) ∧ ∀ ty,(Instr.next (.pointer (some ⟨r,0,none⟩)) false ty).run P W = .ok (.tuple #[.bool false]) W) ∨
    ∃ (i : Nat) (x : α) (y : β),L[i]? = some (x,y) ∧ seen.contains i = false ∧ ∃ W1 : World,(∀ ty,(Instr.next (.pointer (some ⟨r,0,none⟩)) false ty).run P W = .ok (.tuple #[.bool true,ek x,ev y]) W1) ∧
      W1.heap[r]? = some (.mapIter (some gm) L.length (seen.push i) L.length) ∧ Kept W W1 (fun k => k = r) ∧ (∀ B w,Below B w W → B ≤ r → Below B w W1):=by
  have hb' : W.heap[gm]? = some (.map (ents ek ev 0 L).toArray L.length):=hb
  have hold : ∀ x ∈ (ents ek ev 0 L).toArray.toList,x.born < L.length:=by
    intro x hx;obtain ⟨i,a',c,h1,h2⟩:=mem_ents (by simpa using hx);rw [h2];have:=(List.getElem?_eq_some_iff.1 h1).1
    simp only
    omega
  by_cases hall : ∀ i,i < L.length → seen.contains i = true
  · refine .inl ⟨hall,fun ty => ?_⟩
    rcases run_next_at (P:=P) W ty r gm L.length c0 seen _ _ hr hb' hold hc with ⟨_,h⟩ | ⟨e,he,_⟩
    · exact h
    · exfalso
      unfold leftOf at he;simp only [Array.toList_filter,List.mem_filter,Bool.not_eq_true'] at he;obtain ⟨i,a',c,h1,h2⟩:=mem_ents (by simpa using he.1);have h3:=hall i (List.getElem?_eq_some_iff.1 h1).1;have h4:=he.2;rw [h2] at h4;simp only [Nat.zero_add] at h4;rw [h3] at h4
      cases h4
  · right
    have hty : ∀ ty,∃ e ∈ (leftOf (ents ek ev 0 L).toArray seen).toList,∃ w1 : World,(w1 = W ∨ w1 = W.drew) ∧ (Instr.next (.pointer (some ⟨r,0,none⟩)) false ty).run P W = .ok (.tuple #[.bool true,e.key,e.val]) (setBlock w1 r (.mapIter (some gm) L.length (seen.push e.born) L.length)):=by
      intro ty
      rcases run_next_at (P:=P) W ty r gm L.length c0 seen _ _ hr hb' hold hc with ⟨h0,_⟩ | h
      · exfalso
        apply hall;intro i hi
        cases hs : seen.contains i with
        | true => rfl
        | false =>
          exfalso
          obtain ⟨x,y⟩:=L[i]
          have hmem : ({ key:=ek L[i].1,val:=ev L[i].2,born:=i } : MapEntry) ∈ (leftOf (ents ek ev 0 L).toArray seen).toList:=by
            unfold leftOf;simp only [Array.toList_filter,List.mem_filter,Bool.not_eq_true'];refine ⟨?_,hs⟩;have:=ents_get (ek:=ek) (ev:=ev) L 0 i;rw [List.getElem?_eq_getElem hi] at this;exact List.mem_of_getElem? (by simpa using this)
          rw [← Array.length_toList] at h0;rw [List.length_eq_zero_iff.1 h0] at hmem
          cases hmem
      · exact h
    obtain ⟨e,he,w1,hw1,hrun⟩:=hty 0;have he':=he;unfold leftOf at he';simp only [Array.toList_filter,List.mem_filter,Bool.not_eq_true'] at he';obtain ⟨i,x,y,h1,h2⟩:=mem_ents (by simpa using he'.1);(have hns : seen.contains i = false:=by have h4:=he'.2;rw [h2] at h4;simpa using h4);refine ⟨i,x,y,h1,hns,setBlock w1 r (.mapIter (some gm) L.length (seen.push i) L.length),fun ty => ?_,?_,?_,?_⟩
    · have : (Instr.next (.pointer (some ⟨r,0,none⟩)) false ty) = (Instr.next (.pointer (some ⟨r,0,none⟩)) false 0):=rfl
      rw [this,hrun,h2]
      simp
    · refine setBlock_at (o:=.mapIter (some gm) L.length seen c0) ?_ _
      rcases hw1 with rfl | rfl <;> exact hr
    · rcases hw1 with rfl | rfl
      · exact kept_block
      · exact ⟨kept_block.1,kept_block.2⟩
    · intro B w hB hle
      rcases hw1 with rfl | rfl
      · exact below_block hB hle
      · exact below_block (below_drew hB) hle
/-- The round's key and value. -/
theorem entry_run {W : World} {r gm : Nat} {L : List (α × β)} {seen : Array Nat} {i : Nat} {x : α} {y : β} (hi : L[i]? = some (x,y)) (hr : W.heap[r]? = some (.mapIter (some gm) L.length (seen.push i) L.length)) (hb : W.heap[gm]? = some (mobj ek ev L)) :
    (Instr.entry (.pointer (some ⟨r,0,none⟩))).run P W = .ok (.tuple #[ek x,ev y]) W:=by
  have h:=ents_get (ek:=ek) (ev:=ev) L 0 i;rw [hi] at h;simp only [Option.map_some,Nat.zero_add] at h;refine run_entry_at (P:=P) W r gm L.length seen (ents ek ev 0 L).toArray L.length { key:=ek x,val:=ev y,born:=i } hr hb ?_ ?_
  · simpa using List.mem_of_getElem? h
  · rw [show (ents ek ev 0 L).toArray.toList = ents ek ev 0 L from rfl,ents_born]
    exact List.nodup_range' ..
end
end Go.Proofs.Ytjcmlggdaajicaa.Mp
