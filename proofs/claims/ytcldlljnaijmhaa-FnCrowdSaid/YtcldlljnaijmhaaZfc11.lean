-- Joined and pruned by wip/tools/prune.py out of this session's own texts (PureBase, PureInts, PureCells, PureTrips, PureIntSS, PureMeet, PureGrid, PurePaths, Mp, PureBfs, PureAlone, HdAlone, Prd3, PureJoint, HdJoint, Prd4, Pr24)
import Derived.Test.YtcldlljnaijmhaaZfc10
import Derived.MapKept
import Derived.Laws.StructEq
import Derived.Maps.RangeRun
/-
Own text: what many of the pure proofs use: 'for all from i on',counters,'between',the copy and the comparison of slices of bytes.
-/
namespace Go.Proofs.Ytcldlljnaijmhaa.Pure
open Go.RowKit Go.Proofs.YtcldlljnaijmhaaW.PrintWords Go.Proofs.Ytcldlljnaijmhaa.EvKit

def From (n i : Nat) (C : Nat → Prop) : Prop:=∀ j,i ≤ j → j < n → C j
theorem From.end_ {n i : Nat} {C : Nat → Prop} (h : n ≤ i) : From n i C:=fun j h1 h2 => by omega
theorem From.step {n i : Nat} {C : Nat → Prop} (h : i < n) : From n i C ↔ C i ∧ From n (i + 1) C:=by
  constructor
  · exact fun a => ⟨a i (Nat.le_refl i) h,fun j h1 h2 => a j (by omega) h2⟩
  · rintro ⟨a,b⟩ j h1 h2
    by_cases e : j = i
    · exact e ▸ a
    · exact b j (by omega) h2
/-- One of those from i on, below n. -/
def Some_ (n i : Nat) (C : Nat → Prop) : Prop:=∃ j,i ≤ j ∧ j < n ∧ C j
theorem Some_.end_ {n i : Nat} {C : Nat → Prop} (h : n ≤ i) : ¬ Some_ n i C:=by
  rintro ⟨j,h1,h2,_⟩
  omega
theorem Some_.step {n i : Nat} {C : Nat → Prop} (h : i < n) : Some_ n i C ↔ C i ∨ Some_ n (i + 1) C:=by
  constructor
  · rintro ⟨j,h1,h2,h3⟩
    by_cases e : j = i
    · exact Or.inl (e ▸ h3)
    · exact Or.inr ⟨j,by omega,h2,h3⟩
  · rintro (a | ⟨j,h1,h2,h3⟩)
    · exact ⟨i,Nat.le_refl i,h,a⟩
    · exact ⟨j,by omega,h2,h3⟩
theorem succ_w {i : Nat} (h : i < 35184372088833) : wrap64 ((i : Int) + 1) = ((i + 1 : Nat) : Int):=by rw [wrap64_id (by omega) (by omega)];omega
end Go.Proofs.Ytcldlljnaijmhaa.Pure
/-
Own text: what the laws' own helpers on []int come to: a copy,a comparison.
-/
namespace Go.Proofs.Ytcldlljnaijmhaa.Pure
open Go.RowKit Go.Proofs.YtcldlljnaijmhaaW.PrintWords Go.Proofs.YtcldlljnaijmhaaW.PrintLast Go.Proofs.Ytcldlljnaijmhaa.Pr Go.Proofs.Ytcldlljnaijmhaa.EvKit

end Go.Proofs.Ytcldlljnaijmhaa.Pure
/-
Own text: cells: the two checks agree;what good cells are;what is free;the laws' helpers on cells.
-/
namespace Go.Proofs.Ytcldlljnaijmhaa.Pure
open Go.RowKit Go.Proofs.YtcldlljnaijmhaaW.PrintWords Go.Proofs.YtcldlljnaijmhaaW.PrintLast Go.Proofs.Ytcldlljnaijmhaa.Pr Go.Proofs.Ytcldlljnaijmhaa.EvKit
open Classical

def Sq (w : Int) (n : Nat) : Prop:=1 ≤ w ∧ w ≤ 16 ∧ (n : Int) % w = 0 ∧ w ≤ n ∧ (n : Int) / w ≤ 16
/-- Good cells. -/
def Cl (w : Int) (c : List Int) : Prop:=Sq w c.length ∧ From c.length 0 fun j => 0 ≤ c.getD j 0 ∧ c.getD j 0 ≤ 2

theorem sq_impl (w : Int) (n : Nat) (hn : n ≤ 35184372088832) : impl_squared.f w n = some (decide (Sq w n)):=by
  unfold impl_squared.f Sq;by_cases h1 : w ≥ 1
  · by_cases h2 : w ≤ 16
    · have hm : (n : Int).tmod w = (n : Int) % w:=Int.tmod_eq_emod_of_nonneg (by omega)
      have hd : (n : Int).tdiv w = (n : Int) / w:=Int.tdiv_eq_ediv_of_nonneg (by omega);rw [if_pos h1,if_pos h2,if_neg (by omega),hm,hd];by_cases h3 : (n : Int) % w = 0
      · have hle : (n : Int) / w ≤ n:=Int.ediv_le_self _ (by omega)
        have h0 : 0 ≤ (n : Int) / w:=Int.ediv_nonneg (by omega) (by omega);have key : (n : Int) / w ≥ 1 ↔ w ≤ n:=(Int.le_ediv_iff_mul_le (by omega)).trans (by rw [Int.one_mul]);rw [if_pos h3,wrap64_id (by omega) (by omega)];by_cases h4 : (n : Int) / w ≥ 1
        · have h5 : w ≤ n:=key.1 h4
          rw [if_pos h4]
          simp [h1,h2,h3,h5]
        · have h5 : ¬ w ≤ n:=fun h => h4 (key.2 h)
          rw [if_neg h4]
          simp [h5]
      · rw [if_neg h3]
        simp [h3]
    · rw [if_pos h1,if_neg h2]
      simp [h2]
  · rw [if_neg h1]
    simp [show ¬ 1 ≤ w from h1]
theorem sq_spec (w : Int) (n : Nat) (hn : n ≤ 35184372088832) : spec_l12Sized.f w n = some (decide (Sq w n)):=by
  unfold spec_l12Sized.f Sq;by_cases h1 : w ≥ 1
  · by_cases h2 : w ≤ 16
    · have hm : (n : Int).tmod w = (n : Int) % w:=Int.tmod_eq_emod_of_nonneg (by omega)
      have hd : (n : Int).tdiv w = (n : Int) / w:=Int.tdiv_eq_ediv_of_nonneg (by omega);have hle : (n : Int) / w ≤ n:=Int.ediv_le_self _ (by omega);have h0 : 0 ≤ (n : Int) / w:=Int.ediv_nonneg (by omega) (by omega);rw [if_pos h1,if_pos h2,hm,hd,if_neg (show ¬ w = 0 by omega),wrap64_id (by omega) (by omega)];by_cases h4 : (n : Int) ≥ w
      · rw [if_pos h4]
        by_cases h3 : (n : Int) % w = 0
        · rw [if_pos h3]
          simp [h1,h2,h3,show w ≤ (n : Int) from h4]
        · rw [if_neg h3]
          simp [h3]
      · rw [if_neg h4]
        simp [show ¬ w ≤ (n : Int) from h4]
    · rw [if_pos h1,if_neg h2]
      simp [h2]
  · rw [if_neg h1]
    simp [show ¬ 1 ≤ w from h1]

theorem cells_l0 (c : List Int) (hn : c.length ≤ 35184372088832) (d : Nat) : ∀ i : Nat,i + d = c.length →
    Ev (fun k => impl_GoodCells.l0 k c (c.length : Int) i) (decide (From c.length i fun j => 0 ≤ c.getD j 0 ∧ c.getD j 0 ≤ 2)) ∧ Ev (fun k => spec_GoodCells.l0 k c (c.length : Int) i) (decide (From c.length i fun j => 0 ≤ c.getD j 0 ∧ c.getD j 0 ≤ 2)):=by
  induction d with
  | zero =>
    intro i hi
    have e : decide (From c.length i fun j => 0 ≤ c.getD j 0 ∧ c.getD j 0 ≤ 2) = true:=by
      rw [decide_eq_true_eq];exact From.end_ (by omega)
    rw [e];refine ⟨Ev.succ ?_,Ev.succ ?_⟩
    · simp only [impl_GoodCells.l0]
      exact Ev.neg (by omega) (Ev.some rfl)
    · simp only [spec_GoodCells.l0]
      exact Ev.neg (by omega) (Ev.some rfl)
  | succ d ih =>
    intro i hi;obtain ⟨a,b⟩:=ih (i + 1) (by omega);have step:=From.step (n:=c.length) (i:=i) (C:=fun j => 0 ≤ c.getD j 0 ∧ c.getD j 0 ≤ 2) (by omega);have e : rd c (i : Int) = c.getD i 0:=rfl;by_cases h : 0 ≤ c.getD i 0 ∧ c.getD i 0 ≤ 2
    · have e2 : decide (From c.length i fun j => 0 ≤ c.getD j 0 ∧ c.getD j 0 ≤ 2) = decide (From c.length (i + 1) fun j => 0 ≤ c.getD j 0 ∧ c.getD j 0 ≤ 2):=by
        rw [decide_eq_decide];exact ⟨fun x => (step.1 x).2,fun x => step.2 ⟨h,x⟩⟩
      rw [e2];refine ⟨Ev.succ ?_,Ev.succ ?_⟩
      · simp only [impl_GoodCells.l0,e,succ_w (show i < 35184372088833 by omega)]
        exact Ev.pos (by omega) (Ev.pos (by omega) (Ev.pos (by omega) (Ev.neg (by omega) (Ev.neg (by omega) a))))
      · simp only [spec_GoodCells.l0,e,succ_w (show i < 35184372088833 by omega)]
        exact Ev.pos (by omega) (Ev.pos (by omega) (Ev.pos (by omega) (Ev.neg (by omega) (Ev.neg (by omega) b))))
    · have e2 : decide (From c.length i fun j => 0 ≤ c.getD j 0 ∧ c.getD j 0 ≤ 2) = false:=by
        rw [decide_eq_false_iff_not];(exact fun x => h (step.1 x).1)
      rw [e2];refine ⟨Ev.succ ?_,Ev.succ ?_⟩
      · simp only [impl_GoodCells.l0,e]
        exact Ev.pos (by omega) (Ev.pos (by omega) (Ev.pos (by omega) (Ev.ite (fun _ => Ev.some rfl) (fun _ => Ev.pos (by omega) (Ev.some rfl)))))
      · simp only [spec_GoodCells.l0,e]
        exact Ev.pos (by omega) (Ev.pos (by omega) (Ev.pos (by omega) (Ev.ite (fun _ => Ev.some rfl) (fun _ => Ev.pos (by omega) (Ev.some rfl)))))
theorem goodCells_impl (w : Int) (c : List Int) (hn : c.length ≤ 35184372088832) : Ev (fun k => impl_GoodCells.f k w c) (decide (Cl w c)):=by
  simp only [impl_GoodCells.f];refine Ev.bnd0 (sq_impl w c.length hn) (Ev.ite (fun h => Ev.eq (cells_l0 c hn c.length 0 (by omega)).1 ?_) (fun h => Ev.some ?_))
  · rw [decide_eq_decide]
    exact ⟨fun x => ⟨by simpa using h,x⟩,fun x => x.2⟩
  · symm
    rw [decide_eq_false_iff_not];(exact fun x => h (by simpa using x.1))
theorem goodCells_spec (w : Int) (c : List Int) (hn : c.length ≤ 35184372088832) : Ev (fun k => spec_GoodCells.f k w c) (decide (Cl w c)):=by
  simp only [spec_GoodCells.f];refine Ev.bnd0 (sq_spec w c.length hn) (Ev.ite (fun h => Ev.eq (cells_l0 c hn c.length 0 (by omega)).2 ?_) (fun h => Ev.some ?_))
  · rw [decide_eq_decide]
    exact ⟨fun x => ⟨by simpa using h,x⟩,fun x => x.2⟩
  · symm
    rw [decide_eq_false_iff_not];(exact fun x => h (by simpa using x.1))

/-- The number of a free cell. -/
def Fr (c : List Int) (a : Int) : Prop:=0 ≤ a ∧ a < c.length ∧ c.getD a.toNat 0 = 0
theorem free_impl (w : Int) (c : List Int) (a : Int) : impl_Cells_free.f w c a = some (decide (Fr c a)):=by
  unfold impl_Cells_free.f;have e : rd c a = c.getD a.toNat 0:=rfl;by_cases h1 : a ≥ 0
  · by_cases h2 : a < (c.length : Int)
    · rw [if_pos h1,if_pos h2,if_pos h1,e]
      congr 1
      by_cases h3 : c.getD a.toNat 0 = 0
      · rw [decide_eq_true (p:=Fr c a) (And.intro h1 (And.intro h2 h3)),h3]
        rfl
      · rw [decide_eq_false (p:=Fr c a) (fun x => h3 x.2.2)]
        simpa using h3
    · rw [if_pos h1,if_neg h2,decide_eq_false (p:=Fr c a) (fun x => h2 x.2.1)]
  · rw [if_neg h1,decide_eq_false (p:=Fr c a) (fun x => h1 x.1)]
theorem free_spec (w : Int) (c : List Int) (a : Int) : spec_l12Free.f w c a = some (decide (Fr c a)):=free_impl w c a

/-! ### the laws' helpers -/
end Go.Proofs.Ytcldlljnaijmhaa.Pure
/-
Own text: good trips: the program and the reference come to the same;the laws' helpers on trips.
-/
namespace Go.Proofs.Ytcldlljnaijmhaa.Pure
open Go.RowKit Go.Proofs.YtcldlljnaijmhaaW.PrintWords Go.Proofs.YtcldlljnaijmhaaW.PrintLast Go.Proofs.Ytcldlljnaijmhaa.Pr Go.Proofs.Ytcldlljnaijmhaa.EvKit
open Classical

def TR (l : List S49) (i : Nat) : S49:=l.getD i z49
/-- Trip i is fine: both ends free, no end shared with an earlier one. -/
def Tr1 (c : List Int) (l : List S49) (i : Nat) : Prop:=(Fr c (TR l i).f0 ∧ Fr c (TR l i).f1) ∧ From i 0 fun j => ¬ (TR l j).f0 = (TR l i).f0 ∧ ¬ (TR l j).f1 = (TR l i).f1
/-- Good trips. -/
def Gt (w : Int) (c : List Int) (l : List S49) : Prop:=Cl w c ∧ l.length ≤ 5 ∧ From l.length 0 (Tr1 c l)

theorem trips_l1 (w : Int) (c : List Int) (l : List S49) (hn : l.length ≤ 5) (i : Nat) (hi : i < l.length) (r : Bool)
    (h1 : (From i 0 fun j => ¬ (TR l j).f0 = (TR l i).f0 ∧ ¬ (TR l j).f1 = (TR l i).f1) → Ev (fun k => impl_GoodTrips.l0 k l l (l.length : Int) ((i + 1 : Nat) : Int) w c) r ∧ Ev (fun k => spec_GoodTrips.l0 k l l (l.length : Int) ((i + 1 : Nat) : Int) w c) r)
    (h2 : ¬ (From i 0 fun j => ¬ (TR l j).f0 = (TR l i).f0 ∧ ¬ (TR l j).f1 = (TR l i).f1) → r = false) (d : Nat) : ∀ j : Nat,j + d = i → (From j 0 fun j => ¬ (TR l j).f0 = (TR l i).f0 ∧ ¬ (TR l j).f1 = (TR l i).f1) →
    Ev (fun k => impl_GoodTrips.l1 k l l (l.length : Int) i (l.take i) (((l.take i).length : Nat) : Int) j w c (TR l i).f0 (TR l i).f1) r ∧ Ev (fun k => spec_GoodTrips.l1 k l i j l (l.length : Int) i w c (TR l i).f0 (TR l i).f1) r:=by
  (have htl : (l.take i).length = i:=by simp;omega)
  induction d with
  | zero =>
    intro j hj hu
    obtain ⟨a,b⟩:=h1 (by
                            have e : j = i:=by omega
                            subst e
                            exact hu)
    refine ⟨Ev.succ ?_,Ev.succ ?_⟩
    · simp only [impl_GoodTrips.l1,htl,succ_w (show i < 35184372088833 by omega)]
      exact Ev.neg (by omega) a
    · simp only [spec_GoodTrips.l1,succ_w (show i < 35184372088833 by omega)]
      exact Ev.neg (by omega) b
  | succ d ih =>
    intro j hj hu
    have e0 : rd_T49 (l.take i) (j : Int) = TR l j:=by
      unfold rd_T49 TR
      simp [List.getD_eq_getElem?_getD,show j < i by omega]
    have e1 : rd_T49 l (j : Int) = TR l j:=rfl;(have bad : ¬ (¬ (TR l j).f0 = (TR l i).f0 ∧ ¬ (TR l j).f1 = (TR l i).f1) → r = false:=fun h => h2 (fun a => h (a j (by omega) (by omega))));by_cases h0 : ¬ (TR l j).f0 = (TR l i).f0 ∧ ¬ (TR l j).f1 = (TR l i).f1
    · obtain ⟨a,b⟩:=ih (j + 1) (by omega) (fun q _ hq2 => by
        by_cases e : q = j
        · exact e ▸ h0
        · exact hu q (by omega) (by omega))
      rw [htl] at a;refine ⟨Ev.succ ?_,Ev.succ ?_⟩
      · simp only [impl_GoodTrips.l1,htl,e0,succ_w (show j < 35184372088833 by omega)]
        exact Ev.pos (by omega) (Ev.pos (by omega) (Ev.pos (by omega) (Ev.neg h0.1 (Ev.neg h0.2 a))))
      · simp only [spec_GoodTrips.l1,e1,succ_w (show j < 35184372088833 by omega)]
        exact Ev.pos (by omega) (Ev.pos (by omega) (Ev.pos (by omega) (Ev.neg h0.1 (Ev.neg h0.2 b))))
    · have e:=bad h0
      refine ⟨Ev.succ ?_,Ev.succ ?_⟩
      · simp only [impl_GoodTrips.l1,htl,e0]
        exact Ev.pos (by omega) (Ev.pos (by omega) (Ev.pos (by omega) (Ev.ite (fun _ => Ev.some e.symm) (fun h => Ev.pos (Classical.byContradiction fun h' => h0 ⟨h,h'⟩) (Ev.some e.symm)))))
      · simp only [spec_GoodTrips.l1,e1]
        exact Ev.pos (by omega) (Ev.pos (by omega) (Ev.pos (by omega) (Ev.ite (fun _ => Ev.some e.symm) (fun h => Ev.pos (Classical.byContradiction fun h' => h0 ⟨h,h'⟩) (Ev.some e.symm)))))

theorem trips_l0 (w : Int) (c : List Int) (l : List S49) (hn : l.length ≤ 5) (d : Nat) : ∀ i : Nat,i + d = l.length →
    Ev (fun k => impl_GoodTrips.l0 k l l (l.length : Int) i w c) (decide (From l.length i (Tr1 c l))) ∧ Ev (fun k => spec_GoodTrips.l0 k l l (l.length : Int) i w c) (decide (From l.length i (Tr1 c l))):=by
  induction d with
  | zero =>
    intro i hi
    have e : decide (From l.length i (Tr1 c l)) = true:=by
      rw [decide_eq_true_eq];exact From.end_ (by omega)
    rw [e];refine ⟨Ev.succ ?_,Ev.succ ?_⟩
    · simp only [impl_GoodTrips.l0]
      exact Ev.neg (by omega) (Ev.some rfl)
    · simp only [spec_GoodTrips.l0]
      exact Ev.neg (by omega) (Ev.some rfl)
  | succ d ih =>
    intro i hi;have step:=From.step (n:=l.length) (i:=i) (C:=Tr1 c l) (by omega);have e1 : rd_T49 l (i : Int) = TR l i:=rfl;have nx:=ih (i + 1) (by omega);(have htl : (l.take i).length = i:=by simp;omega);generalize hR : decide (From l.length i (Tr1 c l)) = R;(have bad : ¬ Tr1 c l i → R = false:=fun h => by rw [← hR,decide_eq_false_iff_not];exact fun x => h (step.1 x).1);(have good : Tr1 c l i → R = decide (From l.length (i + 1) (Tr1 c l)):=fun h => by rw [← hR,decide_eq_decide];exact ⟨fun x => (step.1 x).2,fun x => step.2 ⟨h,x⟩⟩)
    have jno : (¬ (Fr c (TR l i).f0 ∧ Fr c (TR l i).f1)) → Ev (fun k => impl_GoodTrips.j2 k l i l (l.length : Int) i true w c (TR l i).f0 (TR l i).f1) R ∧ Ev (fun k => spec_GoodTrips.j2 k l i l (l.length : Int) i true w c (TR l i).f0 (TR l i).f1) R:=by
      intro h;have e:=bad (fun x => h x.1);refine ⟨Ev.succ ?_,Ev.succ ?_⟩
      · simp only [impl_GoodTrips.j2,if_true]
        exact Ev.some e.symm
      · simp only [spec_GoodTrips.j2,if_true]
        exact Ev.some e.symm
    have jyes : Fr c (TR l i).f0 ∧ Fr c (TR l i).f1 → Ev (fun k => impl_GoodTrips.j2 k l i l (l.length : Int) i false w c (TR l i).f0 (TR l i).f1) R ∧ Ev (fun k => spec_GoodTrips.j2 k l i l (l.length : Int) i false w c (TR l i).f0 (TR l i).f1) R:=by
      intro h;obtain ⟨a,b⟩:=trips_l1 w c l hn i (by omega) R (fun x => by rw [good ⟨h,x⟩];exact nx) (fun x => bad (fun y => x y.2)) i 0 (by omega) (fun q hq hq2 => by omega);refine ⟨Ev.succ ?_,Ev.succ ?_⟩
      · simp only [impl_GoodTrips.j2,Bool.false_eq_true,if_false,Option.bind_some,Int.toNat_natCast]
        exact Ev.pos (by omega) (Ev.pos (by omega) a)
      · simp only [spec_GoodTrips.j2,Bool.false_eq_true,if_false]
        exact b
    by_cases ha : Fr c (TR l i).f0
    · by_cases hb : Fr c (TR l i).f1
      · obtain ⟨a,b⟩:=jyes ⟨ha,hb⟩
        refine ⟨Ev.succ ?_,Ev.succ ?_⟩
        · simp only [impl_GoodTrips.l0,e1]
          refine Ev.pos (by omega) (Ev.pos (by omega) (Ev.pos (by omega) (Ev.bnd0 (free_impl w c _) (Ev.pos (by simpa using ha) (Ev.bnd0 (free_impl w c _) ?_)))));rw [decide_eq_true hb];exact a
        · simp only [spec_GoodTrips.l0,e1]
          refine Ev.pos (by omega) (Ev.pos (by omega) (Ev.pos (by omega) (Ev.bnd0 (free_spec w c _) (Ev.pos (by simpa using ha) (Ev.bnd0 (free_spec w c _) ?_)))));rw [decide_eq_true hb];exact b
      · obtain ⟨a,b⟩:=jno (fun x => hb x.2)
        refine ⟨Ev.succ ?_,Ev.succ ?_⟩
        · simp only [impl_GoodTrips.l0,e1]
          refine Ev.pos (by omega) (Ev.pos (by omega) (Ev.pos (by omega) (Ev.bnd0 (free_impl w c _) (Ev.pos (by simpa using ha) (Ev.bnd0 (free_impl w c _) ?_)))));rw [decide_eq_false hb];exact a
        · simp only [spec_GoodTrips.l0,e1]
          refine Ev.pos (by omega) (Ev.pos (by omega) (Ev.pos (by omega) (Ev.bnd0 (free_spec w c _) (Ev.pos (by simpa using ha) (Ev.bnd0 (free_spec w c _) ?_)))));rw [decide_eq_false hb];exact b
    · obtain ⟨a,b⟩:=jno (fun x => ha x.1)
      refine ⟨Ev.succ ?_,Ev.succ ?_⟩
      · simp only [impl_GoodTrips.l0,e1]
        exact Ev.pos (by omega) (Ev.pos (by omega) (Ev.pos (by omega) (Ev.bnd0 (free_impl w c _) (Ev.neg (by simpa using ha) a))))
      · simp only [spec_GoodTrips.l0,e1]
        exact Ev.pos (by omega) (Ev.pos (by omega) (Ev.pos (by omega) (Ev.bnd0 (free_spec w c _) (Ev.neg (by simpa using ha) b))))

theorem goodTrips_both (w : Int) (c : List Int) (l : List S49) (hn : c.length ≤ 35184372088832) : Ev (fun k => impl_GoodTrips.f k w c l) (decide (Gt w c l)) ∧ Ev (fun k => spec_GoodTrips.f k w c l) (decide (Gt w c l)):=by
  have no : ¬ Gt w c l → Ev (fun k => impl_GoodTrips.j0 k l true w c) (decide (Gt w c l)) ∧ Ev (fun k => spec_GoodTrips.j0 k l true w c) (decide (Gt w c l)):=by
    intro h;rw [decide_eq_false h];refine ⟨Ev.succ ?_,Ev.succ ?_⟩
    · simp only [impl_GoodTrips.j0,if_true];exact Ev.some rfl
    · simp only [spec_GoodTrips.j0,if_true];exact Ev.some rfl
  simp only [impl_GoodTrips.f,spec_GoodTrips.f];by_cases hc : Cl w c
  · by_cases h5 : (l.length : Int) > 5
    · obtain ⟨a,b⟩:=no (fun x => by have:=x.2.1;omega)
      rw [decide_eq_true h5];exact ⟨Ev.bnd (goodCells_impl w c hn) (Ev.pos (by simpa using hc) a),Ev.bnd (goodCells_spec w c hn) (Ev.pos (by simpa using hc) b)⟩
    · obtain ⟨a,b⟩:=trips_l0 w c l (by omega) l.length 0 (by omega)
      have e : decide (Gt w c l) = decide (From l.length 0 (Tr1 c l)):=by
        rw [decide_eq_decide];exact ⟨fun x => x.2.2,fun x => ⟨hc,by omega,x⟩⟩
      rw [e,decide_eq_false h5];refine ⟨Ev.bnd (goodCells_impl w c hn) (Ev.pos (by simpa using hc) (Ev.succ ?_)),Ev.bnd (goodCells_spec w c hn) (Ev.pos (by simpa using hc) (Ev.succ ?_))⟩
      · simp only [impl_GoodTrips.j0,Bool.false_eq_true,if_false];exact a
      · simp only [spec_GoodTrips.j0,Bool.false_eq_true,if_false];exact b
  · obtain ⟨a,b⟩:=no (fun x => hc x.1)
    exact ⟨Ev.bnd (goodCells_impl w c hn) (Ev.neg (by simpa using hc) a),Ev.bnd (goodCells_spec w c hn) (Ev.neg (by simpa using hc) b)⟩

/-! ### the laws' helpers -/
end Go.Proofs.Ytcldlljnaijmhaa.Pure
/-
Own text: what the laws' own helpers on [][]int come to: their size,a copy,a comparison.
-/
namespace Go.Proofs.Ytcldlljnaijmhaa.Pure
open Go.RowKit Go.Proofs.YtcldlljnaijmhaaW.PrintWords Go.Proofs.YtcldlljnaijmhaaW.PrintLast Go.Proofs.Ytcldlljnaijmhaa.Pr Go.Proofs.Ytcldlljnaijmhaa.EvKit

end Go.Proofs.Ytcldlljnaijmhaa.Pure
/-
Own text: the first tick at which two paths meet: the program and the reference come to the same.
-/
namespace Go.Proofs.Ytcldlljnaijmhaa.Pure
open Go.RowKit Go.Proofs.YtcldlljnaijmhaaW.PrintWords Go.Proofs.YtcldlljnaijmhaaW.PrintLast Go.Proofs.Ytcldlljnaijmhaa.Pr Go.Proofs.Ytcldlljnaijmhaa.EvKit
open Classical

def P_ (l : List (List Int)) (i k : Nat) : Int:=(l.getD i []).getD k 0
/-- At the tick k path i meets path j. -/
def Hit (l : List (List Int)) (k i j : Nat) : Prop:=P_ l i k = P_ l j k ∨ (0 < k ∧ P_ l i k = P_ l j (k - 1) ∧ P_ l j k = P_ l i (k - 1))
/-- All as long as m. -/
def Long (l : List (List Int)) (m i : Nat) : Prop:=From l.length i fun j => (l.getD j []).length = m

theorem hits_eq (l : List (List Int)) (m : Nat) (hm : Long l m 0) (k i j : Nat) (hk : k < m) (hj : j < l.length) (hm2 : m ≤ 1048576) :
    spec_l20Hits.f (rd_L1 l (j : Int)) k (if k > 0 then P_ l i (k - 1) else P_ l i k) (P_ l i k) = some (decide (Hit l k i j)):=by
  have hl : (l.getD j []).length = m:=hm j (by omega) hj;have e : rd_L1 l (j : Int) = l.getD j []:=rfl;have e2 : rd (l.getD j []) (k : Int) = P_ l j k:=rfl;simp only [spec_l20Hits.f,e,e2,hl,show (0 : Int) ≤ (k : Int) by omega,show (k : Int) < (m : Int) by omega,if_true];unfold Hit;by_cases h1 : P_ l j k = P_ l i k
  · rw [if_pos h1]
    simp [h1]
  · rw [if_neg h1]
    by_cases h2 : k > 0
    · have e3 : rd (l.getD j []) ((k : Int) - 1) = P_ l j (k - 1):=by
        unfold rd P_;rw [show ((k : Int) - 1).toNat = k - 1 by omega]
      rw [if_pos (show (k : Int) > 0 by omega),wrap64_id (x:=(k : Int) - 1) (by omega) (by omega),if_pos (by omega),if_pos (by omega),e3,if_pos h2];by_cases h3 : P_ l j (k - 1) = P_ l i k
      · rw [if_pos h3]
        congr 1
        (have h1' : ¬ P_ l i k = P_ l j k:=fun h => h1 h.symm)
        simp [h1',h2,h3]
        rfl
      · rw [if_neg h3]
        (have h1' : ¬ P_ l i k = P_ l j k:=fun h => h1 h.symm);(have h3' : ¬ P_ l i k = P_ l j (k - 1):=fun h => h3 h.symm)
        simp [h1',h3']
    · rw [if_neg (show ¬ (k : Int) > 0 by omega)]
      (have h1' : ¬ P_ l i k = P_ l j k:=fun h => h1 h.symm);have h2' : ¬ 0 < k:=h2
      simp [h1',h2']

theorem spec_m3 (l : List (List Int)) (m : Nat) (hm : Long l m 0) (hn : l.length ≤ 5) (hm2 : m ≤ 1048576) (k i : Nat) (hk : k < m) (hi : i < l.length) (r : Int) (d : Nat) : ∀ j : Nat,j + d = i →
    (Some_ i j (Hit l k i) → r = k) → (¬ Some_ i j (Hit l k i) → Ev (fun q => spec_FirstMeet.l2 q l k m k l (l.length : Int) ((i + 1 : Nat) : Int)) r) →
    Ev (fun q => spec_FirstMeet.l3 q l k i (l.getD i []) j m k l (l.length : Int) i) r:=by
  induction d with
  | zero =>
    intro j hj h1 h2;apply Ev.succ;simp only [spec_FirstMeet.l3,show ¬ ((j : Int) < (i : Int)) by omega,if_false,succ_w (show i < 35184372088833 by omega)];exact h2 (Some_.end_ (by omega))
  | succ d ih =>
    intro j hj h1 h2;have step:=Some_.step (n:=i) (i:=j) (C:=Hit l k i) (by omega);have hli : (l.getD i []).length = m:=hm i (by omega) hi;have next:=ih (j + 1) (by omega) (fun h => h1 (step.2 (Or.inr h)));have he:=hits_eq l m hm k i j hk (by omega) hm2;have e1 : rd (l.getD i []) (k : Int) = P_ l i k:=rfl;apply Ev.succ;simp only [spec_FirstMeet.l3,hli,show (j : Int) < (i : Int) by omega,show (0 : Int) ≤ (k : Int) by omega,show (k : Int) < (m : Int) by omega,show (0 : Int) ≤ (j : Int) by omega,show (j : Int) < (l.length : Int) by omega,if_true,succ_w (show j < 35184372088833 by omega),e1]
    have fin : ∀ b,b = decide (Hit l k i j) → Ev (fun q => if b = true then some (k : Int) else spec_FirstMeet.l3 q l k i (l.getD i []) ((j + 1 : Nat) : Int) m k l (l.length : Int) i) r:=by
      intro b hb;subst hb;refine Ev.ite (fun h => Ev.some (h1 (step.2 (Or.inl (by simpa using h)))).symm) (fun h => next (fun h' => h2 (fun a => (step.1 a).elim (fun b => h (by simpa using b)) h')))
    by_cases hk0 : k > 0
    · have e3 : rd (l.getD i []) ((k : Int) - 1) = P_ l i (k - 1):=by
        unfold rd P_;rw [show ((k : Int) - 1).toNat = k - 1 by omega]
      rw [if_pos hk0] at he;simp only [wrap64_id (x:=(k : Int) - 1) (by omega) (by omega),e3];exact Ev.pos (by omega) (Ev.pos (by omega) (Ev.pos (by omega) (Ev.bnd0 he (fin _ rfl))))
    · rw [if_neg hk0] at he
      exact Ev.neg (by omega) (Ev.bnd0 he (fin _ rfl))

theorem impl_m3 (l : List (List Int)) (m : Nat) (hm : Long l m 0) (hn : l.length ≤ 5) (hm2 : m ≤ 1048576) (k i : Nat) (hk : k < m) (hi : i < l.length) (r : Int) (d : Nat) : ∀ j : Nat,j + d = i →
    (Some_ i j (Hit l k i) → r = k) → (¬ Some_ i j (Hit l k i) → Ev (fun q => impl_FirstMeet.l2 q l k m k l (l.length : Int) ((i + 1 : Nat) : Int)) r) →
    Ev (fun q => impl_FirstMeet.l3 q l k (l.getD i []) m k l (l.length : Int) i (l.take i) (((l.take i).length : Nat) : Int) j) r:=by
  (have htl : (l.take i).length = i:=by simp;omega)
  induction d with
  | zero =>
    intro j hj h1 h2;apply Ev.succ;simp only [impl_FirstMeet.l3,htl,show ¬ ((j : Int) < (i : Int)) by omega,if_false,succ_w (show i < 35184372088833 by omega)];exact h2 (Some_.end_ (by omega))
  | succ d ih =>
    intro j hj h1 h2;have step:=Some_.step (n:=i) (i:=j) (C:=Hit l k i) (by omega);have hli : (l.getD i []).length = m:=hm i (by omega) hi;have hlj : (l.getD j []).length = m:=hm j (by omega) (by omega);have next:=ih (j + 1) (by omega) (fun h => h1 (step.2 (Or.inr h)));have e1 : rd (l.getD i []) (k : Int) = P_ l i k:=rfl;have e2 : rd (l.getD j []) (k : Int) = P_ l j k:=rfl
    have e0 : rd_L1 (l.take i) (j : Int) = l.getD j []:=by
      unfold rd_L1
      simp [List.getD_eq_getElem?_getD,show j < i by omega]
    apply Ev.succ;rw [htl] at next;simp only [impl_FirstMeet.l3,htl,e0,hli,hlj,show (j : Int) < (i : Int) by omega,show (0 : Int) ≤ (k : Int) by omega,show (k : Int) < (m : Int) by omega,show (0 : Int) ≤ (j : Int) by omega,if_true,succ_w (show j < 35184372088833 by omega),e1,e2];(have no : (¬ Hit l k i j) → Ev (fun q => impl_FirstMeet.l3 q l k (l.getD i []) m k l (l.length : Int) i (l.take i) (i : Int) ((j + 1 : Nat) : Int)) r:=fun h => next (fun h' => h2 (fun a => (step.1 a).elim h h')));(have yes : Hit l k i j → Ev (fun _ => some (k : Int)) r:=fun h => Ev.some (h1 (step.2 (Or.inl h))).symm);unfold Hit at no yes;refine Ev.ite (fun h => yes (Or.inl h)) (fun h => Ev.ite (fun hk0 => ?_) (fun hk0 => no (fun a => a.elim h (fun b => hk0 (by omega)))))
    have e3 : rd (l.getD i []) ((k : Int) - 1) = P_ l i (k - 1):=by
      unfold rd P_;rw [show ((k : Int) - 1).toNat = k - 1 by omega]
    have e4 : rd (l.getD j []) ((k : Int) - 1) = P_ l j (k - 1):=by
      unfold rd P_;rw [show ((k : Int) - 1).toNat = k - 1 by omega]
    simp only [wrap64_id (x:=(k : Int) - 1) (by omega) (by omega),e3,e4];refine Ev.pos (by omega) (Ev.pos (by omega) (Ev.ite (fun h3 => Ev.pos (by omega) (Ev.ite (fun h4 => yes (Or.inr ⟨by omega,h3,h4⟩)) (fun h4 => no (fun a => a.elim h (fun b => h4 b.2.2))))) (fun h3 => no (fun a => a.elim h (fun b => h3 b.2.1)))))

/-- At the tick k two meet, the later one from i on. -/
def Two (l : List (List Int)) (k i : Nat) : Prop:=Some_ l.length i fun p => Some_ p 0 (Hit l k p)

theorem both_m2 (l : List (List Int)) (m : Nat) (hm : Long l m 0) (hn : l.length ≤ 5) (hm2 : m ≤ 1048576) (k : Nat) (hk : k < m) (r : Int) (d : Nat) : ∀ i : Nat,i + d = l.length → (Two l k i → r = k) →
    (¬ Two l k i → Ev (fun q => spec_FirstMeet.l1 q l m ((k + 1 : Nat) : Int)) r ∧ Ev (fun q => impl_FirstMeet.l1 q l m ((k + 1 : Nat) : Int)) r) →
    Ev (fun q => spec_FirstMeet.l2 q l k m k l (l.length : Int) i) r ∧ Ev (fun q => impl_FirstMeet.l2 q l k m k l (l.length : Int) i) r:=by
  induction d with
  | zero =>
    intro i hi h1 h2;obtain ⟨a,b⟩:=h2 (Some_.end_ (by omega));refine ⟨Ev.succ ?_,Ev.succ ?_⟩
    · simp only [spec_FirstMeet.l2,show ¬ ((i : Int) < (l.length : Int)) by omega,if_false,succ_w (show k < 35184372088833 by omega)]
      exact a
    · simp only [impl_FirstMeet.l2,show ¬ ((i : Int) < (l.length : Int)) by omega,if_false,succ_w (show k < 35184372088833 by omega)]
      exact b
  | succ d ih =>
    intro i hi h1 h2;have step:=Some_.step (n:=l.length) (i:=i) (C:=fun p => Some_ p 0 (Hit l k p)) (by omega);(have next:=fun h => ih (i + 1) (by omega) (fun a => h1 (step.2 (Or.inr a))) (fun a => h2 (fun b => (step.1 b).elim h a)));refine ⟨Ev.succ ?_,Ev.succ ?_⟩
    · simp only [spec_FirstMeet.l2]
      exact Ev.pos (by omega) (Ev.pos (by omega) (Ev.pos (by omega) (spec_m3 l m hm hn hm2 k i hk (by omega) r i 0 (by omega) (fun a => h1 (step.2 (Or.inl a))) (fun a => (next a).1))))
    · simp only [impl_FirstMeet.l2,Option.bind_some,Int.toNat_natCast]
      exact Ev.pos (by omega) (Ev.pos (by omega) (Ev.pos (by omega) (Ev.pos (by omega) (impl_m3 l m hm hn hm2 k i hk (by omega) r i 0 (by omega) (fun a => h1 (step.2 (Or.inl a))) (fun a => (next a).2)))))

theorem both_m1 (l : List (List Int)) (m : Nat) (hm : Long l m 0) (hn : l.length ≤ 5) (hm2 : m ≤ 1048576) (d : Nat) : ∀ k : Nat,k + d = m →
    ∃ r : Int,(r = -1 ∨ (k ≤ r ∧ r < m)) ∧ (∀ q : Nat,k ≤ q → q < m → Two l q 0 → r ≠ -1 ∧ r ≤ q) ∧ (∀ q : Nat,r = q → Two l q 0) ∧
      Ev (fun q => spec_FirstMeet.l1 q l m k) r ∧ Ev (fun q => impl_FirstMeet.l1 q l m k) r:=by
  induction d with
  | zero =>
    intro k hk;refine ⟨-1,Or.inl rfl,fun q h1 h2 _ => by omega,fun q h => by omega,Ev.succ ?_,Ev.succ ?_⟩
    · simp only [spec_FirstMeet.l1,show ¬ ((k : Int) < (m : Int)) by omega,if_false]
      exact Ev.some rfl
    · simp only [impl_FirstMeet.l1,show ¬ ((k : Int) < (m : Int)) by omega,if_false]
      exact Ev.some rfl
  | succ d ih =>
    intro k hk;obtain ⟨r,p1,p2,p3,p4,p5⟩:=ih (k + 1) (by omega);by_cases ht : Two l k 0
    · obtain ⟨a,b⟩:=both_m2 l m hm hn hm2 k (by omega) k l.length 0 (by omega) (fun _ => rfl) (fun h => absurd ht h)
      refine ⟨k,Or.inr ⟨by omega,by omega⟩,fun q h1 h2 _ => ⟨by omega,by omega⟩,fun q h => by rw [show q = k by omega];exact ht,Ev.succ ?_,Ev.succ ?_⟩
      · simp only [spec_FirstMeet.l1]
        exact Ev.pos (by omega) a
      · simp only [impl_FirstMeet.l1]
        exact Ev.pos (by omega) b
    · obtain ⟨a,b⟩:=both_m2 l m hm hn hm2 k (by omega) r l.length 0 (by omega) (fun h => absurd h ht) (fun _ => ⟨p4,p5⟩)
      refine ⟨r,p1.imp id (fun h => ⟨by omega,h.2⟩),fun q h1 h2 h3 => ?_,p3,Ev.succ ?_,Ev.succ ?_⟩
      · by_cases e : q = k
        · subst e;exact absurd h3 ht
        · exact p2 q (by omega) h2 h3
      · simp only [spec_FirstMeet.l1]
        exact Ev.pos (by omega) a
      · simp only [impl_FirstMeet.l1]
        exact Ev.pos (by omega) b

theorem both_m0 (l : List (List Int)) (hn : l.length ≤ 5) (m : Nat) (hm : m = (l.getD 0 []).length) (r : Int) (d : Nat) : ∀ i : Nat,i + d = l.length →
    (Long l m i → (l.length = 0 → r = -1) ∧ (l.length ≠ 0 → Ev (fun q => spec_FirstMeet.l1 q l m 0) r ∧ Ev (fun q => impl_FirstMeet.l1 q l m 0) r)) → (¬ Long l m i → r = -1) →
    Ev (fun q => spec_FirstMeet.l0 q l l (l.length : Int) i) r ∧ Ev (fun q => impl_FirstMeet.l0 q l l (l.length : Int) i) r:=by
  (have e0 : ∀ i : Nat,rd_L1 l (i : Int) = l.getD i []:=fun i => rfl);have e00 : rd_L1 l 0 = l.getD 0 []:=rfl
  induction d with
  | zero =>
    intro i hi h1 h2;obtain ⟨h3,h4⟩:=h1 (From.end_ (by omega));by_cases hz : l.length = 0
    · have e : r = -1:=h3 hz
      refine ⟨Ev.succ ?_,Ev.succ ?_⟩
      · simp only [spec_FirstMeet.l0]
        exact Ev.neg (by omega) (Ev.pos (by omega) (Ev.some e.symm))
      · simp only [impl_FirstMeet.l0]
        exact Ev.neg (by omega) (Ev.pos (by omega) (Ev.some e.symm))
    · obtain ⟨a,b⟩:=h4 hz
      refine ⟨Ev.succ ?_,Ev.succ ?_⟩
      · simp only [spec_FirstMeet.l0,e00,← hm]
        exact Ev.neg (by omega) (Ev.neg (by omega) (Ev.pos (by omega) a))
      · simp only [impl_FirstMeet.l0,e00,← hm]
        exact Ev.neg (by omega) (Ev.neg (by omega) (Ev.pos (by omega) b))
  | succ d ih =>
    intro i hi h1 h2;have step:=From.step (n:=l.length) (i:=i) (C:=fun j => (l.getD j []).length = m) (by omega);by_cases he : (l.getD i []).length = m
    · obtain ⟨a,b⟩:=ih (i + 1) (by omega) (fun h => h1 (step.2 ⟨he,h⟩)) (fun h => h2 (fun a => h (step.1 a).2))
      refine ⟨Ev.succ ?_,Ev.succ ?_⟩
      · simp only [spec_FirstMeet.l0,e0,e00,← hm,succ_w (show i < 35184372088833 by omega)]
        exact Ev.pos (by omega) (Ev.pos (by omega) (Ev.pos (by omega) (Ev.pos (by omega) (Ev.pos (by omega) a))))
      · simp only [impl_FirstMeet.l0,e0,e00,← hm,succ_w (show i < 35184372088833 by omega)]
        exact Ev.pos (by omega) (Ev.pos (by omega) (Ev.pos (by omega) (Ev.pos (by omega) (Ev.pos (by omega) b))))
    · have e : r = -1:=h2 (fun a => he (step.1 a).1)
      refine ⟨Ev.succ ?_,Ev.succ ?_⟩
      · simp only [spec_FirstMeet.l0,e0,e00,← hm]
        exact Ev.pos (by omega) (Ev.pos (by omega) (Ev.pos (by omega) (Ev.pos (by omega) (Ev.neg (by omega) (Ev.some e.symm)))))
      · simp only [impl_FirstMeet.l0,e0,e00,← hm]
        exact Ev.pos (by omega) (Ev.pos (by omega) (Ev.pos (by omega) (Ev.pos (by omega) (Ev.neg (by omega) (Ev.some e.symm)))))

end Go.Proofs.Ytcldlljnaijmhaa.Pure
/-
Own text: where a cell lies: its column and its row;the cell beside it.
-/
namespace Go.Proofs.Ytcldlljnaijmhaa.Pure
open Go.RowKit Go.Proofs.YtcldlljnaijmhaaW.PrintWords Go.Proofs.YtcldlljnaijmhaaW.PrintLast Go.Proofs.Ytcldlljnaijmhaa.Pr Go.Proofs.Ytcldlljnaijmhaa.EvKit
open Classical

def X_ (w a : Int) : Int:=a % w
def Y_ (w a : Int) : Int:=a / w
/-- How many rows. -/
def H_ (w : Int) (c : List Int) : Int:=(c.length : Int) / w

section
variable {w : Int} {c : List Int}
theorem Cl.w1 (h : Cl w c) : 1 ≤ w:=h.1.1
theorem Cl.w16 (h : Cl w c) : w ≤ 16:=h.1.2.1
theorem Cl.h16 (h : Cl w c) : H_ w c ≤ 16:=h.1.2.2.2.2
theorem Cl.wh (h : Cl w c) : H_ w c * w = c.length:=by
  have h1:=Int.mul_ediv_add_emod (c.length : Int) w;rw [h.1.2.2.1,Int.add_zero,Int.mul_comm] at h1;exact h1
theorem Cl.h1 (h : Cl w c) : 1 ≤ H_ w c:=(Int.le_ediv_iff_mul_le (by have:=h.w1;omega)).2 (by rw [Int.one_mul];exact h.1.2.2.2.1)
theorem mul_le16 {x y : Int} (hx : 0 ≤ x) (hx2 : x ≤ 16) (hy : 0 ≤ y) (hy2 : y ≤ 16) : x * y ≤ 256 ∧ 0 ≤ x * y:=by
  have h1:=Int.mul_le_mul hx2 hy2 hy (by omega : (0 : Int) ≤ 16);exact ⟨by omega,Int.mul_nonneg hx hy⟩
theorem Cl.n256 (h : Cl w c) : c.length ≤ 256:=by
  have h1:=h.wh;have h2:=mul_le16 (by have:=h.h1;omega) h.h16 (by have:=h.w1;omega) h.w16
  omega
theorem XY (w a : Int) : Y_ w a * w + X_ w a = a:=by
  have:=Int.mul_ediv_add_emod a w;rw [Int.mul_comm] at this;exact this
theorem X_range (h : Cl w c) (a : Int) : 0 ≤ X_ w a ∧ X_ w a < w:=⟨Int.emod_nonneg _ (by have:=h.w1;omega),Int.emod_lt_of_pos _ (by have:=h.w1;omega)⟩
theorem Y_range (h : Cl w c) {a : Int} (h0 : 0 ≤ a) (h1 : a < c.length) : 0 ≤ Y_ w a ∧ Y_ w a < H_ w c:=by
  refine ⟨Int.ediv_nonneg h0 (by have:=h.w1;omega),Int.ediv_lt_of_lt_mul (by have:=h.w1;omega) ?_⟩;rw [h.wh];exact h1
theorem cell_in (h : Cl w c) {x y : Int} (hx : 0 ≤ x) (hx2 : x < w) (hy : 0 ≤ y) (hy2 : y < H_ w c) : 0 ≤ y * w + x ∧ y * w + x < c.length:=by
  have h1:=Int.mul_nonneg hy (show 0 ≤ w by omega);have h2:=Int.mul_le_mul_of_nonneg_right (show y ≤ H_ w c - 1 by omega) (show 0 ≤ w by omega);have h3:=h.wh;rw [Int.sub_mul,Int.one_mul] at h2
  omega
theorem X_cell {x : Int} (hx : 0 ≤ x) (hx2 : x < w) (y : Int) : X_ w (y * w + x) = x:=by
  unfold X_;rw [Int.add_comm,Int.add_mul_emod_self_right];exact Int.emod_eq_of_lt hx hx2
theorem Y_cell {x : Int} (hx : 0 ≤ x) (hx2 : x < w) (y : Int) : Y_ w (y * w + x) = y:=by
  have h1:=XY w (y * w + x);rw [X_cell hx hx2] at h1;(have h2 : Y_ w (y * w + x) * w = y * w:=by omega);exact Int.eq_of_mul_eq_mul_right (by omega) h2
theorem tmod_X {a : Int} (h : 0 ≤ a) : a.tmod w = X_ w a:=Int.tmod_eq_emod_of_nonneg h
theorem tdiv_Y {a : Int} (h : 0 ≤ a) : a.tdiv w = Y_ w a:=Int.tdiv_eq_ediv_of_nonneg h

/-- The cell beside one, -1 beyond the edge. -/
noncomputable def Nx (w : Int) (c : List Int) (a dx dy : Int) : Int:=
  if 0 ≤ X_ w a + dx ∧ X_ w a + dx < w ∧ 0 ≤ Y_ w a + dy ∧ Y_ w a + dy < H_ w c then (Y_ w a + dy) * w + (X_ w a + dx) else -1
theorem next_eq (h : Cl w c) {a dx dy : Int} (h0 : 0 ≤ a) (h1 : a < c.length) (hx : -100 ≤ dx ∧ dx ≤ 100) (hy : -100 ≤ dy ∧ dy ≤ 100) : impl_Cells_next.f w c a dx dy = some (Nx w c a dx dy):=by
  have hX:=X_range h a;have hY:=Y_range h h0 h1;have hw:=h.w1;have hw2:=h.w16;have hH:=h.h16;unfold impl_Cells_next.f;rw [if_neg (by omega),tmod_X h0,tdiv_Y h0,show (c.length : Int) / w = H_ w c from rfl];rw [wrap64_id (x:=Y_ w a) (by omega) (by omega),wrap64_id (x:=H_ w c) (by omega) (by omega),wrap64_id (x:=X_ w a + dx) (by omega) (by omega),wrap64_id (x:=Y_ w a + dy) (by omega) (by omega)];by_cases c1 : X_ w a + dx < 0
  · rw [if_pos c1]
    unfold Nx;rw [if_neg (by omega)]
  · rw [if_neg c1]
    by_cases c2 : X_ w a + dx ≥ w
    · rw [if_pos c2]
      unfold Nx;rw [if_neg (by omega)]
    · rw [if_neg c2]
      by_cases c3 : Y_ w a + dy < 0
      · rw [if_pos c3]
        unfold Nx;rw [if_neg (by omega)]
      · rw [if_neg c3]
        by_cases c4 : Y_ w a + dy ≥ H_ w c
        · rw [if_pos c4]
          unfold Nx;rw [if_neg (by omega)]
        · rw [if_neg c4]
          have hm:=mul_le16 (x:=Y_ w a + dy) (y:=w) (by omega) (by omega) (by omega) hw2;rw [wrap64_id (x:=(Y_ w a + dy) * w) (by omega) (by omega),wrap64_id (by omega) (by omega)];unfold Nx;rw [if_pos (by omega)]
end
end Go.Proofs.Ytcldlljnaijmhaa.Pure
/-
Own text: good paths: the places to go next,the two checks.
-/
namespace Go.Proofs.Ytcldlljnaijmhaa.Pure
open Go.RowKit Go.Proofs.YtcldlljnaijmhaaW.PrintWords Go.Proofs.YtcldlljnaijmhaaW.PrintLast Go.Proofs.Ytcldlljnaijmhaa.Pr Go.Proofs.Ytcldlljnaijmhaa.EvKit
open Classical

/-- n if n is the number of a free cell, else -1. -/
noncomputable def Fo (c : List Int) (n : Int) : Int:=if Fr c n then n else -1

theorem l12_go {w : Int} {c : List Int} (h : Cl w c) {x y : Int} (_ : -9 ≤ x ∧ x ≤ 99) (hy : -9 ≤ y ∧ y ≤ 99) :
    ((spec_l12Has.f w (c.length : Int) x y).bind fun t => (if t = true then (if 0 ≤ (wrap64 ((wrap64 (y * w)) + x)) then (if (wrap64 ((wrap64 (y * w)) + x)) < (c.length : Int) then (if (rd c (wrap64 ((wrap64 (y * w)) + x))) = 0 then (some (wrap64 ((wrap64 (y * w)) + x))) else (some (-1))) else (none)) else (none)) else (some (-1)))) = some (Fo c (if 0 ≤ x ∧ x < w ∧ 0 ≤ y ∧ y < H_ w c then y * w + x else -1)):=by
  have hw:=h.w1;have hw2:=h.w16;have hH:=h.h16;have hH1:=h.h1;(have hn : ¬ Fr c (-1):=fun a => by have:=a.1;omega)
  have hd : wrap64 ((c.length : Int).tdiv w) = H_ w c:=by
    rw [Int.tdiv_eq_ediv_of_nonneg (by omega),show (c.length : Int) / w = H_ w c from rfl,wrap64_id (by omega) (by omega)]
  have has : spec_l12Has.f w (c.length : Int) x y = some (decide (0 ≤ x ∧ x < w ∧ 0 ≤ y ∧ y < H_ w c)):=by
    unfold spec_l12Has.f;rw [hd];by_cases a1 : x ≥ 0
    · rw [if_pos a1]
      by_cases a2 : x < w
      · rw [if_pos a2]
        by_cases a3 : y ≥ 0
        · rw [if_pos a3,if_neg (by omega)]
          simp [show 0 ≤ x from a1,a2,show 0 ≤ y from a3]
        · rw [if_neg a3]
          simp [show ¬ 0 ≤ y from a3]
      · rw [if_neg a2]
        simp [a2]
    · rw [if_neg a1]
      simp [show ¬ 0 ≤ x from a1]
  rw [has,Option.bind_some];by_cases hin : 0 ≤ x ∧ x < w ∧ 0 ≤ y ∧ y < H_ w c
  · have hm:=mul_le16 (x:=y) (y:=w) (by omega) (by omega) (by omega) hw2
    have hc:=cell_in h hin.1 hin.2.1 hin.2.2.1 hin.2.2.2;rw [if_pos (by simpa using hin),if_pos hin,wrap64_id (x:=y * w) (by omega) (by omega),wrap64_id (x:=y * w + x) (by omega) (by omega),if_pos hc.1,if_pos hc.2];have e : rd c (y * w + x) = c.getD (y * w + x).toNat 0:=rfl;rw [e];unfold Fo;by_cases hz : c.getD (y * w + x).toNat 0 = 0
    · rw [if_pos hz,if_pos (show Fr c _ from And.intro hc.1 (And.intro hc.2 hz))]
    · rw [if_neg hz,if_neg (show ¬ Fr c _ from fun a => hz a.2.2)]
  · rw [if_neg (by simpa using hin),if_neg hin]
    unfold Fo;rw [if_neg hn]

/-- The way's step, as both name it. -/
def dX (k : Int) : Int:=if k = 0 then 1 else if k = 1 then 0 else if k = 2 then -1 else 0
def dY (k : Int) : Int:=if k = 0 then 0 else if k = 1 then 1 else if k = 2 then 0 else -1

theorem along_eq {w : Int} {c : List Int} (h : Cl w c) {a : Int} (h0 : 0 ≤ a) (h1 : a < c.length) (k : Int) (hk : 0 ≤ k) (hk2 : k ≤ 3) : impl_Cells_along.f w c a k = some (Nx w c a (dX k) (dY k)):=by
  unfold impl_Cells_along.f;(have : k = 0 ∨ k = 1 ∨ k = 2 ∨ k = 3:=by omega)
  rcases this with rfl | rfl | rfl | rfl <;> simp only [Int.reduceEq,if_true,if_false] <;> exact next_eq h h0 h1 (by decide) (by decide)

theorem l12_eq {w : Int} {c : List Int} (h : Cl w c) {a : Int} (h0 : 0 ≤ a) (h1 : a < c.length) (k : Int) (hk : 0 ≤ k) (hk2 : k ≤ 3) : spec_l12Next.f w c a k = some (Fo c (Nx w c a (dX k) (dY k))):=by
  have hX:=X_range h a;have hY:=Y_range h h0 h1;have hw:=h.w1;have hw2:=h.w16;have hH:=h.h16;unfold spec_l12Next.f;rw [if_neg (by omega),tmod_X h0,tdiv_Y h0,wrap64_id (x:=Y_ w a) (by omega) (by omega),wrap64_id (x:=X_ w a + 1) (by omega) (by omega),wrap64_id (x:=Y_ w a + 1) (by omega) (by omega),wrap64_id (x:=X_ w a - 1) (by omega) (by omega),wrap64_id (x:=Y_ w a - 1) (by omega) (by omega)];(have : k = 0 ∨ k = 1 ∨ k = 2 ∨ k = 3:=by omega)
  rcases this with rfl | rfl | rfl | rfl <;> simp only [Int.reduceEq,if_true,if_false] <;> rw [l12_go h (by omega) (by omega)] <;> unfold Nx dX dY <;> simp only [Int.reduceEq,if_true,if_false,Int.add_zero] <;> rfl

theorem next_l0 (ys : List Int) (hn : ys.length ≤ 100) (d : Nat) : ∀ (i : Nat) (acc : List Int),i + d = ys.length → acc.length ≤ i → Ev (fun k => spec_l20Next.l0 k acc ys (ys.length : Int) i) (acc ++ (ys.drop i).filter fun v => decide (v ≥ 0)):=by
  induction d with
  | zero =>
    intro i acc hi ha;apply Ev.succ;simp only [spec_l20Next.l0];rw [List.drop_eq_nil_of_le (by omega)];exact Ev.neg (by omega) (Ev.some (by simp))
  | succ d ih =>
    intro i acc hi ha;apply Ev.succ
    have e : rd ys (i : Int) = ys[i]'(by omega):=by
      unfold rd;rw [List.getD_eq_getElem?_getD,Int.toNat_natCast,List.getElem?_eq_getElem (by omega)]
      rfl
    rw [List.drop_eq_getElem_cons (show i < ys.length by omega),List.filter_cons];simp only [spec_l20Next.l0,e,succ_w (show i < 35184372088833 by omega)];refine Ev.pos (by omega) (Ev.pos (by omega) (Ev.pos (by omega) (Ev.ite (fun hp => Ev.pos (by omega) ?_) (fun hp => ?_))))
    · rw [if_pos (by simpa using hp)]
      exact Ev.eq (ih (i + 1) (acc ++ [ys[i]'(by omega)]) (by omega) (by simp;omega)) (by simp)
    · rw [if_neg (by simpa using hp)]
      exact ih (i + 1) acc (by omega) (by omega)
theorem goes_l0 (w : Int) (c : List Int) (ys : List Int) (hn : ys.length ≤ 100) (d : Nat) : ∀ (i : Nat) (acc : List Int),i + d = ys.length → acc.length ≤ i → Ev (fun k => impl_Cells_goes.l0 k acc ys (ys.length : Int) i w c) (acc ++ (ys.drop i).filter fun v => decide (Fr c v)):=by
  induction d with
  | zero =>
    intro i acc hi ha;apply Ev.succ;simp only [impl_Cells_goes.l0];rw [List.drop_eq_nil_of_le (by omega)];exact Ev.neg (by omega) (Ev.some (by simp))
  | succ d ih =>
    intro i acc hi ha;apply Ev.succ
    have e : rd ys (i : Int) = ys[i]'(by omega):=by
      unfold rd;rw [List.getD_eq_getElem?_getD,Int.toNat_natCast,List.getElem?_eq_getElem (by omega)]
      rfl
    rw [List.drop_eq_getElem_cons (show i < ys.length by omega),List.filter_cons];simp only [impl_Cells_goes.l0,e,succ_w (show i < 35184372088833 by omega)];refine Ev.pos (by omega) (Ev.pos (by omega) (Ev.pos (by omega) (Ev.bnd0 (free_impl w c _) (Ev.ite (fun hp => Ev.pos (by omega) ?_) (fun hp => ?_)))))
    · rw [if_pos hp]
      exact Ev.eq (ih (i + 1) (acc ++ [ys[i]'(by omega)]) (by omega) (by simp;omega)) (by simp)
    · rw [if_neg hp]
      exact ih (i + 1) acc (by omega) (by omega)

/-- Where one may be a tick later. -/
noncomputable def Gos (w : Int) (c : List Int) (a : Int) : List Int:=([Nx w c a 0 (-1),Nx w c a (-1) 0,a,Nx w c a 1 0,Nx w c a 0 1]).filter fun v => decide (Fr c v)
theorem Gos_free {w : Int} {c : List Int} {a v : Int} (h : v ∈ Gos w c a) : Fr c v:=by
  have:=(List.mem_filter.1 h).2
  simpa using this
theorem fo_cons (c : List Int) (n : Int) (l m : List Int) (h : l = m) : (if decide (Fo c n ≥ 0) = true then Fo c n :: l else l) = if decide (Fr c n) = true then n :: m else m:=by
  subst h;unfold Fo;by_cases hf : Fr c n
  · rw [if_pos hf,if_pos (by simpa using hf.1),if_pos (by simpa using hf)]
  · rw [if_neg hf,if_neg (by simp),if_neg (by simpa using hf)]
theorem goes_ev {w : Int} {c : List Int} (h : Cl w c) {a : Int} (hf : Fr c a) : Ev (fun k => impl_Cells_goes.f k w c a) (Gos w c a) ∧ Ev (fun k => spec_l20Next.f k w c a) (Gos w c a):=by
  have h0:=hf.1;have h1:=hf.2.1
  constructor
  · simp only [impl_Cells_goes.f,along_eq h h0 h1 3 (by omega) (by omega),along_eq h h0 h1 2 (by omega) (by omega),along_eq h h0 h1 0 (by omega) (by omega),along_eq h h0 h1 1 (by omega) (by omega),Option.bind_some]
    have:=goes_l0 w c [Nx w c a (dX 3) (dY 3),Nx w c a (dX 2) (dY 2),a,Nx w c a (dX 0) (dY 0),Nx w c a (dX 1) (dY 1)] (by simp) 5 0 [] rfl (Nat.le_refl _);exact this
  · simp only [spec_l20Next.f,l12_eq h h0 h1 3 (by omega) (by omega),l12_eq h h0 h1 2 (by omega) (by omega),l12_eq h h0 h1 0 (by omega) (by omega),l12_eq h h0 h1 1 (by omega) (by omega),Option.bind_some]
    have:=next_l0 [Fo c (Nx w c a (dX 3) (dY 3)),Fo c (Nx w c a (dX 2) (dY 2)),a,Fo c (Nx w c a (dX 0) (dY 0)),Fo c (Nx w c a (dX 1) (dY 1))] (by simp) 5 0 [] rfl (Nat.le_refl _);refine Ev.eq this ?_;(have ea : a = Fo c a:=by unfold Fo;rw [if_pos hf]);unfold Gos;rw [List.nil_append,List.drop_zero]
    conv => lhs;arg 2;arg 2;arg 2;arg 1;rw [ea]
    simp only [List.filter_cons,List.filter_nil];exact fo_cons c _ _ _ (fo_cons c _ _ _ (fo_cons c _ _ _ (fo_cons c _ _ _ (fo_cons c _ _ _ rfl))))

end Go.Proofs.Ytcldlljnaijmhaa.Pure
/-
Own text: a map without deletions,told by the list of its keys and values in the order in which they came.
-/
namespace Go.Proofs.Ytcldlljnaijmhaa.Mp
open Go.MapKept Go.ChangeMaps
set_option linter.unusedVariables false
set_option linter.unusedSimpArgs false

section
variable {α β : Type}
/-- The entries, numbered from n on. -/
def ents (ek : α → Value) (ev : β → Value) : Nat → List (α × β) → List MapEntry
  | _,[] => []
  | n,(a,b) :: l => { key:=ek a,val:=ev b,born:=n } :: ents ek ev (n + 1) l
/-- The map's block. -/
def mobj (ek : α → Value) (ev : β → Value) (L : List (α × β)) : Obj:=.map (ents ek ev 0 L).toArray L.length
variable [DecidableEq α]
/-- What stands at a key. -/
def lk : List (α × β) → α → Option β
  | [],_ => none
  | (a,b) :: l,x => if x = a then some b else lk l x
/-- .. and where. -/
def place : List (α × β) → α → Option (Nat × β)
  | [],_ => none
  | (a,b) :: l,x => if x = a then some (0,b) else (place l x).map fun p => (p.1 + 1,p.2)
/-- m[x] = v. -/
def put : List (α × β) → α → β → List (α × β)
  | [],x,v => [(x,v)]
  | (a,b) :: l,x,v => if x = a then (a,v) :: l else (a,b) :: put l x v
theorem place_lk (L : List (α × β)) (x : α) : (place L x).map Prod.snd = lk L x:=by
  induction L with
  | nil => rfl
  | cons p l ih =>
    obtain ⟨a,b⟩:=p;simp only [place,lk]
    split
    (rfl)
    · rw [← ih]
      cases place l x <;> rfl
theorem lk_put (L : List (α × β)) (x y : α) (v : β) : lk (put L x v) y = if y = x then some v else lk L y:=by
  induction L with
  | nil => simp only [put,lk]
  | cons p l ih =>
    obtain ⟨a,b⟩:=p;simp only [put]
    split
    · rename_i h
      subst h;simp only [lk]
      split <;> rfl
    · rename_i h
      simp only [lk,ih]
      split
      · rename_i h2
        subst h2;rw [if_neg (fun e => h e.symm)]
      (rfl)
theorem put_place {L : List (α × β)} {x : α} (v : β) {i : Nat} {b : β} (h : place L x = some (i,b)) (ek : α → Value) (ev : β → Value) (n : Nat) :
    (put L x v).length = L.length ∧ i < L.length ∧ ents ek ev n (put L x v) = (ents ek ev n L).modify i (fun e => { e with key:=ek x,val:=ev v }) ∧ ((ents ek ev n L)[i]?).map (·.key) = some (ek x):=by
  induction L generalizing n i with
  | nil => cases h
  | cons p l ih =>
    obtain ⟨a,c⟩:=p;simp only [place] at h
    split at h
    · rename_i e
      subst e;cases h
      simp [put,ents,List.modify]
    · rename_i e
      cases hp : place l x with
      | none => rw [hp] at h;cases h
      | some q =>
        rw [hp] at h;obtain ⟨j,b'⟩:=q
        cases h
        obtain ⟨h1,h2,h3,h4⟩:=ih hp (n + 1);simp only [put,if_neg e,ents,List.length_cons];exact ⟨by omega,by omega,by rw [h3];rfl,h4⟩
theorem put_none {L : List (α × β)} {x : α} (v : β) (h : lk L x = none) (ek : α → Value) (ev : β → Value) (n : Nat) :
    put L x v = L ++ [(x,v)] ∧ ents ek ev n (put L x v) = ents ek ev n L ++ [{ key:=ek x,val:=ev v,born:=n + L.length }]:=by
  induction L generalizing n with
  | nil => exact ⟨rfl,rfl⟩
  | cons p l ih =>
    obtain ⟨a,c⟩:=p;simp only [lk] at h
    split at h
    · cases h
    · rename_i e
      obtain ⟨h1,h2⟩:=ih h (n + 1);simp only [put,if_neg e,ents,h1,List.cons_append,List.length_cons];refine ⟨trivial,?_⟩;rw [← h1,h2,show n + 1 + l.length = n + (l.length + 1) by omega]

/-- What a key's type is good for. -/
structure Key (P : Program) (kt : TypeId) (ek : α → Value) : Prop where
  check : ∀ (w : World) (e : Bool) (a : α),(Instr.checkKey e 10000 kt (ek a)).run P w = .ok () w
  find : ∀ (w : World) (β : Type) (ev : β → Value) (L : List (α × β)) (a : α),(Instr.findKey kt (ek a) (ents ek ev 0 L)).run P w = .ok ((place L a).map fun p => (p.1,ev p.2)) w
  stays : ∀ (w : World) (a : α),(Instr.keyThatStays (ek a) (ek a)).run P w = .ok (ek a) w
variable {P : Program} {t kt e : TypeId} {ek : α → Value} {ev : β → Value} {L : List (α × β)} {w : World} {b : Nat}
theorem run_lk (K : Key P kt ek) (ht : P.underlying t = some (.map kt e)) {z : Value} (hz : (zeroValue e).run P w = .ok z w) (hb : w.heap[b]? = some (mobj ek ev L)) (a : α) :
    (Instr.lookup t (.map (some b)) (ek a) false).run P w = .ok (((lk L a).map ev).getD z) w:=by
  have hb' : w.heap[b]? = some (.map (ents ek ev 0 L).toArray L.length):=hb;have hf:=K.find w β ev L a;have hl:=place_lk L a;simp only [Instr.lookup,Sem.run_bind,run_underlying ht,Result.andThen,MapKept.run_getObj_map hb',K.check,List.toList_toArray,hf,Sem.run_pure];rw [← hl]
  cases place L a with
  | none => simp [hz,Result.andThen]
  | some p => simp [Result.andThen]
theorem run_lk_ok (K : Key P kt ek) (ht : P.underlying t = some (.map kt e)) {z : Value} (hz : (zeroValue e).run P w = .ok z w) (hb : w.heap[b]? = some (mobj ek ev L)) (a : α) :
    (Instr.lookup t (.map (some b)) (ek a) true).run P w = .ok (.tuple #[((lk L a).map ev).getD z,.bool (lk L a).isSome]) w:=by
  have hb' : w.heap[b]? = some (.map (ents ek ev 0 L).toArray L.length):=hb;have hf:=K.find w β ev L a;have hl:=place_lk L a;simp only [Instr.lookup,Sem.run_bind,run_underlying ht,Result.andThen,MapKept.run_getObj_map hb',K.check,List.toList_toArray,hf,Sem.run_pure];rw [← hl]
  cases place L a with
  | none => simp [hz,Result.andThen]
  | some p => simp [Result.andThen]
theorem run_put (K : Key P kt ek) (ht : P.underlying t = some (.map kt e)) (hb : w.heap[b]? = some (mobj ek ev L)) (a : α) (v : β) :
    (Instr.mapUpdate t (.map (some b)) (ek a) (ev v)).run P w = .ok () (setBlock w b (mobj ek ev (put L a v))):=by
  have hb' : w.heap[b]? = some (.map (ents ek ev 0 L).toArray L.length):=hb;have hf:=K.find w β ev L a;simp only [Instr.mapUpdate,Sem.run_bind,run_underlying ht,Result.andThen,MapKept.run_getObj_map hb',K.check,List.toList_toArray,hf]
  cases hp : place L a with
  | none =>
    obtain ⟨h1,h2⟩:=put_none v (by rw [← place_lk,hp];rfl) ek ev 0 (L:=L) (x:=a);simp only [Option.map_none,MapKept.run_setObj_map _ hb'];unfold setBlock mobj;rw [h2,h1]
    simp
  | some q =>
    obtain ⟨i,c⟩:=q;obtain ⟨h1,h2,h3,h4⟩:=put_place v hp ek ev 0;simp only [Option.map_some,Sem.run_bind,List.getElem?_toArray];rw [h4];simp only [Option.getD_some,K.stays,Result.andThen,MapKept.run_setObj_map _ hb'];unfold setBlock mobj;rw [h1,h3]
    simp
theorem setBlock_at {w : World} {b : Nat} {o : Obj} (hb : w.heap[b]? = some o) (o' : Obj) : (setBlock w b o').heap[b]? = some o':=by
  have hlt : b < w.heap.size:=(Array.getElem?_eq_some_iff.1 hb).1
  simp [setBlock,hlt]
end
/-- Whole numbers as keys. -/
theorem Key.int {P : Program} {kt : TypeId} (hd : P.underlying kt = some (.int .i64)) : Key P kt (Value.int .i64) where
  check w e a:=run_checkKey hd (k:=.int .i64 a) (by simp [IsKey]) e 9999
  stays w a:=run_keyThatStays (d:=.int .i64) (k:=.int .i64 a) (by simp [IsKey])
  find w β ev L a:=by
    have key : ∀ (L : List (Int × β)) (n i : Nat),Instr.findNow (.int .i64) (.int .i64 a) (ents (Value.int .i64) ev n L) i = some ((place L a).map fun p => (i + p.1,ev p.2)):=by
      intro L
      induction L with
      | nil => intro n i;rfl
      | cons p l ih =>
        intro n i;obtain ⟨x,c⟩:=p;simp only [ents,Instr.findNow,Instr.sameNow,if_true,place];by_cases h : a = x
        · subst h
          simp
        · have hb : (a == x) = false:=beq_eq_false_iff_ne.2 h
          simp only [hb,if_neg h,ih]
          cases place l a with
          | none => rfl
          | some q => simp;omega
    have:=key L 0 0;simp only [Nat.zero_add] at this;exact run_findKey hd this
/-- Two whole numbers as a struct. -/
def ekp (p : Int × Int) : Value:=.agg #[.int .i64 p.1,.int .i64 p.2]
section
variable {P : Program} {kt : TypeId} {f1 f2 : Field}
theorem run_part_int (w : World) {e : TypeId} (he : P.underlying e = some (.int .i64)) {xs : Array Value} {off : Nat} {v : Value} (hx : xs[off]? = some v) : (part e xs off).run P w = .ok v w:=by
  simp [part,isAgg,run_underlying he,hx]
theorem run_eq_pair (w : World) (hu : P.underlying kt = some (.struct #[f1, f2])) (hp : P.stoodInHeld kt = false) (n1 : f1.name ≠ "_") (n2 : f2.name ≠ "_") (t1 : P.underlying f1.type = some (.int .i64)) (t2 : P.underlying f2.type = some (.int .i64)) (o1 : f1.offset = 0) (o2 : f2.offset = 1) (a b : Int × Int) :
    (Op.equal kt (ekp a) (ekp b)).run P w = .ok (decide (a = b)) w:=by
  (have hf : P.fieldsOf kt = #[f1,f2]:=by simp [Program.fieldsOf,hu]);unfold Op.equal Op.maxDepth ekp;rw [run_equalIn_struct w 9999 kt _ _ (by rw [hf];exact hu) hp,hf];(have p1 : ∀ a : Int × Int,(part f1.type #[Value.int .i64 a.1,.int .i64 a.2] f1.offset).run P w = .ok (.int .i64 a.1) w:=fun a => run_part_int w t1 (by rw [o1];rfl));(have p2 : ∀ a : Int × Int,(part f2.type #[Value.int .i64 a.1,.int .i64 a.2] f2.offset).run P w = .ok (.int .i64 a.2) w:=fun a => run_part_int w t2 (by rw [o2];rfl));have e1:=run_equalIn_int (P:=P) w 9998 f1.type .i64 .i64 a.1 b.1 t1;have e2:=run_equalIn_int (P:=P) w 9998 f2.type .i64 .i64 a.2 b.2 t2;obtain ⟨a1,a2⟩:=a;obtain ⟨b1,b2⟩:=b
  have e3 : decide ((a1,a2) = (b1,b2)) = (a1 == b1 && a2 == b2):=by
    rw [Bool.eq_iff_iff]
    simp
  rw [e3];have q1:=p1 (a1,a2);have q2:=p1 (b1,b2);have q3:=p2 (a1,a2);have q4:=p2 (b1,b2)
  simp only at q1 q2 q3 q4 e1 e2
  simp only [Op.eqFields,ne_eq,n1,n2,not_false_eq_true,if_true,Sem.run_bind,q1,q2,Result.andThen,e1]
  cases h1 : (a1 == b1)
  · simp
  · cases h2 : (a2 == b2) <;> rw [h2] at e2 <;> simp [Result.andThen,q3,q4,e2]
theorem Key.pair (hu : P.underlying kt = some (.struct #[f1, f2])) (hp : P.stoodInHeld kt = false) (n1 : f1.name ≠ "_") (n2 : f2.name ≠ "_") (t1 : P.underlying f1.type = some (.int .i64)) (t2 : P.underlying f2.type = some (.int .i64)) (o1 : f1.offset = 0) (o2 : f2.offset = 1) : Key P kt ekp where
  check w e a:=by
    have p1 : (part f1.type #[Value.int .i64 a.1,.int .i64 a.2] f1.offset).run P w = .ok (.int .i64 a.1) w:=run_part_int w t1 (by rw [o1];rfl);have p2 : (part f2.type #[Value.int .i64 a.1,.int .i64 a.2] f2.offset).run P w = .ok (.int .i64 a.2) w:=run_part_int w t2 (by rw [o2];rfl);have c1:=run_checkKey (w:=w) t1 (k:=.int .i64 a.1) (by simp [IsKey]) e 9998;have c2:=run_checkKey (w:=w) t2 (k:=.int .i64 a.2) (by simp [IsKey]) e 9998;have hn : (10000 : Nat) = 9999 + 1:=rfl;rw [hn,ekp];unfold Instr.checkKey;simp only [Sem.run_bind,run_underlying hu,Result.andThen];rw [← Array.forIn_toList]
    simp [n1,n2,p1,p2,c1,c2,Result.andThen]
  stays w a:=by
    have h : Instr.sameBits 10000 (ekp a) (ekp a) = true:=by
      simp [ekp,Instr.sameBits]
    simp [Instr.keyThatStays,h]
  find w β ev L a:=by
    (have eq:=fun b => run_eq_pair w hu hp n1 n2 t1 t2 o1 o2 a b)
    have key : ∀ (L : List ((Int × Int) × β)) (n i : Nat),(Instr.findAsking kt (ekp a) (ents ekp ev n L) i).run P w = .ok ((place L a).map fun p => (i + p.1,ev p.2)) w:=by
      intro L
      induction L with
      | nil => intro n i;rfl
      | cons p l ih =>
        intro n i;obtain ⟨x,c⟩:=p;simp only [ents,Instr.findAsking,Sem.run_bind,eq,Result.andThen,place];by_cases h : a = x
        · simp [h]
        · simp only [h,decide_false,Bool.false_eq_true,if_false,ih]
          cases place l a with
          | none => rfl
          | some q => simp;omega
    have h2:=key L 0 0;simp only [Nat.zero_add] at h2;unfold Instr.findKey;simp only [Sem.run_bind,run_underlying hu,Result.andThen]
    cases L with
    | nil => rfl
    | cons p l =>
      obtain ⟨x,c⟩:=p;simp only [ents,Instr.findNow,Instr.sameNow];exact h2
end
end Go.Proofs.Ytcldlljnaijmhaa.Mp
/-
Own text: a search in breadth,over any places: it ends;what it finds never changes;it is as short as any walk.
-/
namespace Go.Proofs.Ytcldlljnaijmhaa.Bfs
open Go.Proofs.Ytcldlljnaijmhaa.Mp
set_option linter.unusedVariables false

section
variable {α : Type} [DecidableEq α]
/-- The places next to one at d: those that are not known yet are d + 1 far. -/
def relax (d : Int) : List (α × Int) → List α → List α → List (α × Int) × List α
  | D,Q,[] => (D,Q)
  | D,Q,n :: l => if lk D n = none then relax d (put D n (d + 1)) (Q ++ [n]) l else relax d D Q l
/-- The search, in g rounds. -/
inductive Run (nx : α → List α) : Nat → List (α × Int) → List α → List (α × Int) → Prop
  | done (D : List (α × Int)) : Run nx 0 D [] D
  | step {D : List (α × Int)} {Q : List α} {c : α} {d : Int} {g : Nat} {D' : List (α × Int)} : lk D c = some d → Run nx g (relax d D Q (nx c)).1 (relax d D Q (nx c)).2 D' → Run nx (g + 1) D (c :: Q) D'
/-- How many places of U are not known yet. -/
def open_ (D : List (α × Int)) : List α → Nat
  | [] => 0
  | u :: U => (if lk D u = none then 1 else 0) + open_ D U
theorem open_put {D : List (α × Int)} {n : α} (v : Int) (U : List α) : open_ (put D n v) U ≤ open_ D U ∧ (n ∈ U → lk D n = none → open_ (put D n v) U < open_ D U):=by
  induction U with
  | nil => exact ⟨Nat.le_refl _,fun h => by cases h⟩
  | cons u U ih =>
    simp only [open_,lk_put];by_cases h : u = n
    · subst h
      simp only [if_true,reduceCtorEq,if_false];refine ⟨by have:=ih.1;split <;> omega,fun _ hn => ?_⟩;rw [if_pos hn];have:=ih.1
      omega
    · simp only [if_neg h]
      refine ⟨by have:=ih.1;omega,fun hm hn => ?_⟩
      rcases List.mem_cons.1 hm with e | hm
      · exact absurd e.symm h
      · have:=ih.2 hm hn
        omega
theorem relax_kept {d : Int} {l : List α} : ∀ {D : List (α × Int)} {Q : List α} {x : α} {e : Int},lk D x = some e → lk (relax d D Q l).1 x = some e:=by
  induction l with
  | nil => intro D Q x e h;exact h
  | cons n l ih =>
    intro D Q x e h;simp only [relax]
    split
    · rename_i hn
      refine ih ?_;rw [lk_put]
      split
      · rename_i hx
        rw [hx,hn] at h
        cases h
      · exact h
    · exact ih h
theorem relax_open {d : Int} {U : List α} {l : List α} (hl : ∀ n ∈ l,n ∈ U) : ∀ (D : List (α × Int)) (Q : List α),(relax d D Q l).2.length + open_ (relax d D Q l).1 U ≤ Q.length + open_ D U:=by
  induction l with
  | nil => intro D Q;exact Nat.le_refl _
  | cons n l ih =>
    intro D Q;simp only [relax]
    split
    · rename_i hn
      have h1:=ih (fun n h => hl n (.tail _ h)) (put D n (d + 1)) (Q ++ [n]);have h2:=(open_put (D:=D) (n:=n) (d + 1) U).2 (hl n (.head _)) hn;simp only [List.length_append,List.length_singleton] at h1
      omega
    · exact ih (fun n h => hl n (.tail _ h)) D Q
theorem relax_known {d : Int} {l : List α} : ∀ {D : List (α × Int)} {Q : List α},(∀ q ∈ Q,lk D q ≠ none) → ∀ q ∈ (relax d D Q l).2,lk (relax d D Q l).1 q ≠ none:=by
  induction l with
  | nil => intro D Q h;exact h
  | cons n l ih =>
    intro D Q h;simp only [relax]
    split
    · refine ih (fun q hq => ?_)
      rw [lk_put]
      split
      · simp
      · rename_i hne
        rcases List.mem_append.1 hq with hq | hq
        · exact h q hq
        · exact absurd (List.mem_singleton.1 hq) hne
    · exact ih h
theorem relax_in {d : Int} {U l : List α} (hl : ∀ n ∈ l,n ∈ U) : ∀ {D : List (α × Int)} {Q : List α},(∀ q ∈ Q,q ∈ U) → ∀ q ∈ (relax d D Q l).2,q ∈ U:=by
  induction l with
  | nil => intro D Q h;exact h
  | cons n l ih =>
    intro D Q h;simp only [relax]
    split
    · refine ih (fun n h => hl n (.tail _ h)) (fun q hq => ?_)
      rcases List.mem_append.1 hq with hq | hq
      · exact h q hq
      · rw [List.mem_singleton.1 hq];exact hl n (.head _)
    · exact ih (fun n h => hl n (.tail _ h)) h
/-- The search ends. -/
theorem run_ends (nx : α → List α) (U : List α) (hU : ∀ c ∈ U,∀ n ∈ nx c,n ∈ U) (m : Nat) : ∀ (D : List (α × Int)) (Q : List α),Q.length + open_ D U ≤ m → (∀ q ∈ Q,lk D q ≠ none) → (∀ q ∈ Q,q ∈ U) → ∃ g D',Run nx g D Q D' ∧ g ≤ m:=by
  induction m with
  | zero =>
    intro D Q hm _ _;have : Q = []:=List.eq_nil_of_length_eq_zero (by omega);subst this;exact ⟨0,D,.done D,Nat.le_refl _⟩
  | succ m ih =>
    intro D Q hm h1 h2
    cases Q with
    | nil => exact ⟨0,D,.done D,Nat.zero_le _⟩
    | cons c Q =>
      cases hc : lk D c with
      | none => exact absurd hc (h1 c (.head _))
      | some d =>
        have hn:=hU c (h2 c (.head _));have h3:=relax_open (d:=d) hn D Q;simp only [List.length_cons] at hm;obtain ⟨g,D',hr,hg⟩:=ih _ _ (Nat.le_trans h3 (by omega)) (relax_known (d:=d) (l:=nx c) (fun q hq => h1 q (.tail _ hq))) (relax_in (d:=d) hn (D:=D) (fun q hq => h2 q (.tail _ hq)));exact ⟨g + 1,D',.step hc hr,by omega⟩
theorem run_kept {nx : α → List α} {g : Nat} {D D' : List (α × Int)} {Q : List α} (h : Run nx g D Q D') {x : α} {e : Int} (hx : lk D x = some e) : lk D' x = some e:=by
  induction h with
  | done => exact hx
  | step _ _ ih => exact ih (relax_kept hx)

/-- All next to x are known, and no farther than one step more. -/
def Shut (nx : α → List α) (D : List (α × Int)) (x : α) (e : Int) : Prop:=∀ n ∈ nx x,∃ e',lk D n = some e' ∧ e' ≤ e + 1
def dv (D : List (α × Int)) (x : α) : Int:=(lk D x).getD 0
structure Inv (nx : α → List α) (D : List (α × Int)) (Q : List α) : Prop where
  known : ∀ q ∈ Q,lk D q ≠ none
  rise : Q.Pairwise fun x y => dv D x ≤ dv D y
  near : ∀ x e,lk D x = some e → ∀ q,Q.head? = some q → e ≤ dv D q + 1
  shut : ∀ x e,lk D x = some e → x ∈ Q ∨ Shut nx D x e
  pos : ∀ x e,lk D x = some e → 0 ≤ e
/-- .. while the places next to c are looked at. -/
structure Mid (nx : α → List α) (c : α) (d : Int) (D : List (α × Int)) (Q : List α) : Prop where
  at_ : lk D c = some d
  known : ∀ q ∈ Q,lk D q ≠ none
  rise : Q.Pairwise fun x y => dv D x ≤ dv D y
  low : ∀ q ∈ Q,d ≤ dv D q
  near : ∀ x e,lk D x = some e → e ≤ d + 1
  shut : ∀ x e,lk D x = some e → x = c ∨ x ∈ Q ∨ Shut nx D x e
  pos : ∀ x e,lk D x = some e → 0 ≤ e
theorem dv_put {D : List (α × Int)} {n x : α} {v : Int} (h : x ≠ n) : dv (put D n v) x = dv D x:=by
  unfold dv;rw [lk_put,if_neg h]
theorem Mid.put {nx : α → List α} {c n : α} {d : Int} {D : List (α × Int)} {Q : List α} (h : Mid nx c d D Q) (hn : lk D n = none) : Mid nx c d (put D n (d + 1)) (Q ++ [n]):=by
  (have hQ : ∀ q ∈ Q,q ≠ n:=fun q hq e => h.known q hq (e ▸ hn));have hd0:=h.pos c d h.at_;(have hdn : dv (Mp.put D n (d + 1)) n = d + 1:=by unfold dv;rw [lk_put,if_pos rfl];rfl);refine ⟨?_,?_,?_,?_,?_,?_,?_⟩
  · rw [lk_put,if_neg (fun e => by have:=h.at_;rw [e,hn] at this;cases this)]
    exact h.at_
  · intro q hq
    rw [lk_put]
    split
    · simp
    · rename_i hne
      rcases List.mem_append.1 hq with hq | hq
      · exact h.known q hq
      · exact absurd (List.mem_singleton.1 hq) hne
  · refine List.pairwise_append.2 ⟨?_,by simp,?_⟩
    · refine h.rise.imp_of_mem ?_
      intro x y hx hy hxy;rw [dv_put (hQ x hx),dv_put (hQ y hy)];exact hxy
    · intro x hx y hy
      rw [List.mem_singleton.1 hy,hdn,dv_put (hQ x hx)];unfold dv
      cases hl : lk D x with
      | none => exact absurd hl (h.known x hx)
      | some e => exact h.near x e hl
  · intro q hq
    rcases List.mem_append.1 hq with hq | hq
    · rw [dv_put (hQ q hq)]
      exact h.low q hq
    · rw [List.mem_singleton.1 hq,hdn]
      omega
  · intro x e hx
    rw [lk_put] at hx
    split at hx
    · cases hx;omega
    · exact h.near x e hx
  · intro x e hx
    rw [lk_put] at hx
    split at hx
    · rename_i he
      exact .inr (.inl (by rw [he];simp))
    · rcases h.shut x e hx with h1 | h1 | h1
      · exact .inl h1
      · exact .inr (.inl (by simp [h1]))
      · refine .inr (.inr fun m hm => ?_)
        obtain ⟨e',h2,h3⟩:=h1 m hm;refine ⟨e',?_,h3⟩;rw [lk_put,if_neg (fun e => by rw [e,hn] at h2;cases h2)];exact h2
  · intro x e hx
    rw [lk_put] at hx
    split at hx
    · cases hx;omega
    · exact h.pos x e hx
theorem Mid.relax {nx : α → List α} {c : α} {d : Int} {l : List α} : ∀ {D : List (α × Int)} {Q : List α},Mid nx c d D Q → Mid nx c d (relax d D Q l).1 (relax d D Q l).2 ∧ ∀ n ∈ l,lk (Bfs.relax d D Q l).1 n ≠ none:=by
  induction l with
  | nil => intro D Q h;exact ⟨h,fun n hn => by cases hn⟩
  | cons n l ih =>
    intro D Q h;simp only [Bfs.relax]
    split
    · rename_i hn
      obtain ⟨h1,h2⟩:=ih (h.put hn);refine ⟨h1,fun m hm => ?_⟩
      rcases List.mem_cons.1 hm with e | hm
      · rw [e,relax_kept (show lk (Mp.put D n (d + 1)) n = some (d + 1) by rw [lk_put,if_pos rfl])]
        simp
      · exact h2 m hm
    · rename_i hn
      obtain ⟨h1,h2⟩:=ih h;refine ⟨h1,fun m hm => ?_⟩
      rcases List.mem_cons.1 hm with e | hm
      · cases hl : lk D n with
        | none => exact absurd hl hn
        | some e1 => rw [e,relax_kept hl];simp
      · exact h2 m hm
theorem Inv.step {nx : α → List α} {c : α} {d : Int} {D : List (α × Int)} {Q : List α} (h : Inv nx D (c :: Q)) (hc : lk D c = some d) : Inv nx (relax d D Q (nx c)).1 (relax d D Q (nx c)).2:=by
  (have hdc : dv D c = d:=by unfold dv;rw [hc];rfl);have hr:=List.pairwise_cons.1 h.rise
  have m0 : Mid nx c d D Q:=⟨hc,fun q hq => h.known q (.tail _ hq),hr.2,fun q hq => by rw [← hdc];exact hr.1 q hq,fun x e hx => by have:=h.near x e hx c rfl;omega,fun x e hx => by
    rcases h.shut x e hx with h1 | h1
    · rcases List.mem_cons.1 h1 with h1 | h1
      · exact .inl h1
      · exact .inr (.inl h1)
    · exact .inr (.inr h1),h.pos⟩
  obtain ⟨m1,hall⟩:=m0.relax (l:=nx c);refine ⟨m1.known,m1.rise,?_,?_,m1.pos⟩
  · intro x e hx q hq
    have h1:=m1.near x e hx
    have h2:=m1.low q (by cases hQ : (relax d D Q (nx c)).2 with
      | nil => rw [hQ] at hq;cases hq
      | cons a l => rw [hQ] at hq;cases hq;simp)
    omega
  · intro x e hx
    rcases m1.shut x e hx with h1 | h1 | h1
    · refine .inr fun n hn => ?_
      have h2:=hall n (h1 ▸ hn)
      cases hl : lk (relax d D Q (nx c)).1 n with
      | none => exact absurd hl h2
      | some e' =>
        refine ⟨e',rfl,?_⟩;have h3:=m1.near n e' hl;have h4:=m1.at_;rw [h1] at hx;rw [hx] at h4
        cases h4
        exact h3
    · exact .inl h1
    · exact .inr h1
theorem run_shut {nx : α → List α} {g : Nat} {D D' : List (α × Int)} {Q : List α} (h : Run nx g D Q D') (hi : Inv nx D Q) : (∀ x e,lk D' x = some e → Shut nx D' x e) ∧ ∀ x e,lk D' x = some e → 0 ≤ e:=by
  induction h with
  | done D => exact ⟨fun x e hx => (hi.shut x e hx).elim (fun h => by cases h) id,hi.pos⟩
  | step hc _ ih => exact ih (hi.step hc)
theorem Inv.start (nx : α → List α) (s : α) : Inv nx [(s,(0 : Int))] [s]:=by
  have hl : ∀ x e,lk [(s,(0 : Int))] x = some e → x = s ∧ e = 0:=by
    intro x e h;simp only [lk] at h
    split at h
    · rename_i hx;cases h;exact ⟨hx,rfl⟩
    · cases h
  refine ⟨?_,by simp,?_,?_,?_⟩
  · intro q hq
    rw [List.mem_singleton.1 hq]
    simp [lk]
  · intro x e hx q hq
    obtain ⟨_,rfl⟩:=hl x e hx
    cases hq
    simp [dv,lk]
  · intro x e hx
    exact .inl (by rw [(hl x e hx).1];simp)
  · intro x e hx
    rw [(hl x e hx).2];exact Int.le_refl _
/-- The search is as short as any walk. -/
theorem run_short {nx : α → List α} {g : Nat} {D' : List (α × Int)} {s : α} (h : Run nx g [(s,(0 : Int))] [s] D') (p : Nat → α) (h0 : p 0 = s) (L : Nat) (hp : ∀ i,i < L → p (i + 1) ∈ nx (p i)) : ∃ e,lk D' (p L) = some e ∧ 0 ≤ e ∧ e ≤ L:=by
  obtain ⟨h1,h2⟩:=run_shut h (Inv.start nx s)
  induction L with
  | zero =>
    refine ⟨0,?_,Int.le_refl _,Int.le_refl _⟩;rw [h0];exact run_kept h (by simp [lk])
  | succ L ih =>
    obtain ⟨e,h3,h4,h5⟩:=ih (fun i hi => hp i (by omega));obtain ⟨e',h6,h7⟩:=h1 _ e h3 _ (hp L (by omega));exact ⟨e',h6,h2 _ _ h6,by omega⟩
/-- What the search from s finds. -/
noncomputable def fin (nx : α → List α) (s : α) : List (α × Int):=open Classical in if h : ∃ (D : List (α × Int)) (g : Nat),Run nx g [(s,(0 : Int))] [s] D then h.choose else []
theorem fin_run {nx : α → List α} {s : α} (U : List α) (hs : s ∈ U) (hU : ∀ c ∈ U,∀ n ∈ nx c,n ∈ U) : ∃ g,Run nx g [(s,(0 : Int))] [s] (fin nx s):=by
  have h : ∃ (D : List (α × Int)) (g : Nat),Run nx g [(s,(0 : Int))] [s] D:=by
    obtain ⟨g,D,h,_⟩:=run_ends nx U hU _ [(s,(0 : Int))] [s] (Nat.le_refl _) (fun q hq => by rw [List.mem_singleton.1 hq];simp [lk]) (fun q hq => by rw [List.mem_singleton.1 hq];exact hs);exact ⟨D,g,h⟩
  unfold fin;rw [dif_pos h];exact h.choose_spec
end
end Go.Proofs.Ytcldlljnaijmhaa.Bfs
/-
Own text: the reference's search,in its own lists,finds what the search in breadth finds.
-/
namespace Go.Proofs.Ytcldlljnaijmhaa.Pure
open Go.RowKit Go.Proofs.YtcldlljnaijmhaaW.PrintWords Go.Proofs.YtcldlljnaijmhaaW.PrintLast Go.Proofs.Ytcldlljnaijmhaa.Pr Go.Proofs.Ytcldlljnaijmhaa.EvKit
open Mp (lk put lk_put)
open Bfs (Run relax open_ open_put)
open Classical

/-- The numbers below n. -/
def Us (n : Nat) : List Int:=(List.range n).map (fun i : Nat => (i : Int))
theorem mem_Us {n : Nat} {x : Int} : x ∈ Us n ↔ 0 ≤ x ∧ x < n:=by
  unfold Us;rw [List.mem_map]
  constructor
  · rintro ⟨i,hi,rfl⟩
    have:=List.mem_range.1 hi
    omega
  · intro h
    exact ⟨x.toNat,List.mem_range.2 (by omega),by omega⟩
theorem open_le {α : Type} [DecidableEq α] (D : List (α × Int)) (U : List α) : open_ D U ≤ U.length:=by
  induction U with
  | nil => exact Nat.le_refl _
  | cons u U ih =>
    simp only [open_,List.length_cons]
    split <;> omega
/-- The list of the distances tells what is known. -/
def Rel (far : List Int) (n : Nat) (D : List (Int × Int)) : Prop:=far.length = n ∧ ∀ x : Int,0 ≤ x → x < n → rd far x = (lk D x).getD (-1)
theorem Rel.put {far : List Int} {n : Nat} {D : List (Int × Int)} (h : Rel far n D) {x v : Int} (h0 : 0 ≤ x) (h1 : x < n) : Rel (far.set x.toNat v) n (put D x v):=by
  obtain ⟨hl,hr⟩:=h;refine ⟨by simp [hl],fun y hy0 hy1 => ?_⟩;rw [lk_put];by_cases e : y = x
  · subst e
    unfold rd;rw [if_pos rfl,List.getD_eq_getElem?_getD,List.getElem?_set_self (by omega)]
    rfl
  · rw [if_neg e,← hr y hy0 hy1]
    unfold rd;rw [List.getD_eq_getElem?_getD,List.getD_eq_getElem?_getD,List.getElem?_set_ne (by omega)]
/-- Small numbers. -/
def Low {α : Type} [DecidableEq α] (D : List (α × Int)) (U : List α) (B : Nat) : Prop:=∀ x e,lk D x = some e → 0 ≤ e ∧ e + (open_ D U : Int) ≤ B
theorem Low.put {α : Type} [DecidableEq α] {D : List (α × Int)} {U : List α} {B : Nat} (h : Low D U B) {n c : α} {d : Int} (hc : lk D c = some d) (hn : n ∈ U) (ho : lk D n = none) : Low (put D n (d + 1)) U B:=by
  intro x e hx;rw [lk_put] at hx;have h1:=(open_put (D:=D) (n:=n) (d + 1) U).2 hn ho
  split at hx
  · cases hx
    have:=h c d hc
    omega
  · have:=h x e hx
    omega
theorem Gos_len (w : Int) (c : List Int) (a : Int) : (Gos w c a).length ≤ 100:=by
  unfold Gos;refine Nat.le_trans (List.length_filter_le _ _) ?_
  simp
theorem Gos_in {w : Int} {c : List Int} (x : Int) (_ : x ∈ Us c.length) : ∀ n ∈ Gos w c x,n ∈ Us c.length:=fun n hn => by
  have h:=Gos_free hn
  exact mem_Us.2 ⟨h.1,h.2.1⟩
theorem Us_length (n : Nat) : (Us n).length = n:=by simp [Us]
end Go.Proofs.Ytcldlljnaijmhaa.Pure
/-
Own text,by hand: what AloneTicks comes to: the search in breadth.
-/
namespace Go.Proofs.Ytcldlljnaijmhaa.Pr
open Go.RowKit Go.Proofs.YtcldlljnaijmhaaW.PrintWords Go.Proofs.YtcldlljnaijmhaaW.PrintLast
open Classical in
noncomputable def impl_AloneTicks.f (a0_0 : Int) (l0_1 : List Int) (a1_0 : Int) (a1_1 : Int) : Option Int:=
  if l0_1.length ≤ 35184372088832 then some (if Pure.Gt a0_0 l0_1 [⟨a1_0,a1_1⟩] then (Mp.lk (Bfs.fin (Pure.Gos a0_0 l0_1) a1_0) a1_1).getD (-1) else -1) else none
end Go.Proofs.Ytcldlljnaijmhaa.Pr
namespace Go.Proofs.Ytcldlljnaijmhaa.Pr
open Go.RowKit Go.Proofs.YtcldlljnaijmhaaW.PrintWords Go.Proofs.YtcldlljnaijmhaaW.PrintLast Go.Proofs.YtcldlljnaijmhaaW.PrintMore
attribute [local go_sem] max2_int min2_int max_two min_two max_three min_three max_four min_four
set_option linter.unusedVariables false
set_option linter.unusedSimpArgs false

/-! ### laws_FnExactAloneTicks: function 6 -/
/-! ### spec_JointTicks: function 34 -/
/-! ### impl_meets: function 59 -/
def impl_meets.f (a0 : Int) (a1 : Int) (a2 : Int) (a3 : Int) : Option (Bool):=if a1 = a3 then (some true) else (if a0 = a3 then (some (a1 == a2)) else (some false))

end Go.Proofs.Ytcldlljnaijmhaa.Pr
/-
Own text: two at a time: the reference's search,in its own lists,finds what the search in breadth finds.
-/
namespace Go.Proofs.Ytcldlljnaijmhaa.Pure
open Go.RowKit Go.Proofs.YtcldlljnaijmhaaW.PrintWords Go.Proofs.YtcldlljnaijmhaaW.PrintLast Go.Proofs.Ytcldlljnaijmhaa.Pr Go.Proofs.Ytcldlljnaijmhaa.EvKit
open Mp (lk put lk_put)
open Bfs (Run relax open_ open_put)
open Classical

/-- Two that go from here to u and to v don't meet. -/
def Pass (p : Int × Int) (u v : Int) : Prop:=¬ (u = v ∨ (u = p.2 ∧ v = p.1))
/-- Where the second may go when the first goes to u. -/
noncomputable def Row (p : Int × Int) (u : Int) (ys : List Int) : List (Int × Int):=(ys.filter fun v => decide (Pass p u v)).map fun v => (u,v)
/-- Where two may be a tick later. -/
noncomputable def Jos (w : Int) (c : List Int) (p : Int × Int) : List (Int × Int):=(Gos w c p.1).flatMap fun u => Row p u (Gos w c p.2)
theorem Row_cons (p : Int × Int) (u v : Int) (ys : List Int) : Row p u (v :: ys) = if Pass p u v then (u,v) :: Row p u ys else Row p u ys:=by
  unfold Row;rw [List.filter_cons]
  by_cases h : Pass p u v <;> simp [h]
/-- Both free. -/
def Fr2 (c : List Int) (p : Int × Int) : Prop:=Fr c p.1 ∧ Fr c p.2
theorem Row_free {c : List Int} {p q : Int × Int} {u : Int} {ys : List Int} (hu : Fr c u) (hy : ∀ v ∈ ys,Fr c v) (h : q ∈ Row p u ys) : Fr2 c q:=by
  unfold Row at h;obtain ⟨v,hv,rfl⟩:=List.mem_map.1 h;exact ⟨hu,hy v (List.mem_filter.1 hv).1⟩
theorem Jos_free {w : Int} {c : List Int} {p q : Int × Int} (h : q ∈ Jos w c p) : Fr2 c q:=by
  unfold Jos at h;obtain ⟨u,hu,hq⟩:=List.mem_flatMap.1 h;exact Row_free (Gos_free hu) (fun v hv => Gos_free hv) hq
/-- The pairs of numbers below n. -/
def Us2 (n : Nat) : List (Int × Int):=(Us n).flatMap fun x => (Us n).map fun y => (x,y)
theorem mem_Us2 {n : Nat} {p : Int × Int} : p ∈ Us2 n ↔ (0 ≤ p.1 ∧ p.1 < n) ∧ (0 ≤ p.2 ∧ p.2 < n):=by
  unfold Us2;simp only [List.mem_flatMap,List.mem_map]
  constructor
  · rintro ⟨x,hx,y,hy,rfl⟩
    exact ⟨mem_Us.1 hx,mem_Us.1 hy⟩
  · intro h
    exact ⟨p.1,mem_Us.2 h.1,p.2,mem_Us.2 h.2,rfl⟩
theorem flat_len {α β : Type} (l : List α) (f : α → List β) (m : Nat) (h : ∀ x ∈ l,(f x).length = m) : (l.flatMap f).length = l.length * m:=by
  induction l with
  | nil => simp
  | cons a l ih =>
    rw [List.flatMap_cons,List.length_append,h a (.head _),ih (fun x hx => h x (.tail _ hx)),List.length_cons,Nat.succ_mul,Nat.add_comm]
theorem Us2_length (n : Nat) : (Us2 n).length = n * n:=by
  unfold Us2;rw [flat_len _ _ n (fun x _ => by rw [List.length_map,Us_length]),Us_length]
theorem Fr2_in {c : List Int} {p : Int × Int} (h : Fr2 c p) : p ∈ Us2 c.length:=mem_Us2.2 ⟨⟨h.1.1,h.1.2.1⟩,⟨h.2.1,h.2.2.1⟩⟩
theorem relax_append {α : Type} [DecidableEq α] (d : Int) (l1 l2 : List α) : ∀ (D : List (α × Int)) (Q : List α),relax d D Q (l1 ++ l2) = relax d (relax d D Q l1).1 (relax d D Q l1).2 l2:=by
  induction l1 with
  | nil => intro D Q;rfl
  | cons n l ih =>
    intro D Q;simp only [List.cons_append,relax]
    split
    · exact ih _ _
    · exact ih _ _
/-- A pair as one number. -/
def enc (n : Nat) (p : Int × Int) : Int:=p.1 * n + p.2
theorem enc_lt {n : Nat} {p : Int × Int} (h : (0 ≤ p.1 ∧ p.1 < n) ∧ (0 ≤ p.2 ∧ p.2 < n)) : 0 ≤ enc n p ∧ enc n p < (n * n : Nat) ∧ 0 ≤ p.1 * n ∧ p.1 * n ≤ (n * n : Nat):=by
  obtain ⟨⟨h1,h2⟩,h3,h4⟩:=h;have a1:=Int.mul_nonneg h1 (show (0 : Int) ≤ n by omega);have a2:=Int.mul_le_mul_of_nonneg_right (show p.1 ≤ (n : Int) - 1 by omega) (show (0 : Int) ≤ n by omega);rw [Int.sub_mul,Int.one_mul] at a2;unfold enc;rw [Int.natCast_mul]
  omega
theorem enc_div {n : Nat} {p : Int × Int} (h : (0 ≤ p.1 ∧ p.1 < n) ∧ (0 ≤ p.2 ∧ p.2 < n)) : (enc n p).tdiv n = p.1 ∧ (enc n p).tmod n = p.2:=by
  have h0:=(enc_lt h).1;rw [Int.tdiv_eq_ediv_of_nonneg h0,Int.tmod_eq_emod_of_nonneg h0];exact ⟨Y_cell h.2.1 h.2.2 p.1,X_cell h.2.1 h.2.2 p.1⟩
theorem enc_inj {n : Nat} {p q : Int × Int} (h : (0 ≤ p.1 ∧ p.1 < n) ∧ (0 ≤ p.2 ∧ p.2 < n)) (h' : (0 ≤ q.1 ∧ q.1 < n) ∧ (0 ≤ q.2 ∧ q.2 < n)) (e : enc n p = enc n q) : p = q:=by
  have h1:=enc_div h;have h2:=enc_div h';rw [e] at h1;exact Prod.ext (h1.1.symm.trans h2.1) (h1.2.symm.trans h2.2)
def Rel2 (far : List Int) (n : Nat) (D : List ((Int × Int) × Int)) : Prop:=far.length = n * n ∧ ∀ p : Int × Int,((0 ≤ p.1 ∧ p.1 < n) ∧ (0 ≤ p.2 ∧ p.2 < n)) → rd far (enc n p) = (lk D p).getD (-1)
theorem Rel2.put {far : List Int} {n : Nat} {D : List ((Int × Int) × Int)} (h : Rel2 far n D) {x : Int × Int} {v : Int} (hx : (0 ≤ x.1 ∧ x.1 < n) ∧ (0 ≤ x.2 ∧ x.2 < n)) : Rel2 (far.set (enc n x).toNat v) n (put D x v):=by
  obtain ⟨hl,hr⟩:=h;refine ⟨by simp [hl],fun y hy => ?_⟩;have b1:=enc_lt hx;have b2:=enc_lt hy;rw [lk_put];by_cases e : y = x
  · subst e
    unfold rd;rw [if_pos rfl,List.getD_eq_getElem?_getD,List.getElem?_set_self (by omega)]
    rfl
  · rw [if_neg e,← hr y hy]
    unfold rd;rw [List.getD_eq_getElem?_getD,List.getD_eq_getElem?_getD,List.getElem?_set_ne (fun e2 => e (enc_inj hy hx (by omega)))]
section
variable {w : Int} {c : List Int} (a0 a1 b0 b1 : Int) (B : Nat)
end
/-- What JointTicks comes to. -/
noncomputable def jointV (w : Int) (c : List Int) (a0 a1 b0 b1 : Int) : Int:=if Gt w c [⟨a0,a1⟩,⟨b0,b1⟩] ∧ c.length ≤ 36 then (lk (Bfs.fin (Jos w c) (a0,b0)) (a1,b1)).getD (-1) else -1
theorem Jos_in {w : Int} {c : List Int} (x : Int × Int) (_ : x ∈ Us2 c.length) : ∀ n ∈ Jos w c x,n ∈ Us2 c.length:=fun _ hn => Fr2_in (Jos_free hn)
theorem gt_two {w : Int} {c : List Int} {a0 a1 b0 b1 : Int} (h : Gt w c [⟨a0,a1⟩,⟨b0,b1⟩]) : Fr2 c (a0,b0) ∧ Fr2 c (a1,b1):=by
  have h0:=(h.2.2 0 (Nat.le_refl _) (by simp)).1;have h1:=(h.2.2 1 (by omega) (by simp)).1;exact ⟨⟨h0.1,h1.1⟩,⟨h0.2,h1.2⟩⟩
end Go.Proofs.Ytcldlljnaijmhaa.Pure
/-
Own text,by hand: what JointTicks comes to: the search in breadth,two at a time.
-/
namespace Go.Proofs.Ytcldlljnaijmhaa.Pr
open Go.RowKit Go.Proofs.YtcldlljnaijmhaaW.PrintWords Go.Proofs.YtcldlljnaijmhaaW.PrintLast
noncomputable def impl_JointTicks.f (a0_0 : Int) (l0_1 : List Int) (a1_0 : Int) (a1_1 : Int) (a2_0 : Int) (a2_1 : Int) : Option Int:=
  if l0_1.length ≤ 35184372088832 then some (Pure.jointV a0_0 l0_1 a1_0 a1_1 a2_0 a2_1) else none
end Go.Proofs.Ytcldlljnaijmhaa.Pr
namespace Go.Proofs.Ytcldlljnaijmhaa.Pr
open Go.RowKit Go.Proofs.YtcldlljnaijmhaaW.PrintWords Go.Proofs.YtcldlljnaijmhaaW.PrintLast Go.Proofs.YtcldlljnaijmhaaW.PrintMore
attribute [local go_sem] max2_int min2_int max_two min_two max_three min_three max_four min_four
set_option linter.unusedVariables false
set_option linter.unusedSimpArgs false

/-! ### laws_FnExactJointTicks: function 7 -/
/-! ### spec_l20Free: function 71 -/
def spec_l20Free.l0 : Nat → Int → Int → Int → List (List Int) → Int → Int → Option (Bool)
  | 0,_,_,_,_,_,_ => none
  | k + 1,x1,x2,x3,x11,x12,x13 => if x13 < x12 then (if 0 ≤ x13 then (if x13 < (x11.length : Int) then ((spec_l20Hits.f (rd_L1 x11 x13) x1 x2 x3).bind fun t433 => (if t433 = true then (some false) else (spec_l20Free.l0 k x1 x2 x3 x11 x12 (wrap64 (x13 + 1))))) else (none)) else (none)) else (some true)
def spec_l20Free.f (k : Nat) (l0 : List (List Int)) (a1 : Int) (a2 : Int) (a3 : Int) : Option (Bool):=spec_l20Free.l0 k a1 a2 a3 l0 (l0.length : Int) 0
/-! ### spec_l20Path: function 60 -/
mutual
def spec_l20Path.j1 : Nat → List (List Int) → Int → Int → Int → Int → List Int → Int → Int → Option (List Int × Bool)
  | 0,_,_,_,_,_,_,_,_ => none
  | k + 1,x2,x3,x10,x11,x435000,x435001,x436000,x436001 => spec_l20Path.l1 k x2 x3 x10 x11 x435000 x435001 x436000 x436001
def spec_l20Path.l1 : Nat → List (List Int) → Int → Int → Int → Int → List Int → Int → Int → Option (List Int × Bool)
  | 0,_,_,_,_,_,_,_,_ => none
  | k + 1,x2,x3,x10,x12,x435000,x435001,x436000,x436001 => if x12 ≤ x3 then (if 0 ≤ (wrap64 (x12 + 1)) then (if (wrap64 (x12 + 1) : Int).toNat ≤ 11728124029610 then ((some (List.replicate (wrap64 (x12 + 1) : Int).toNat [] : List (List Bool))).bind fun y437 => (spec_l20Path.l2 k x2 x3 x10 x12 y437 (y437.length : Int) 0 x435000 x435001 x436000 x436001)) else (none)) else (none)) else (some (([] : List Int),false))
def spec_l20Path.l2 : Nat → List (List Int) → Int → Int → Int → List (List Bool) → Int → Int → Int → List Int → Int → Int → Option (List Int × Bool)
  | 0,_,_,_,_,_,_,_,_,_,_,_ => none
  | k + 1,x2,x3,x10,x12,x13,x53,x54,x435000,x435001,x436000,x436001 => if x54 < x53 then (if 0 ≤ x10 then (if (x10 : Int).toNat ≤ 281474976710656 then (if 0 ≤ x54 then (if x54 < (x13.length : Int) then (spec_l20Path.l2 k x2 x3 x10 x12 (x13.set (x54 : Int).toNat (List.replicate (x10 : Int).toNat false)) x53 (wrap64 (x54 + 1)) x435000 x435001 x436000 x436001) else (none)) else (none)) else (none)) else (none)) else (if 0 ≤ x12 then (if x12 < (x13.length : Int) then (if 0 ≤ x436001 then (if x436001 < ((rd_L5 x13 x12).length : Int) then (spec_l20Path.l3 k x2 x3 x10 x12 (x13.set (x12 : Int).toNat ((rd_L5 x13 x12).set (x436001 : Int).toNat true)) (wrap64 (x12 - 1)) x435000 x435001 x436000 x436001) else (none)) else (none)) else (none)) else (none))
def spec_l20Path.l3 : Nat → List (List Int) → Int → Int → Int → List (List Bool) → Int → Int → List Int → Int → Int → Option (List Int × Bool)
  | 0,_,_,_,_,_,_,_,_,_,_ => none
  | k + 1,x2,x3,x10,x12,x13,x15,x435000,x435001,x436000,x436001 => if x15 ≥ 0 then (spec_l20Path.l4 k x2 x3 x10 x12 x13 x15 0 x435000 x435001 x436000 x436001) else (if 0 < (x13.length : Int) then (if 0 ≤ x436000 then (if x436000 < ((rd_L5 x13 0).length : Int) then (if (rdOf false (rd_L5 x13 0) x436000 = true) then ((spec_l20Free.f k x2 0 x436000 x436000).bind fun t470 => (spec_l20Path.j7 k x2 x3 x10 x12 x13 (!t470) x435000 x435001 x436000 x436001)) else (spec_l20Path.j7 k x2 x3 x10 x12 x13 true x435000 x435001 x436000 x436001)) else (none)) else (none)) else (none))
def spec_l20Path.l4 : Nat → List (List Int) → Int → Int → Int → List (List Bool) → Int → Int → Int → List Int → Int → Int → Option (List Int × Bool)
  | 0,_,_,_,_,_,_,_,_,_,_,_ => none
  | k + 1,x2,x3,x10,x12,x13,x15,x16,x435000,x435001,x436000,x436001 => if x16 < x10 then ((spec_l12Free.f x435000 x435001 x16).bind fun t448 => (if t448 = true then ((spec_l20Next.f k x435000 x435001 x16).bind fun t449 => (spec_l20Path.l5 k x2 x3 x10 x12 x13 x15 x16 t449 (t449.length : Int) 0 x435000 x435001 x436000 x436001)) else (spec_l20Path.l4 k x2 x3 x10 x12 x13 x15 (wrap64 (x16 + 1)) x435000 x435001 x436000 x436001))) else (spec_l20Path.l3 k x2 x3 x10 x12 x13 (wrap64 (x15 - 1)) x435000 x435001 x436000 x436001)
def spec_l20Path.l5 : Nat → List (List Int) → Int → Int → Int → List (List Bool) → Int → Int → List Int → Int → Int → Int → List Int → Int → Int → Option (List Int × Bool)
  | 0,_,_,_,_,_,_,_,_,_,_,_,_,_,_ => none
  | k + 1,x2,x3,x10,x12,x13,x15,x16,x87,x88,x89,x435000,x435001,x436000,x436001 => if x89 < x88 then (if 0 ≤ x89 then (if x89 < (x87.length : Int) then (if 0 ≤ x15 then (if x15 < (x13.length : Int) then (if 0 ≤ x16 then (if x16 < ((rd_L5 x13 x15).length : Int) then (if rdOf false (rd_L5 x13 x15) x16 = true then (spec_l20Path.l5 k x2 x3 x10 x12 (x13.set (x15 : Int).toNat ((rd_L5 x13 x15).set (x16 : Int).toNat true)) x15 x16 x87 x88 (wrap64 (x89 + 1)) x435000 x435001 x436000 x436001) else (if 0 ≤ (wrap64 (x15 + 1)) then (if (wrap64 (x15 + 1)) < (x13.length : Int) then (if 0 ≤ (rd x87 x89) then (if (rd x87 x89) < ((rd_L5 x13 (wrap64 (x15 + 1))).length : Int) then (if rdOf false (rd_L5 x13 (wrap64 (x15 + 1))) (rd x87 x89) = true then ((spec_l20Free.f k x2 (wrap64 (x15 + 1)) x16 (rd x87 x89)).bind fun t461 => (spec_l20Path.l5 k x2 x3 x10 x12 (x13.set (x15 : Int).toNat ((rd_L5 x13 x15).set (x16 : Int).toNat t461)) x15 x16 x87 x88 (wrap64 (x89 + 1)) x435000 x435001 x436000 x436001)) else (spec_l20Path.l5 k x2 x3 x10 x12 (x13.set (x15 : Int).toNat ((rd_L5 x13 x15).set (x16 : Int).toNat false)) x15 x16 x87 x88 (wrap64 (x89 + 1)) x435000 x435001 x436000 x436001)) else (none)) else (none)) else (none)) else (none))) else (none)) else (none)) else (none)) else (none)) else (none)) else (none)) else (spec_l20Path.l4 k x2 x3 x10 x12 x13 x15 (wrap64 (x16 + 1)) x435000 x435001 x436000 x436001)
def spec_l20Path.j7 : Nat → List (List Int) → Int → Int → Int → List (List Bool) → Bool → Int → List Int → Int → Int → Option (List Int × Bool)
  | 0,_,_,_,_,_,_,_,_,_,_ => none
  | k + 1,x2,x3,x10,x12,x13,x141,x435000,x435001,x436000,x436001 => if x141 = true then (spec_l20Path.l1 k x2 x3 x10 (wrap64 (x12 + 1)) x435000 x435001 x436000 x436001) else (spec_l20Path.l6 k x2 x3 x12 x13 (([x436000] : List Int)) 1 x435000 x435001 x436000 x436001)
def spec_l20Path.l6 : Nat → List (List Int) → Int → Int → List (List Bool) → List Int → Int → Int → List Int → Int → Int → Option (List Int × Bool)
  | 0,_,_,_,_,_,_,_,_,_,_ => none
  | k + 1,x2,x3,x12,x13,x19,x20,x435000,x435001,x436000,x436001 => if x20 ≤ x12 then (if 0 ≤ (wrap64 (x20 - 1)) then (if (wrap64 (x20 - 1)) < (x19.length : Int) then ((spec_l20Next.f k x435000 x435001 (rd x19 (wrap64 (x20 - 1)))).bind fun t475 => (spec_l20Path.l7 k x2 x3 x12 x13 x19 x20 (rd x19 (wrap64 (x20 - 1))) t475 (t475.length : Int) 0 x435000 x435001 x436000 x436001)) else (none)) else (none)) else (spec_l20Path.l8 k x3 x19 x436000 x436001)
def spec_l20Path.l7 : Nat → List (List Int) → Int → Int → List (List Bool) → List Int → Int → Int → List Int → Int → Int → Int → List Int → Int → Int → Option (List Int × Bool)
  | 0,_,_,_,_,_,_,_,_,_,_,_,_,_,_ => none
  | k + 1,x2,x3,x12,x13,x19,x20,x21,x157,x158,x159,x435000,x435001,x436000,x436001 => if x159 < x158 then (if 0 ≤ x159 then (if x159 < (x157.length : Int) then (if 0 ≤ x20 then (if x20 < (x13.length : Int) then (if 0 ≤ (rd x157 x159) then (if (rd x157 x159) < ((rd_L5 x13 x20).length : Int) then (if rdOf false (rd_L5 x13 x20) (rd x157 x159) = true then ((spec_l20Free.f k x2 x20 x21 (rd x157 x159)).bind fun t481 => (if t481 = true then (if x19.length < 17592186044416 then (spec_l20Path.l6 k x2 x3 x12 x13 (x19 ++ [rd x157 x159]) (wrap64 (x20 + 1)) x435000 x435001 x436000 x436001) else (none)) else (spec_l20Path.l7 k x2 x3 x12 x13 x19 x20 x21 x157 x158 (wrap64 (x159 + 1)) x435000 x435001 x436000 x436001))) else (spec_l20Path.l7 k x2 x3 x12 x13 x19 x20 x21 x157 x158 (wrap64 (x159 + 1)) x435000 x435001 x436000 x436001)) else (none)) else (none)) else (none)) else (none)) else (none)) else (none)) else (spec_l20Path.l6 k x2 x3 x12 x13 x19 (wrap64 (x20 + 1)) x435000 x435001 x436000 x436001)
def spec_l20Path.l8 : Nat → Int → List Int → Int → Int → Option (List Int × Bool)
  | 0,_,_,_,_ => none
  | k + 1,x3,x19,x436000,x436001 => if (x19.length : Int) ≤ x3 then (if x19.length < 17592186044416 then (spec_l20Path.l8 k x3 (x19 ++ [x436001]) x436000 x436001) else (none)) else (some (x19,true))
def spec_l20Path.l0 : Nat → List (List Int) → Int → Int → Int → Int → List Int → Int → Int → Option (List Int × Bool)
  | 0,_,_,_,_,_,_,_,_ => none
  | k + 1,x2,x3,x10,x11,x435000,x435001,x436000,x436001 => if x11 > 0 then ((spec_l20Free.f k x2 (wrap64 (x11 - 1)) x436001 x436001).bind fun t436 => (if t436 = true then (spec_l20Path.l0 k x2 x3 x10 (wrap64 (x11 - 1)) x435000 x435001 x436000 x436001) else (spec_l20Path.j1 k x2 x3 x10 x11 x435000 x435001 x436000 x436001))) else (spec_l20Path.j1 k x2 x3 x10 x11 x435000 x435001 x436000 x436001)
end
def spec_l20Path.f (k : Nat) (a0_0 : Int) (l0_1 : List Int) (a1_0 : Int) (a1_1 : Int) (l2 : List (List Int)) (a3 : Int) : Option (List Int × Bool):=spec_l20Path.l0 k l2 a3 (l0_1.length : Int) (wrap64 (a3 + 1)) a0_0 l0_1 a1_0 a1_1
/-! ### spec_PlanCrowd: function 38 -/
mutual
def spec_PlanCrowd.j0 : Nat → List (S49) → Int → Bool → Int → List Int → Option ((List (List Int)) × Bool)
  | 0,_,_,_,_,_ => none
  | k + 1,x1,x2,x24,x489000,x489001 => if x24 = true then (some (([] : List (List Int)),false)) else (spec_PlanCrowd.l0 k x2 ([] : List (List Int)) x1 (x1.length : Int) 0 x489000 x489001)
def spec_PlanCrowd.l0 : Nat → Int → List (List Int) → List (S49) → Int → Int → Int → List Int → Option ((List (List Int)) × Bool)
  | 0,_,_,_,_,_,_,_ => none
  | k + 1,x2,x8,x25,x26,x27,x489000,x489001 => if x27 < x26 then (if 0 ≤ x27 then (if x27 < (x25.length : Int) then ((spec_l20Path.f k x489000 x489001 ((rd_T49 x25 x27).f0) ((rd_T49 x25 x27).f1) x8 x2).bind fun bt492 => (if bt492.2 = true then (if x8.length < 5864062014805 then (spec_PlanCrowd.l0 k x2 (x8 ++ [bt492.1]) x25 x26 (wrap64 (x27 + 1)) x489000 x489001) else (none)) else (some (([] : List (List Int)),false)))) else (none)) else (none)) else (some (x8,true))
end
def spec_PlanCrowd.f (k : Nat) (a0_0 : Int) (l0_1 : List Int) (l1 : List (S49)) (a2 : Int) : Option ((List (List Int)) × Bool):=(spec_GoodTrips.f k a0_0 l0_1 l1).bind fun t489 => (if t489 = true then (if a2 < 0 then (spec_PlanCrowd.j0 k l1 a2 true a0_0 l0_1) else (spec_PlanCrowd.j0 k l1 a2 (decide (a2 > 20)) a0_0 l0_1)) else (spec_PlanCrowd.j0 k l1 a2 true a0_0 l0_1))
end Go.Proofs.Ytcldlljnaijmhaa.Pr
namespace Go.Proofs.Ytcldlljnaijmhaa.Pr
open Go.RowKit Go.Proofs.YtcldlljnaijmhaaW.PrintWords Go.Proofs.YtcldlljnaijmhaaW.PrintLast Go.Proofs.YtcldlljnaijmhaaW.PrintMore
attribute [local go_sem] max2_int min2_int max_two min_two max_three min_three max_four min_four
set_option linter.unusedVariables false
set_option linter.unusedSimpArgs false

set_option maxHeartbeats 8000000 in
set_option maxRecDepth 100000 in
theorem spec_l20Free.calls (k : Nat) (A0 : Option Addr) (c0 : Nat) (l0 : List (List Int)) (a1 : Int) (a2 : Int) (a3 : Int) (r : Bool) (w : World) (hr0 : Kd.C (Kd.slice 3 (Kd.int .i64)) w A0 l0.length l0) (hc0 : l0.length ≤ c0) (h : spec_l20Free.f k l0 a1 a2 a3 = some r) :
   Calls Try.prog 71 #[.slice A0 l0.length c0,.int .i64 a1,.int .i64 a2,.int .i64 a3] w fun e w' => e = .returned (.bool r) ∧ Drawn0 w w':=by
  have HR0:=Aside0.mk hr0;have HC0:=Aside0.mk hc0;clear hr0 hc0;have H : (spec_l20Free.l0 k a1 a2 a3 l0 (l0.length : Int) 0) = some r:=h;clear h;have H':=Aside0.mk H;clear H;go_enter Try.func71,Try.ntmps71;go_wp2
  go_loopg [13] k (fun kq v13 w' => ∃ (z0 : Int),v13 = .int .i64 z0 ∧ Aside0 (spec_l20Free.l0 kq a1 a2 a3 l0 (l0.length : Int) z0 = some r) ∧ Aside0 (kq ≤ k) ∧ Drawn0 w w')
  case atStart => exact ⟨(0),es_,H',⟨Nat.le_refl _⟩,by repeat (first | exact Drawn0.refl _ | apply Drawn0.step)⟩
  case round =>
   clear H';obtain ⟨z0,rfl,HA,HK1,⟨m1,rfl⟩⟩:=hrel
   cases gk with
   | zero => exact absurd HA.out (by simp [spec_l20Free.l0])
   | succ k1 =>
    have H:=HA.out;clear HA;simp only [spec_l20Free.l0] at H;by_cases c5 : z0 < (l0.length : Int)
    ·rw [if_pos c5] at H
     have j2 : decide (z0 < (l0.length : Int)) = true:=decide_eq_true c5;clear c5;by_cases c6 : 0 ≤ z0
     ·rw [if_pos c6] at H
      have j3 : decide (0 ≤ z0) = true:=decide_eq_true c6;clear c6;by_cases c7 : z0 < (l0.length : Int)
      ·rw [if_pos c7] at H
       have j4 : decide (z0 < (l0.length : Int)) = true:=decide_eq_true c7;clear c7;replace H:=Option.bind_eq_some_iff.mp H;obtain ⟨j0,A80,H⟩:=H;replace H : (if j0 = true then (some false) else (spec_l20Free.l0 k1 a1 a2 a3 l0 (l0.length : Int) (wrap64 (z0 + 1)))) = some r:=H;have A8:=Aside0.mk A80;clear A80;by_cases c9 : j0 = true
       ·subst c9
        rw [if_pos rfl] at H
        obtain rfl:=Option.some.inj H
        have z2 : 0 ≤ (z0 : Int):=of_decide_eq_true as_;have z3 : z0 < (l0.length : Int):=of_decide_eq_true as_;obtain ⟨j1,z6,c432_0,e432,z9,z1,hi432_0⟩:=at_L1 HR0.out z0 z2 z3;cases e432;have z4:=Aside0.mk hi432_0;have z5:=Aside0.mk z1;clear hi432_0 z1;replace z2:=eq_true z2;replace z3:=eq_true z3;go_wp2_with (first | ((with_reducible refine gate_callee (f:=51) rfl ?_);refine goesL_ (some 21) rfl rfl Try.func51 (by kernel_rfl) rfl #[.slice z6 (rd_L1 l0 z0).length c432_0,.int .i64 a1,.int .i64 a2,.int .i64 a3] rfl ls_ ?_;(with_reducible refine (spec_l20Hits.calls _ _ (rd_L1 l0 z0) a1 a2 a3 true _ ?z7 ?z8 A8.out).mono ?_);(case z7 => repeat (first | exact z4.out | (with_reducible refine Kd.C_alloc ?_ _) | (with_reducible refine Kd.C_drewN ?_ _) | (with_reducible refine Kd.C_drew ?_)));(case z8 => exact z5.out);rintro e w' ⟨rfl,⟨nd,rfl⟩⟩;refine ⟨_,rfl,?_⟩));go_ret;exact ⟨es_,by repeat (first | exact Drawn0.refl _ | apply Drawn0.step)⟩
       ·replace c9:=Bool.eq_false_iff.mpr c9
        subst c9;rw [if_neg (show ¬ (false = true) by decide)] at H;have H':=Aside0.mk H;clear H;have z2 : 0 ≤ (z0 : Int):=of_decide_eq_true as_;have z3 : z0 < (l0.length : Int):=of_decide_eq_true as_;obtain ⟨j1,z6,c432_0,e432,z9,z1,hi432_0⟩:=at_L1 HR0.out z0 z2 z3;cases e432;have z4:=Aside0.mk hi432_0;have z5:=Aside0.mk z1;clear hi432_0 z1;replace z2:=eq_true z2;replace z3:=eq_true z3;go_wp2_with (first | ((with_reducible refine gate_callee (f:=51) rfl ?_);refine goesL_ (some 21) rfl rfl Try.func51 (by kernel_rfl) rfl #[.slice z6 (rd_L1 l0 z0).length c432_0,.int .i64 a1,.int .i64 a2,.int .i64 a3] rfl ls_ ?_;(with_reducible refine (spec_l20Hits.calls _ _ (rd_L1 l0 z0) a1 a2 a3 false _ ?z7 ?z8 A8.out).mono ?_);(case z7 => repeat (first | exact z4.out | (with_reducible refine Kd.C_alloc ?_ _) | (with_reducible refine Kd.C_drewN ?_ _) | (with_reducible refine Kd.C_drew ?_)));(case z8 => exact z5.out);rintro e w' ⟨rfl,⟨nd,rfl⟩⟩;refine ⟨_,rfl,?_⟩));go_roundg k1
        case measure => have:=HK1.out;omega
        case rel => exact ⟨(wrap64 (z0 + 1)),es_,H',⟨by have:=HK1.out;omega⟩,by repeat (first | exact Drawn0.refl _ | apply Drawn0.step)⟩
      ·rw [if_neg c7] at H
       exact absurd H (by simp)
     ·rw [if_neg c6] at H
      exact absurd H (by simp)
    ·rw [if_neg c5] at H
     have j2 : decide (z0 < (l0.length : Int)) = false:=decide_eq_false c5;clear c5
     obtain rfl:=Option.some.inj H
     go_wp2;go_ret;exact ⟨es_,by repeat (first | exact Drawn0.refl _ | apply Drawn0.step)⟩

end Go.Proofs.Ytcldlljnaijmhaa.Pr
