/- THE LAW FnExactGoodTree, as a statement over numbers and lists: for every list of nodes the two checks of a tree agree, and the copies are equal. No condition. -/
import Derived.Test.YtkhkgfihodljmaaPrd1
import Derived.Test.YtkhkgfihodljmaaEvKit
namespace Go.Proofs.Ytkhkgfihodljmaa.Pure
open Go.RowKit Go.Proofs.YtkhkgfihodljmaaW.PrintWords Go.Proofs.YtkhkgfihodljmaaW.PrintLast Go.Proofs.Ytkhkgfihodljmaa.Pr Go.Proofs.Ytkhkgfihodljmaa.EvKit

def cpN (x : S72) : S70 := ⟨x.f0, x.f1, x.f2⟩

theorem toNodeS_l0 (l : List S72) (hl : l.length ≤ 1048576) (d : Nat) : ∀ i : Nat, i + d = l.length →
    Ev (fun k => laws_toNodeS.l0 k l ((l.take i).map cpN ++ List.replicate (l.length - i) z70) i) (l.map cpN) := by
  induction d with
  | zero =>
    intro i hi
    apply Ev.succ
    simp only [laws_toNodeS.l0, show ¬ ((i : Int) < (l.length : Int)) by omega, if_false]
    have : i = l.length := by omega
    subst this
    exact Ev.some (copy_done _ _ _)
  | succ d ih =>
    intro i hi
    apply Ev.succ
    have hlen : ((l.take i).map cpN ++ List.replicate (l.length - i) z70).length = l.length := by simp; omega
    simp only [laws_toNodeS.l0, laws_toNode.f, Option.bind_some, hlen, show ((i : Int) < (l.length : Int)) by omega, show (0 : Int) ≤ (i : Int) by omega, if_true, Int.toNat_natCast]
    rw [show wrap64 ((i : Int) + 1) = ((i + 1 : Nat) : Int) by rw [wrap64_id (by omega) (by omega)]; omega]
    have := copy_step cpN z70 z72 l i (by omega)
    have e : (⟨(rd_T72 l (i : Int)).f0, (rd_T72 l (i : Int)).f1, (rd_T72 l (i : Int)).f2⟩ : S70) = cpN (l.getD i z72) := rfl
    rw [e, this]
    exact ih (i + 1) (by omega)

theorem toNodeS_ev (l : List S72) (hl : l.length ≤ 1048576) : Ev (fun k => laws_toNodeS.f k l) (l.map cpN) := by
  simp only [laws_toNodeS.f, Int.toNat_natCast, show (0 : Int) ≤ (l.length : Int) by omega, show l.length ≤ 11728124029610 by omega, if_true]
  have := toNodeS_l0 l hl l.length 0 (by omega)
  simpa using this

theorem eqNodeS_l0 (l : List S70) (hl : l.length ≤ 1048576) (d : Nat) : ∀ i : Nat, i + d = l.length → Ev (fun k => laws_eqNodeS.l0 k l l i) true := by
  induction d with
  | zero =>
    intro i hi
    apply Ev.succ
    simp only [laws_eqNodeS.l0, show ¬ ((i : Int) < (l.length : Int)) by omega, if_false]
    exact Ev.some rfl
  | succ d ih =>
    intro i hi
    apply Ev.succ
    simp only [laws_eqNodeS.l0, laws_eqNode.f, Option.bind_some, show ((i : Int) < (l.length : Int)) by omega, show (0 : Int) ≤ (i : Int) by omega, if_true]
    rw [show wrap64 ((i : Int) + 1) = ((i + 1 : Nat) : Int) by rw [wrap64_id (by omega) (by omega)]; omega]
    exact ih (i + 1) (by omega)
theorem eqNodeS_ev (l : List S70) (hl : l.length ≤ 1048576) : Ev (fun k => laws_eqNodeS.f k l l) true := by
  simp only [laws_eqNodeS.f, if_true]
  exact eqNodeS_l0 l hl l.length 0 (by omega)

/-- Where more is wanted than is left, it is no tree: the program's loop. -/
theorem impl_more (l : List S70) (hl : l.length ≤ 24) (d : Nat) : ∀ (i : Nat) (x : Int), i + d = l.length → (d : Int) < x → x ≤ 1000 + 24 * i →
    Ev (fun k => impl_GoodTree.l0 k x l (l.length : Int) i) false := by
  induction d with
  | zero =>
    intro i x hi hx hb
    apply Ev.succ
    simp only [impl_GoodTree.l0, show ¬ ((i : Int) < (l.length : Int)) by omega, if_false]
    exact Ev.some (by simp; omega)
  | succ d ih =>
    intro i x hi hx hb
    generalize hn : rd_T70 l (i : Int) = n
    have fin : ∀ m : Nat → Option Bool, (0 ≤ n.f1 → n.f1 ≤ 24 → Ev m false) → (0 ≤ n.f1 → n.f1 ≤ 24 → Ev m false) := fun m h => h
    have next : 0 ≤ n.f1 → n.f1 ≤ 24 → Ev (fun k => impl_GoodTree.l0 k (wrap64 (x + (wrap64 (n.f1 - 1)))) l (l.length : Int) (wrap64 ((i : Int) + 1))) false := by
      intro h0 h1
      rw [show wrap64 ((i : Int) + 1) = ((i + 1 : Nat) : Int) by rw [wrap64_id (by omega) (by omega)]; omega]
      rw [wrap64_id (x := n.f1 - 1) (by omega) (by omega), wrap64_id (x := x + (n.f1 - 1)) (by omega) (by omega)]
      exact ih (i + 1) _ (by omega) (by omega) (by omega)
    have j3 : ∀ a b c e, 0 ≤ n.f1 → n.f1 ≤ 24 → Ev (fun k => impl_GoodTree.j3 k x l (l.length : Int) i a b c n.f1 e) false := by
      intro a b c e h0 h1
      apply Ev.succ
      simp only [impl_GoodTree.j3]
      repeat' (first | exact Ev.some rfl | exact next h0 h1 | refine Ev.ite (fun _ => ?_) (fun _ => ?_))
    have j2 : ∀ b a c, (b = false → 0 ≤ n.f1 ∧ n.f1 ≤ 24) → Ev (fun k => impl_GoodTree.j2 k x l (l.length : Int) i b a n.f1 c) false := by
      intro b a c h
      apply Ev.succ
      simp only [impl_GoodTree.j2]
      refine Ev.ite (fun _ => Ev.some rfl) (fun hb => ?_)
      obtain ⟨h0, h1⟩ := h (by simpa using hb)
      repeat' (first | exact j3 _ _ _ _ h0 h1 | refine Ev.ite (fun _ => ?_) (fun _ => ?_))
    apply Ev.succ
    simp only [impl_GoodTree.l0, hn, show ((i : Int) < (l.length : Int)) by omega, show (0 : Int) ≤ (i : Int) by omega, if_true, impl_between.f]
    refine Ev.ite (fun _ => j2 _ _ _ (by simp)) (fun _ => Ev.ite (fun _ => j2 _ _ _ (by simp)) (fun h0 => Ev.ite (fun _ => j2 _ _ _ (by simp)) (fun h1 => ?_)))
    have hh : 0 ≤ n.f1 ∧ n.f1 ≤ 24 := by omega
    refine Ev.ite (fun h2 => Ev.bnd0 (a := decide (n.f2 ≤ 9)) (by simp [h2]) (j2 _ _ _ (fun _ => hh))) (fun h2 => Ev.ite (fun h3 => ?_) (fun h3 => j2 _ _ _ (by simp)))
    refine Ev.bnd0 (a := decide (n.f2 ≥ 0 ∧ n.f2 ≤ 9)) ?_ (j2 _ _ _ (fun _ => hh))
    by_cases h4 : n.f2 ≥ 0 <;> simp [h4]

def valid (a b c : Int) : Prop := ((a = 1 ∨ a = 2 ∨ a = 4) ∧ b ≥ 1 ∧ c = 0) ∨ (a = 3 ∧ b = 1 ∧ c = 0) ∨ (a = 5 ∧ b = 0 ∧ 0 ≤ c ∧ c ≤ 9)

theorem j3I (l : List S70) (n x i a b c : Int) (q r : Bool) (hq : q = true ↔ (a = 1 ∨ a = 2 ∨ a = 4)) (hc : c = 0 ∨ a = 5) (hc9 : 0 ≤ c ∧ c ≤ 9)
    (h1 : valid a b c → Ev (fun k => impl_GoodTree.l0 k (wrap64 (x + (wrap64 (b - 1)))) l n (wrap64 (i + 1))) r) (h2 : ¬ valid a b c → r = false) (w1 w2 : Int) (e1 : w1 = a) :
    Ev (fun k => impl_GoodTree.j3 k x l n i w1 q w2 b c) r := by
  subst e1
  apply Ev.succ
  simp only [impl_GoodTree.j3]
  unfold valid at h1 h2
  refine Ev.ite (fun hh => ?_) (fun hh => ?_)
  · have hh := hq.1 hh
    refine Ev.ite (fun _ => Ev.some (h2 (by omega)).symm) (fun _ => h1 (by omega))
  · have hh : ¬ (w1 = 1 ∨ w1 = 2 ∨ w1 = 4) := fun h => hh (hq.2 h)
    repeat' (first | exact Ev.some (h2 (by omega)).symm | exact h1 (by omega) | refine Ev.ite (fun _ => ?_) (fun _ => ?_))

theorem stepI (l : List S70) (i : Nat) (x a b c : Int) (r : Bool) (hn : rd_T70 l (i : Int) = ⟨a, b, c⟩) (hi : i < l.length) (hx : ¬ (x = 0 ∨ b < 0 ∨ 24 < b))
    (h1 : valid a b c → Ev (fun k => impl_GoodTree.l0 k (wrap64 (x + (wrap64 (b - 1)))) l (l.length : Int) (wrap64 ((i : Int) + 1))) r) (h2 : ¬ valid a b c → r = false) :
    Ev (fun k => impl_GoodTree.l0 k x l (l.length : Int) i) r := by
  have pi : ((i : Int) < (l.length : Int)) := by omega
  have p0 : (0 : Int) ≤ (i : Int) := by omega
  have bad : (¬ valid a b c) → Ev (fun k => impl_GoodTree.j2 k x l (l.length : Int) i true a b c) r := by
    intro h
    apply Ev.succ
    simp only [impl_GoodTree.j2, if_true]
    exact Ev.some (h2 h).symm
  have good : (c = 0 ∨ a = 5) → (0 ≤ c ∧ c ≤ 9) → Ev (fun k => impl_GoodTree.j2 k x l (l.length : Int) i false a b c) r := by
    intro hc h9
    apply Ev.succ
    simp only [impl_GoodTree.j2]
    refine Ev.neg (by simp) (Ev.ite (fun e => ?_) (fun e => Ev.ite (fun e2 => ?_) (fun e2 => ?_)))
    · exact j3I l _ x i a b c _ r (by simp; omega) hc h9 h1 h2 _ _ rfl
    · exact j3I l _ x i a b c _ r (by simp; omega) hc h9 h1 h2 _ _ rfl
    · exact j3I l _ x i a b c _ r (by simp; omega) hc h9 h1 h2 _ _ rfl
  apply Ev.succ
  simp only [impl_GoodTree.l0, hn, pi, p0, if_true, impl_between.f]
  refine Ev.neg (by omega) (Ev.neg (by omega) (Ev.neg (by omega) (Ev.ite (fun e => ?_) (fun e => Ev.ite (fun e2 => ?_) (fun e2 => ?_)))))
  · refine Ev.bnd0 (a := true) (by simp [e]) ?_
    exact good (Or.inl e) (by omega)
  · by_cases h9 : 0 ≤ c ∧ c ≤ 9
    · exact Ev.bnd0 (a := true) (by simp [h9.1, h9.2]) (good (Or.inr e2) h9)
    · refine Ev.bnd0 (a := false) (by by_cases h : c ≥ 0 <;> simp [h] <;> omega) (bad ?_)
      unfold valid; omega
  · refine bad ?_
    unfold valid; omega

theorem j3S (l : List S70) (n x i a b c : Int) (q r : Bool) (hq : q = true ↔ (a = 1 ∨ a = 2 ∨ a = 4))
    (h1 : valid a b c → Ev (fun k => spec_GoodTree.l0 k l (wrap64 (x + (wrap64 (b - 1)))) l n (wrap64 (i + 1))) r) (h2 : ¬ valid a b c → r = false) (w1 w2 : Int) (e1 : w1 = a) :
    Ev (fun k => spec_GoodTree.j3 k l x false l n i w1 q w2 b c) r := by
  subst e1
  apply Ev.succ
  simp only [spec_GoodTree.j3, Bool.false_eq_true, if_false]
  unfold valid at h1 h2
  refine Ev.ite (fun hh => ?_) (fun hh => ?_)
  · have hh := hq.1 hh
    repeat' (first | exact Ev.some (h2 (by omega)).symm | exact h1 (by omega) | refine Ev.ite (fun _ => ?_) (fun _ => ?_))
  · have hh : ¬ (w1 = 1 ∨ w1 = 2 ∨ w1 = 4) := fun h => hh (hq.2 h)
    repeat' (first | exact Ev.some (h2 (by omega)).symm | exact h1 (by omega) | refine Ev.ite (fun _ => ?_) (fun _ => ?_))

theorem stepS (l : List S70) (i : Nat) (x a b c : Int) (r : Bool) (hn : rd_T70 l (i : Int) = ⟨a, b, c⟩) (hi : i < l.length) (hx : ¬ (x = 0 ∨ b < 0 ∨ (l.length : Int) < b))
    (h1 : valid a b c → Ev (fun k => spec_GoodTree.l0 k l (wrap64 (x + (wrap64 (b - 1)))) l (l.length : Int) (wrap64 ((i : Int) + 1))) r) (h2 : ¬ valid a b c → r = false) :
    Ev (fun k => spec_GoodTree.l0 k l x l (l.length : Int) i) r := by
  have pi : ((i : Int) < (l.length : Int)) := by omega
  have p0 : (0 : Int) ≤ (i : Int) := by omega
  apply Ev.succ
  simp only [spec_GoodTree.l0, hn, pi, p0, if_true]
  refine Ev.neg (by omega) (Ev.neg (by omega) ?_)
  rw [show decide (b > (l.length : Int)) = false by simp; omega]
  apply Ev.succ
  simp only [spec_GoodTree.j2]
  refine Ev.neg (by simp) (Ev.ite (fun e => ?_) (fun e => Ev.ite (fun e2 => ?_) (fun e2 => ?_)))
  · exact j3S l _ x i a b c _ r (by simp; omega) h1 h2 _ _ rfl
  · exact j3S l _ x i a b c _ r (by simp; omega) h1 h2 _ _ rfl
  · exact j3S l _ x i a b c _ r (by simp; omega) h1 h2 _ _ rfl

/-- The two loops agree, from any node on. -/
theorem both (l : List S70) (hl : l.length ≤ 24) (d : Nat) : ∀ (i : Nat) (x : Int), i + d = l.length → 0 ≤ x → x ≤ 1000 + 24 * i →
    ∃ r, Ev (fun k => impl_GoodTree.l0 k x l (l.length : Int) i) r ∧ Ev (fun k => spec_GoodTree.l0 k l x l (l.length : Int) i) r := by
  induction d with
  | zero =>
    intro i x hi hx hb
    refine ⟨x == 0, ?_, ?_⟩
    · apply Ev.succ
      simp only [impl_GoodTree.l0, show ¬ ((i : Int) < (l.length : Int)) by omega, if_false]
      exact Ev.some rfl
    · apply Ev.succ
      simp only [spec_GoodTree.l0, show ¬ ((i : Int) < (l.length : Int)) by omega, if_false]
      exact Ev.some rfl
  | succ d ih =>
    intro i x hi hx hb
    generalize hn : rd_T70 l (i : Int) = n
    obtain ⟨a, b, c⟩ := n
    have ew : wrap64 ((i : Int) + 1) = ((i + 1 : Nat) : Int) := by rw [wrap64_id (by omega) (by omega)]; omega
    have pi : ((i : Int) < (l.length : Int)) := by omega
    have p0 : (0 : Int) ≤ (i : Int) := by omega
    -- a node that is no good
    have badS : x = 0 ∨ b < 0 ∨ (l.length : Int) < b → Ev (fun k => spec_GoodTree.l0 k l x l (l.length : Int) i) false := by
      intro h
      apply Ev.succ
      simp only [spec_GoodTree.l0, hn, pi, p0, if_true]
      have hj : Ev (fun k => spec_GoodTree.j2 k l x l (l.length : Int) i true a b c) false := by
        apply Ev.succ
        simp only [spec_GoodTree.j2, if_true]
        exact Ev.some rfl
      refine Ev.ite (fun _ => hj) (fun _ => Ev.ite (fun _ => hj) (fun _ => ?_))
      rw [show decide (b > (l.length : Int)) = true by simp; omega]
      exact hj
    have badI : x = 0 ∨ b < 0 ∨ 24 < b → Ev (fun k => impl_GoodTree.l0 k x l (l.length : Int) i) false := by
      intro h
      apply Ev.succ
      simp only [impl_GoodTree.l0, hn, pi, p0, if_true]
      have hj : Ev (fun k => impl_GoodTree.j2 k x l (l.length : Int) i true a b c) false := by
        apply Ev.succ
        simp only [impl_GoodTree.j2, if_true]
        exact Ev.some rfl
      exact Ev.ite (fun _ => hj) (fun _ => Ev.ite (fun _ => hj) (fun _ => Ev.pos (by omega) hj))
    by_cases h1 : x = 0 ∨ b < 0 ∨ 24 < b
    · exact ⟨false, badI h1, badS (by omega)⟩
    have en : wrap64 (x + wrap64 (b - 1)) = x + (b - 1) := by rw [wrap64_id (x := b - 1) (by omega) (by omega), wrap64_id (by omega) (by omega)]
    by_cases h2 : (l.length : Int) < b
    · refine ⟨false, stepI l i x a b c false hn (by omega) h1 (fun _ => ?_) (fun _ => rfl), badS (Or.inr (Or.inr h2))⟩
      rw [en, ew]
      exact impl_more l hl d (i + 1) _ (by omega) (by omega) (by omega)
    · by_cases hv : valid a b c
      · have hbx : 0 ≤ x + (b - 1) := by omega
        obtain ⟨r, e1, e2⟩ := ih (i + 1) (x + (b - 1)) (by omega) hbx (by omega)
        rw [← en, ← ew] at e1 e2
        exact ⟨r, stepI l i x a b c r hn (by omega) h1 (fun _ => e1) (fun h => absurd hv h), stepS l i x a b c r hn (by omega) (by omega) (fun _ => e2) (fun h => absurd hv h)⟩
      · exact ⟨false, stepI l i x a b c false hn (by omega) h1 (fun h => absurd h hv) (fun _ => rfl), stepS l i x a b c false hn (by omega) (by omega) (fun h => absurd h hv) (fun _ => rfl)⟩

theorem goodTree_both (l : List S70) (hl : l.length ≤ 1048576) : ∃ r, Ev (fun k => impl_GoodTree.f k l) r ∧ Ev (fun k => spec_GoodTree.f k l) r := by
  simp only [impl_GoodTree.f, spec_GoodTree.f]
  by_cases h0 : (l.length : Int) < 1
  · refine ⟨false, Ev.pos h0 (Ev.succ ?_), Ev.pos h0 (Ev.succ ?_)⟩
    · simp only [impl_GoodTree.j0, if_true]; exact Ev.some rfl
    · simp only [spec_GoodTree.j0, if_true]; exact Ev.some rfl
  · by_cases h1 : (l.length : Int) > 24
    · refine ⟨false, Ev.neg h0 (Ev.succ ?_), Ev.neg h0 (Ev.succ ?_)⟩
      · simp only [impl_GoodTree.j0, h1, decide_true, if_true]; exact Ev.some rfl
      · simp only [spec_GoodTree.j0, h1, decide_true, if_true]; exact Ev.some rfl
    · obtain ⟨r, e1, e2⟩ := both l (by omega) l.length 0 1 (by omega) (by omega) (by omega)
      refine ⟨r, Ev.neg h0 (Ev.succ ?_), Ev.neg h0 (Ev.succ ?_)⟩
      · simp only [impl_GoodTree.j0, h1, decide_false, Bool.false_eq_true, if_false]; exact e1
      · simp only [spec_GoodTree.j0, h1, decide_false, Bool.false_eq_true, if_false]; exact e2

theorem FnExactGoodTree : ∀ (l0 : List (S72)), (l0.length ≤ maxLen ∧ l0.length * 24 ≤ 140737488351232 ∧ ∀ y0 ∈ l0, ((Lit.int .i64 y0.f0).wf = true ∧ (Lit.int .i64 y0.f1).wf = true ∧ (Lit.int .i64 y0.f2).wf = true)) → ∃ k, laws_FnExactGoodTree.f k l0 = some true := by
  intro l h
  have hm : l.length ≤ 9223372036854775807 := by have := h.1; unfold maxLen at this; omega
  apply Ev.rounds
  simp only [laws_FnExactGoodTree.f, laws_szNodeS.f]
  rw [wrap64_id (x := 1048576 - (l.length : Int)) (by omega) (by omega)]
  by_cases hl : 1048576 - (l.length : Int) < 0
  · simp only [hl, if_true, Option.bind_some, show (-1 : Int) < 0 by omega]
    exact Ev.some rfl
  · simp only [hl, if_false, Option.bind_some]
    have hl2 : l.length ≤ 1048576 := by omega
    obtain ⟨r, e1, e2⟩ := goodTree_both (l.map cpN) (by simpa using hl2)
    refine Ev.bnd (toNodeS_ev l hl2) (Ev.bnd e2 (Ev.bnd (toNodeS_ev l hl2) (Ev.bnd e1 ?_)))
    refine Ev.neg (by simp) (Ev.bnd (toNodeS_ev l hl2) (Ev.bnd (eqNodeS_ev _ (by simpa using hl2)) (Ev.pos rfl (Ev.some rfl))))

end Go.Proofs.Ytkhkgfihodljmaa.Pure
