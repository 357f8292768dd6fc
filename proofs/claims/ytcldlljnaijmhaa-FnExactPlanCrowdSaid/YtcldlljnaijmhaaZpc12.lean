-- Joined and pruned by wip/tools/prune.py out of this session's own texts (PureGood, PureMeet2, Pcw)
import Derived.Test.YtcldlljnaijmhaaZpc11
/-
Own text: planned paths are good paths, and never meet.
-/
namespace Go.Proofs.Ytcldlljnaijmhaa.Pure
open Go.RowKit Go.Proofs.YtcldlljnaijmhaaW.PrintWords Go.Proofs.YtcldlljnaijmhaaW.PrintLast Go.Proofs.Ytcldlljnaijmhaa.Pr Go.Proofs.Ytcldlljnaijmhaa.EvKit
open Classical

theorem gt_l2 (w : Int) (c : List Int) (x1 : List S49) (x2 : List (List Int)) (p : List Int) (j i : Nat) (hj : j < p.length) (t : List Int) (ht : t.length ≤ 100) (r : Bool)
    (h1 : Ev (fun k => impl_GoodPaths.l1 k x1 x2 p (p.length : Int) (wrap64 ((j : Int) + 1)) x2 (x2.length : Int) i w c) r) (h2 : Ev (fun k => spec_GoodPaths.l1 k x1 x2 p (wrap64 ((j : Int) + 1)) x2 (x2.length : Int) i w c) r) (d : Nat) : ∀ (m : Nat) (b : Bool), m + d = t.length →
    (b = true ∨ ∃ q : Nat, m ≤ q ∧ q < t.length ∧ t.getD q 0 = p.getD j 0) → Ev (fun k => impl_GoodPaths.l2 k x1 x2 p (p.length : Int) j b x2 (x2.length : Int) i t (t.length : Int) m w c) r ∧ Ev (fun k => spec_GoodPaths.l2 k x1 x2 p j b x2 (x2.length : Int) i t (t.length : Int) m w c) r := by
  induction d with
  | zero =>
    intro m b hm hb
    obtain rfl : b = true := hb.resolve_right (fun ⟨q, a1, a2, _⟩ => by omega)
    refine ⟨Ev.succ ?_, Ev.succ ?_⟩
    · simp only [impl_GoodPaths.l2]
      exact Ev.neg (by omega) (Ev.pos trivial h1)
    · simp only [spec_GoodPaths.l2]
      exact Ev.neg (by omega) (Ev.pos trivial h2)
  | succ d ih =>
    intro m b hm hb
    have e1 : rd t (m : Int) = t.getD m 0 := rfl
    have e2 : rd p (j : Int) = p.getD j 0 := rfl
    cases b with
    | true =>
      obtain ⟨a1, a2⟩ := ih (m + 1) true (by omega) (.inl rfl)
      refine ⟨Ev.succ ?_, Ev.succ ?_⟩
      · simp only [impl_GoodPaths.l2, succ_w (show m < 35184372088833 by omega)]
        exact Ev.pos (by omega) (Ev.pos (by omega) (Ev.pos (by omega) (Ev.pos trivial a1)))
      · simp only [spec_GoodPaths.l2, succ_w (show m < 35184372088833 by omega)]
        exact Ev.pos (by omega) (Ev.pos (by omega) (Ev.pos (by omega) (Ev.pos trivial a2)))
    | false =>
      obtain ⟨a1, a2⟩ := ih (m + 1) (t.getD m 0 == p.getD j 0) (by omega) (by
        obtain h | ⟨q, hq1, hq2, hq3⟩ := hb
        · cases h
        · by_cases e : q = m
          · subst e
            exact .inl (by simpa using hq3)
          · exact .inr ⟨q, by omega, hq2, hq3⟩)
      refine ⟨Ev.succ ?_, Ev.succ ?_⟩
      · simp only [impl_GoodPaths.l2, e1, e2, succ_w (show m < 35184372088833 by omega)]
        exact Ev.pos (by omega) (Ev.pos (by omega) (Ev.pos (by omega) (Ev.neg (by simp) (Ev.pos (by omega) (Ev.pos (by omega) a1)))))
      · simp only [spec_GoodPaths.l2, e1, e2, succ_w (show m < 35184372088833 by omega)]
        exact Ev.pos (by omega) (Ev.pos (by omega) (Ev.pos (by omega) (Ev.neg (by simp) (Ev.pos (by omega) (Ev.pos (by omega) a2)))))
theorem gt_l1 (w : Int) (c : List Int) (hc : Cl w c) (x1 : List S49) (x2 : List (List Int)) (p : List Int) (hp : p.length ≤ 1048576) (i : Nat) (hi : i < 35184372088833) (r : Bool)
    (h1 : Ev (fun k => impl_GoodPaths.l0 k x1 x2 x2 (x2.length : Int) ((i + 1 : Nat) : Int) w c) r) (h2 : Ev (fun k => spec_GoodPaths.l0 k x1 x2 x2 (x2.length : Int) ((i + 1 : Nat) : Int) w c) r)
    (hgo : ∀ j, 1 ≤ j → j < p.length → Fr c (p.getD (j - 1) 0) ∧ p.getD j 0 ∈ Gos w c (p.getD (j - 1) 0)) (d : Nat) : ∀ j : Nat, 1 ≤ j → j + d = p.length →
    Ev (fun k => impl_GoodPaths.l1 k x1 x2 p (p.length : Int) j x2 (x2.length : Int) i w c) r ∧ Ev (fun k => spec_GoodPaths.l1 k x1 x2 p j x2 (x2.length : Int) i w c) r := by
  induction d with
  | zero =>
    intro j hj1 hj
    refine ⟨Ev.succ ?_, Ev.succ ?_⟩
    · simp only [impl_GoodPaths.l1, succ_w hi]
      exact Ev.neg (by omega) h1
    · simp only [spec_GoodPaths.l1, succ_w hi]
      exact Ev.neg (by omega) h2
  | succ d ih =>
    intro j hj1 hj
    obtain ⟨hf, hmem⟩ := hgo j hj1 (by omega)
    obtain ⟨g1, g2⟩ := goes_ev hc hf
    have e : rd p ((j : Int) - 1) = p.getD (j - 1) 0 := by
      unfold rd
      rw [show ((j : Int) - 1).toNat = j - 1 by omega]
    have hlen : (Gos w c (p.getD (j - 1) 0)).length ≤ 100 := Gos_len' w c _
    obtain ⟨n1, n2⟩ := ih (j + 1) (by omega) (by omega)
    obtain ⟨a1, a2⟩ := gt_l2 w c x1 x2 p j i (by omega) (Gos w c (p.getD (j - 1) 0)) hlen r (by rw [succ_w (show j < 35184372088833 by omega)]; exact n1) (by rw [succ_w (show j < 35184372088833 by omega)]; exact n2) _ 0 false (Nat.zero_add _) (by
      obtain ⟨q, hq⟩ := List.getElem?_of_mem hmem
      have hql := (List.getElem?_eq_some_iff.1 hq).1
      exact .inr ⟨q, Nat.zero_le _, hql, by rw [List.getD_eq_getElem?_getD, hq]; rfl⟩)
    refine ⟨Ev.succ ?_, Ev.succ ?_⟩
    · simp only [impl_GoodPaths.l1, wrap64_id (x := (j : Int) - 1) (by omega) (by omega), e]
      exact Ev.pos (by omega) (Ev.pos (by omega) (Ev.pos (by omega) (Ev.bnd0 (free_impl w c _) (Ev.pos (by simpa using hf) (Ev.bnd g1 a1)))))
    · simp only [spec_GoodPaths.l1, wrap64_id (x := (j : Int) - 1) (by omega) (by omega), e]
      exact Ev.pos (by omega) (Ev.pos (by omega) (Ev.pos (by omega) (Ev.bnd g2 a2)))
/-- Paths that go as the trips say. -/
def Goes (w : Int) (c : List Int) (N : Nat) (l : List S49) (Q : List (List Int)) : Prop := Q.length = l.length ∧ ∀ i, i < l.length → (Q.getD i []).length = N + 1 ∧ (Q.getD i []).getD 0 0 = (TR l i).f0 ∧ (Q.getD i []).getD N 0 = (TR l i).f1 ∧
  ∀ j, 1 ≤ j → j < N + 1 → Fr c ((Q.getD i []).getD (j - 1) 0) ∧ (Q.getD i []).getD j 0 ∈ Gos w c ((Q.getD i []).getD (j - 1) 0)
theorem gt_l0 (w : Int) (c : List Int) (x1 : List S49) (x2 : List (List Int)) (N : Nat) (hN : N ≤ 20) (hg : Gt w c x1) (hq : Goes w c N x1 x2) (hm1 : Ev (fun q => impl_FirstMeet.f q x2) (-1)) (hm2 : Ev (fun q => spec_FirstMeet.f q x2) (-1)) (d : Nat) : ∀ i : Nat, i + d = x2.length →
    Ev (fun k => impl_GoodPaths.l0 k x1 x2 x2 (x2.length : Int) i w c) true ∧ Ev (fun k => spec_GoodPaths.l0 k x1 x2 x2 (x2.length : Int) i w c) true := by
  have h5 := hg.2.1
  have hl := hq.1
  induction d with
  | zero =>
    intro i hi
    refine ⟨Ev.succ ?_, Ev.succ ?_⟩
    · simp only [impl_GoodPaths.l0]
      exact Ev.neg (by omega) (Ev.bnd hm1 (Ev.some (by simp)))
    · simp only [spec_GoodPaths.l0]
      exact Ev.neg (by omega) (Ev.bnd hm2 (Ev.some (by simp)))
  | succ d ih =>
    intro i hi
    obtain ⟨n1, n2⟩ := ih (i + 1) (by omega)
    have e1 : rd_L1 x2 (i : Int) = x2.getD i [] := rfl
    have e2 : rd_T49 x1 (i : Int) = TR x1 i := rfl
    have e0 : ((rd_L1 x2 0).length : Int) = ((N + 1 : Nat) : Int) := by
      have := (hq.2 0 (by omega)).1
      have e : rd_L1 x2 0 = x2.getD 0 [] := rfl
      rw [e, this]
    obtain ⟨hp, h3, h4, hgo⟩ := hq.2 i (by omega)
    generalize x2.getD i [] = p at e1 hp h3 h4 hgo
    have e3 : rd p 0 = p.getD 0 0 := rfl
    have hb : (rd p ((p.length : Int) - 1) != (TR x1 i).f1) = false := by
      unfold rd
      rw [show ((p.length : Int) - 1).toNat = N by omega, h4]
      simp
    obtain ⟨a1, a2⟩ := gt_l1 w c hg.1 x1 x2 p (by omega) i (by omega) true n1 n2 (fun j h6 h7 => hgo j h6 (by omega)) (p.length - 1) 1 (Nat.le_refl _) (by omega)
    refine ⟨Ev.succ ?_, Ev.succ ?_⟩
    · simp only [impl_GoodPaths.l0, e1, e2, e3, e0, wrap64_id (x := (p.length : Int) - 1) (by omega) (by omega), hb]
      refine Ev.pos (by omega) (Ev.pos (by omega) (Ev.pos (by omega) (Ev.neg (by omega) (Ev.pos (by omega) (Ev.pos (by omega) (Ev.pos (by omega) (Ev.pos (by omega) (Ev.pos h3 (Ev.pos (by omega) (Ev.pos (by omega) (Ev.succ ?_)))))))))))
      simp only [impl_GoodPaths.j2]
      exact Ev.neg (by simp) a1
    · simp only [spec_GoodPaths.l0, e1, e2, e3, e0, wrap64_id (x := (p.length : Int) - 1) (by omega) (by omega), hb]
      refine Ev.pos (by omega) (Ev.pos (by omega) (Ev.pos (by omega) (Ev.neg (by omega) (Ev.pos (by omega) (Ev.pos (by omega) (Ev.pos (by omega) (Ev.pos (by omega) (Ev.pos h3 (Ev.pos (by omega) (Ev.pos (by omega) (Ev.succ ?_)))))))))))
      simp only [spec_GoodPaths.j2]
      exact Ev.neg (by simp) a2
theorem goodPaths_true (w : Int) (c : List Int) (l : List S49) (p : List (List Int)) (N : Nat) (hN : N ≤ 20) (hn : c.length ≤ 35184372088832) (hg : Gt w c l) (hq : Goes w c N l p) (hm1 : Ev (fun q => impl_FirstMeet.f q p) (-1)) (hm2 : Ev (fun q => spec_FirstMeet.f q p) (-1)) : Ev (fun k => impl_GoodPaths.f k w c l p) true ∧ Ev (fun k => spec_GoodPaths.f k w c l p) true := by
  obtain ⟨t1, t2⟩ := goodTrips_both w c l hn
  simp only [impl_GoodPaths.f, spec_GoodPaths.f]
  obtain ⟨a, b⟩ := gt_l0 w c l p N hN hg hq hm1 hm2 p.length 0 (by omega)
  have e : ((p.length : Int) != (l.length : Int)) = false := by simp [hq.1]
  rw [e]
  refine ⟨Ev.bnd t1 (Ev.pos (by simpa using hg) (Ev.succ ?_)), Ev.bnd t2 (Ev.pos (by simpa using hg) (Ev.succ ?_))⟩
  · simp only [impl_GoodPaths.j0, Bool.false_eq_true, if_false]; exact a
  · simp only [spec_GoodPaths.j0, Bool.false_eq_true, if_false]; exact b
/-- What a crowd's paths are. -/
theorem crowd_goes {w : Int} {c : List Int} {N : Nat} (l : List S49) : ∀ (P Q : List (List Int)), (∀ t ∈ l, Fr c t.f0 ∧ Fr c t.f1) → crowdV w c N l P = some Q →
    ∃ R, Q = P ++ R ∧ R.length = l.length ∧ ∀ i, i < l.length → GoodP w c (P ++ R.take i) (l.getD i z49).f0 (l.getD i z49).f1 N (R.getD i []) := by
  induction l with
  | nil =>
    intro P Q _ h
    simp only [crowdV, Option.some.injEq] at h
    exact ⟨[], by simp [h], rfl, fun i hi => by simp at hi⟩
  | cons t l ih =>
    intro P Q hf h
    simp only [crowdV] at h
    cases hp : planI w c P t.f0 t.f1 N with
    | none => rw [hp] at h; cases h
    | some p =>
      rw [hp] at h
      obtain ⟨R, h1, h2, h3⟩ := ih (P ++ [p]) Q (fun u hu => hf u (.tail _ hu)) h
      refine ⟨p :: R, by rw [h1]; simp, by simp [h2], fun i hi => ?_⟩
      cases i with
      | zero =>
        have := plan_good (hf t (.head _)).1 hp
        simpa using this
      | succ i =>
        have := h3 i (by simpa using hi)
        rw [List.append_assoc] at this
        simpa using this
/-- Two good paths, the later one planned beside the earlier, don't meet. -/
theorem plan_meets {w : Int} {c : List Int} {l : List S49} {N : Nat} {Q : List (List Int)} (hg : Gt w c l) (h : crowdV w c N l [] = some Q) : Goes w c N l Q ∧ ∀ k, k < N + 1 → ¬ Two Q k 0 := by
  obtain ⟨R, h1, h2, h3⟩ := crowd_goes l [] Q (gt_free hg) h
  rw [List.nil_append] at h1
  subst h1
  refine ⟨⟨h2, fun i hi => ?_⟩, ?_⟩
  · have g := h3 i hi
    refine ⟨g.len, g.from_, g.to_, fun j h4 h5 => ?_⟩
    have hgo := g.go (j - 1) (by omega)
    rw [show j - 1 + 1 = j by omega] at hgo
    exact ⟨g.free (j - 1) (by omega), hgo⟩
  · rintro k hk ⟨i, _, hi, j, _, hj, hh⟩
    have g := h3 i (by omega)
    have gj := h3 j (by omega)
    have hmem : Q.getD j [] ∈ [] ++ Q.take i := by
      rw [List.nil_append, List.getD_eq_getElem?_getD, List.getElem?_eq_getElem (by omega)]
      exact List.mem_take_iff_getElem.2 ⟨j, by omega, rfl⟩
    have hPA : ∀ a b, P_ Q a b = PA (Q.getD a []) b := fun a b => rfl
    unfold Hit at hh
    rw [hPA, hPA, hPA, hPA] at hh
    cases k with
    | zero =>
      rcases hh with hh | ⟨hh, _⟩
      · exact g.start _ hmem (by rw [← hh, g.from_])
      · exact absurd hh (Nat.lt_irrefl 0)
    | succ k =>
      have hm := g.may k (by omega) _ hmem
      rw [Nat.succ_sub_one] at hh
      rcases hh with hh | ⟨_, hh1, hh2⟩
      · exact hm (.inl hh.symm)
      · exact hm (.inr ⟨Nat.succ_pos k, by rw [Nat.succ_sub_one]; exact hh1.symm, hh2⟩)
end Go.Proofs.Ytcldlljnaijmhaa.Pure
/-
Own text: FirstMeet of paths that never meet.
-/
namespace Go.Proofs.Ytcldlljnaijmhaa.Pure
open Go.RowKit Go.Proofs.YtcldlljnaijmhaaW.PrintWords Go.Proofs.YtcldlljnaijmhaaW.PrintLast Go.Proofs.Ytcldlljnaijmhaa.Pr Go.Proofs.Ytcldlljnaijmhaa.EvKit
open Classical

theorem no_meet (l : List (List Int)) (m : Nat) (h5 : l.length ≤ 5) (hm2 : m ≤ 1048576) (hl : ∀ i, i < l.length → (l.getD i []).length = m) (hno : ∀ k, k < m → ¬ Two l k 0) :
    Ev (fun q => impl_FirstMeet.f q l) (-1) ∧ Ev (fun q => spec_FirstMeet.f q l) (-1) := by
  simp only [impl_FirstMeet.f, spec_FirstMeet.f]
  have h5' : ¬ (l.length : Int) > 5 := by omega
  by_cases hz : l.length = 0
  · obtain ⟨a, b⟩ := both_m0 l h5 _ rfl (-1) l.length 0 (by omega) (fun _ => ⟨fun _ => rfl, fun h => absurd hz h⟩) (fun _ => rfl)
    exact ⟨Ev.neg h5' b, Ev.neg h5' a⟩
  · have hlen : (l.getD 0 []).length = m := hl 0 (by omega)
    have hm : Long l (l.getD 0 []).length 0 := fun j _ hj => by rw [hlen]; exact hl j hj
    obtain ⟨r, p1, p2, p3, p4, p5⟩ := both_m1 l _ hm h5 (by omega) _ 0 (Nat.zero_add _)
    have hr : r = -1 := by
      rcases p1 with h | ⟨h1, h2⟩
      · exact h
      · obtain ⟨q, rfl⟩ : ∃ q : Nat, r = (q : Int) := ⟨r.toNat, by omega⟩
        exact absurd (p3 q rfl) (hno q (by omega))
    subst hr
    obtain ⟨a, b⟩ := both_m0 l h5 _ rfl (-1) l.length 0 (by omega) (fun _ => ⟨fun h => absurd h hz, fun _ => ⟨p4, p5⟩⟩) (fun h => absurd hm h)
    exact ⟨Ev.neg h5' b, Ev.neg h5' a⟩
/-- What a plan is: good paths that never meet. -/
theorem planV_good {w : Int} {c : List Int} {l : List S49} {t : Int} {Q : List (List Int)} (hn : c.length ≤ 35184372088832) (h : planV w c l t = some Q) :
    ∃ N : Nat, N ≤ 20 ∧ t = (N : Int) ∧ Gt w c l ∧ Goes w c N l Q ∧ (∀ k, k < N + 1 → ¬ Two Q k 0) ∧ (Ev (fun q => impl_FirstMeet.f q Q) (-1) ∧ Ev (fun q => spec_FirstMeet.f q Q) (-1)) ∧
      Ev (fun k => impl_GoodPaths.f k w c l Q) true ∧ Ev (fun k => spec_GoodPaths.f k w c l Q) true := by
  unfold planV at h
  split at h
  case isFalse => cases h
  case isTrue hc =>
    obtain ⟨hg, h0, h1⟩ := hc
    obtain ⟨N, rfl⟩ : ∃ N : Nat, t = (N : Int) := ⟨t.toNat, by omega⟩
    rw [Int.toNat_natCast] at h
    obtain ⟨a, b⟩ := plan_meets hg h
    have hm := no_meet Q (N + 1) (by have := hg.2.1; have := a.1; omega) (by omega) (fun i hi => (a.2 i (by have := a.1; omega)).1) b
    exact ⟨N, by omega, rfl, hg, a, b, hm, goodPaths_true w c l Q N (by omega) hn hg a hm.1 hm.2⟩
end Go.Proofs.Ytcldlljnaijmhaa.Pure
/- FnExactPlanCrowd: the walk and the plain law, joined. -/
namespace Go.Proofs.Ytcldlljnaijmhaa.Pure
open Go.RowKit Go.Proofs.YtcldlljnaijmhaaW.PrintWords Go.Proofs.YtcldlljnaijmhaaW.PrintLast Go.Proofs.Ytcldlljnaijmhaa.Pr Go.Proofs.Ytcldlljnaijmhaa.EvKit
set_option linter.unusedVariables false
theorem ev_get {α : Type} {g : Nat → Option α} {r : α} (h : Ev g r) : ∃ k, g k = some r := by
  obtain ⟨n, h⟩ := h
  exact ⟨n, h n (Nat.le_refl _)⟩
theorem markTripS_l0 (n : Nat) (hn : n ≤ 1048576) (d : Nat) : ∀ (i : Nat) (l : List S49) (a : Int), i + d = n → l.length = n → 0 ≤ a → a + 2 * d ≤ 1000000000000 → ∃ l', Ev (fun k => laws_markTripS.l0 k l a i) (a + 2 * d, l') := by
  induction d with
  | zero =>
    intro i l a hi hl h0 h1
    refine ⟨l, Ev.succ ?_⟩
    simp only [laws_markTripS.l0]
    exact Ev.neg (by omega) (Ev.some (by simp))
  | succ d ih =>
    intro i l a hi hl h0 h1
    obtain ⟨l', h⟩ := ih (i + 1) ((l.set i (⟨a, (rd_T49 l i).f1⟩ : S49)).set i (⟨(rd_T49 (l.set i (⟨a, (rd_T49 l i).f1⟩ : S49)) i).f0, a + 1⟩ : S49)) (a + 2) (by omega) (by simpa using hl) (by omega) (by omega)
    refine ⟨l', Ev.succ ?_⟩
    simp only [laws_markTripS.l0]
    refine Ev.pos (by omega) (Ev.pos (by omega) (Ev.bnd0 rfl ?_))
    rw [wrap64_id (x := a + 1) (by omega) (by omega), wrap64_id (x := a + 1 + 1) (by omega) (by omega), succ_w (show i < 35184372088833 by omega), Int.toNat_natCast, show a + 1 + 1 = a + 2 by omega]
    refine Ev.eq h ?_
    rw [show a + 2 + 2 * (d : Int) = a + 2 * ((d + 1 : Nat) : Int) by omega]
theorem markTripS_ev (l : List S49) (a : Int) (hn : l.length ≤ 1048576) (h0 : 0 ≤ a) (h1 : a ≤ 100000000000) : ∃ l', Ev (fun k => laws_markTripS.f k l a) (a + 2 * l.length, l') := by
  obtain ⟨l', h⟩ := markTripS_l0 l.length hn l.length 0 l a (by omega) rfl h0 (by omega)
  exact ⟨l', by simp only [laws_markTripS.f]; exact h⟩
theorem planV_small {w : Int} {c : List Int} {l : List S49} {t : Int} (hn : c.length ≤ 35184372088832) : (tell (planV w c l t)).1.length ≤ 5 ∧ ∀ x ∈ (tell (planV w c l t)).1, x.length ≤ 21 := by
  cases h : planV w c l t with
  | none => exact ⟨by simp [tell], fun x hx => by simp [tell] at hx⟩
  | some Q =>
    obtain ⟨N, h1, h2, h3, h4, _⟩ := planV_good hn h
    have h5 : l.length ≤ 5 := h3.2.1
    refine ⟨by simp only [tell]; rw [h4.1]; exact h5, fun x hx => ?_⟩
    simp only [tell] at hx
    obtain ⟨i, hi⟩ := List.getElem?_of_mem hx
    have hlt := (List.getElem?_eq_some_iff.1 hi).1
    have := (h4.2 i (by rw [← h4.1]; exact hlt)).1
    rw [List.getD_eq_getElem?_getD, hi] at this
    simp only [Option.getD_some] at this
    omega
set_option maxHeartbeats 2000000 in
theorem plan_law (a0 : Int) (A0 : Option Addr) (c0 : Nat) (l0 : List Int) (A1 : Option Addr) (c1 : Nat) (l1 : List S47) (a2 : Int) (w : World) (hr0 : Kd.C (Kd.int .i64) w A0 l0.length l0) (hc0 : l0.length ≤ c0) (hr1 : Kd.C k47 w A1 l1.length l1) (hc1 : l1.length ≤ c1)
    (hl : l0.length ≤ 9223372036854775807) (hm : l1.length ≤ 9223372036854775807) :
    Calls Try.prog 9 #[.agg #[.int .i64 a0, .slice A0 l0.length c0], .slice A1 l1.length c1, .int .i64 a2] w fun e w' => e = .returned (.bool true) ∧ Below w.heap.size w w' := by
  obtain ⟨z, hz, hb⟩ := szCells_eq a0 l0 1048576 hl (by omega) (by omega)
  by_cases h0 : z < 0
  · exact law_pcr_c a0 A0 c0 l0 A1 c1 l1 a2 w hr0 hc0 hr1 hc1 z hz h0
  obtain ⟨h3, h4⟩ := hb h0
  obtain ⟨y, hy, hb2⟩ := szTripS_eq l1 z hm (by omega) (by omega)
  by_cases h0' : y < 0
  · exact law_pcr_t a0 A0 c0 l0 A1 c1 l1 a2 w hr0 hc0 hr1 hc1 z y hz h0 hy h0'
  obtain ⟨h5, h6⟩ := hb2 h0'
  obtain ⟨k0, e0⟩ := ev_get (toCells_ev a0 l0 (by omega))
  obtain ⟨k1, e1⟩ := ev_get (toTripS_ev l1 (by omega))
  obtain ⟨i1, i2⟩ := crowd_both a0 l0 (l1.map cpT) a2 (by omega)
  obtain ⟨t1, t2⟩ := planV_small (w := a0) (c := l0) (l := l1.map cpT) (t := a2) (by omega)
  generalize tell (planV a0 l0 (l1.map cpT) a2) = T at i1 i2 t1 t2
  obtain ⟨t, b⟩ := T
  simp only at t1 t2
  obtain ⟨k2, e2⟩ := ev_get i2
  obtain ⟨k3, e3⟩ := ev_get i1
  obtain ⟨k4, e4⟩ := ev_get (eqIntSS_ev t (by omega) (fun x hx => by have := t2 x hx; omega))
  obtain ⟨k5, e5⟩ := ev_get (eqCells_ev a0 l0 (by omega))
  obtain ⟨k6, e6⟩ := ev_get (eqTripS_ev (l1.map cpT) (by rw [List.length_map]; omega))
  have m7 : Ev (fun k => laws_markCells.f k a0 l0 1) (1 + l0.length, seqI 1 l0.length) := by
    simp only [laws_markCells.f]
    exact Ev.bnd (markIntS_ev l0 1 (by omega) (by omega)) (Ev.some rfl)
  obtain ⟨k7, e7⟩ := ev_get m7
  obtain ⟨trm, m8⟩ := markTripS_ev (l1.map cpT) (1 + l0.length) (by rw [List.length_map]; omega) (by omega) (by omega)
  obtain ⟨k8, e8⟩ := ev_get m8
  have ht := tot_le t 21 t2
  obtain ⟨k9, e9⟩ := ev_get (markIntSS_ev t 1 (by omega) (by omega) (by omega))
  obtain ⟨ka, ea⟩ := ev_get (heldIntSS_ev t 1 (by omega) (by omega) (by omega))
  exact law_pcr a0 A0 c0 l0 A1 c1 l1 a2 w hr0 hc0 hr1 hc1 l0 (l1.map cpT) t _ b z y _ _ _ _ trm k0 k1 k2 k3 k4 k5 k6 k7 k8 k9 ka hz h0 hy h0' e0 e1 e2 e3 e4 e5 e6 e7 e8 (by omega) e9 ea (by omega)
end Go.Proofs.Ytcldlljnaijmhaa.Pure
