/-
Own text: charts, as statements over numbers and lists: the two checks of a chart agree; to enter a state and to step come to the same; what the laws' helpers on charts come to.
-/
import Derived.Test.YtkhkgfihodljmaaPrd1
import Derived.Test.YtkhkgfihodljmaaPureInts
namespace Go.Proofs.Ytkhkgfihodljmaa.Pure
open Go.RowKit Go.Proofs.YtkhkgfihodljmaaW.PrintWords Go.Proofs.YtkhkgfihodljmaaW.PrintLast Go.Proofs.Ytkhkgfihodljmaa.Pr Go.Proofs.Ytkhkgfihodljmaa.EvKit
open Classical

/-! ### the helpers -/
def cpS (x : S101) : S88 := ⟨x.f0, x.f1⟩
def cpA (x : S103) : S90 := ⟨x.f0, x.f1, x.f2⟩

theorem toStateS_l0 (l : List S101) (hl : l.length ≤ 1048576) (d : Nat) : ∀ i : Nat, i + d = l.length →
    Ev (fun k => laws_toStateS.l0 k l ((l.take i).map cpS ++ List.replicate (l.length - i) z88) i) (l.map cpS) := by
  induction d with
  | zero =>
    intro i hi
    apply Ev.succ
    simp only [laws_toStateS.l0, show ¬ ((i : Int) < (l.length : Int)) by omega, if_false]
    have : i = l.length := by omega
    subst this
    exact Ev.some (copy_done _ _ _)
  | succ d ih =>
    intro i hi
    apply Ev.succ
    have hlen : ((l.take i).map cpS ++ List.replicate (l.length - i) z88).length = l.length := by simp; omega
    simp only [laws_toStateS.l0, laws_toState.f, Option.bind_some, hlen, show ((i : Int) < (l.length : Int)) by omega, show (0 : Int) ≤ (i : Int) by omega, if_true, Int.toNat_natCast]
    rw [show wrap64 ((i : Int) + 1) = ((i + 1 : Nat) : Int) by rw [wrap64_id (by omega) (by omega)]; omega]
    have := copy_step cpS z88 z101 l i (by omega)
    have e : (⟨(rd_T101 l (i : Int)).f0, (rd_T101 l (i : Int)).f1⟩ : S88) = cpS (l.getD i z101) := rfl
    rw [e, this]
    exact ih (i + 1) (by omega)
theorem toStateS_ev (l : List S101) (hl : l.length ≤ 1048576) : Ev (fun k => laws_toStateS.f k l) (l.map cpS) := by
  simp only [laws_toStateS.f, Int.toNat_natCast, show (0 : Int) ≤ (l.length : Int) by omega, show l.length ≤ 17592186044416 by omega, if_true]
  have := toStateS_l0 l hl l.length 0 (by omega)
  simpa using this
theorem toArrowS_l0 (l : List S103) (hl : l.length ≤ 1048576) (d : Nat) : ∀ i : Nat, i + d = l.length →
    Ev (fun k => laws_toArrowS.l0 k l ((l.take i).map cpA ++ List.replicate (l.length - i) z90) i) (l.map cpA) := by
  induction d with
  | zero =>
    intro i hi
    apply Ev.succ
    simp only [laws_toArrowS.l0, show ¬ ((i : Int) < (l.length : Int)) by omega, if_false]
    have : i = l.length := by omega
    subst this
    exact Ev.some (copy_done _ _ _)
  | succ d ih =>
    intro i hi
    apply Ev.succ
    have hlen : ((l.take i).map cpA ++ List.replicate (l.length - i) z90).length = l.length := by simp; omega
    simp only [laws_toArrowS.l0, laws_toArrow.f, Option.bind_some, hlen, show ((i : Int) < (l.length : Int)) by omega, show (0 : Int) ≤ (i : Int) by omega, if_true, Int.toNat_natCast]
    rw [show wrap64 ((i : Int) + 1) = ((i + 1 : Nat) : Int) by rw [wrap64_id (by omega) (by omega)]; omega]
    have := copy_step cpA z90 z103 l i (by omega)
    have e : (⟨(rd_T103 l (i : Int)).f0, (rd_T103 l (i : Int)).f1, (rd_T103 l (i : Int)).f2⟩ : S90) = cpA (l.getD i z103) := rfl
    rw [e, this]
    exact ih (i + 1) (by omega)
theorem toArrowS_ev (l : List S103) (hl : l.length ≤ 1048576) : Ev (fun k => laws_toArrowS.f k l) (l.map cpA) := by
  simp only [laws_toArrowS.f, Int.toNat_natCast, show (0 : Int) ≤ (l.length : Int) by omega, show l.length ≤ 11728124029610 by omega, if_true]
  have := toArrowS_l0 l hl l.length 0 (by omega)
  simpa using this
theorem toChart_ev (l : List S101) (m : List S103) (hl : l.length ≤ 1048576) (hm : m.length ≤ 1048576) : Ev (fun k => laws_toChart.f k l m) (l.map cpS, m.map cpA) := by
  simp only [laws_toChart.f]
  exact Ev.bnd (toStateS_ev l hl) (Ev.bnd (toArrowS_ev m hm) (Ev.some rfl))

theorem eqStateS_l0 (l : List S88) (hl : l.length ≤ 1048576) (d : Nat) : ∀ i : Nat, i + d = l.length → Ev (fun k => laws_eqStateS.l0 k l l i) true := by
  induction d with
  | zero =>
    intro i hi
    apply Ev.succ
    simp only [laws_eqStateS.l0, show ¬ ((i : Int) < (l.length : Int)) by omega, if_false]
    exact Ev.some rfl
  | succ d ih =>
    intro i hi
    apply Ev.succ
    simp only [laws_eqStateS.l0, laws_eqState.f, Option.bind_some, show ((i : Int) < (l.length : Int)) by omega, show (0 : Int) ≤ (i : Int) by omega, if_true]
    rw [show wrap64 ((i : Int) + 1) = ((i + 1 : Nat) : Int) by rw [wrap64_id (by omega) (by omega)]; omega]
    exact ih (i + 1) (by omega)
theorem eqArrowS_l0 (l : List S90) (hl : l.length ≤ 1048576) (d : Nat) : ∀ i : Nat, i + d = l.length → Ev (fun k => laws_eqArrowS.l0 k l l i) true := by
  induction d with
  | zero =>
    intro i hi
    apply Ev.succ
    simp only [laws_eqArrowS.l0, show ¬ ((i : Int) < (l.length : Int)) by omega, if_false]
    exact Ev.some rfl
  | succ d ih =>
    intro i hi
    apply Ev.succ
    simp only [laws_eqArrowS.l0, laws_eqArrow.f, Option.bind_some, show ((i : Int) < (l.length : Int)) by omega, show (0 : Int) ≤ (i : Int) by omega, if_true]
    rw [show wrap64 ((i : Int) + 1) = ((i + 1 : Nat) : Int) by rw [wrap64_id (by omega) (by omega)]; omega]
    exact ih (i + 1) (by omega)
theorem eqChart_ev (l : List S88) (m : List S90) (hl : l.length ≤ 1048576) (hm : m.length ≤ 1048576) : Ev (fun k => laws_eqChart.f k l m l m) true := by
  simp only [laws_eqChart.f, laws_eqStateS.f, laws_eqArrowS.f, if_true]
  exact Ev.bnd (eqStateS_l0 l hl l.length 0 (by omega)) (Ev.pos rfl (Ev.bnd (eqArrowS_l0 m hm m.length 0 (by omega)) (Ev.pos rfl (Ev.some rfl))))

theorem szChart_eq (l : List S101) (m : List S103) (hl : l.length ≤ 9223372036854775807) (hm : m.length ≤ 9223372036854775807) :
    ∃ r, laws_szChart.f l m 1048576 = some r ∧ (¬ r < 0 → l.length ≤ 1048576 ∧ m.length ≤ 1048576) := by
  simp only [laws_szChart.f, laws_szStateS.f, laws_szArrowS.f]
  rw [wrap64_id (x := 1048576 - (l.length : Int)) (by omega) (by omega)]
  by_cases h1 : 1048576 - (l.length : Int) < 0
  · exact ⟨-1, by simp [h1], by omega⟩
  · simp only [h1, if_false, Option.bind_some]
    rw [wrap64_id (x := 1048576 - (l.length : Int) - (m.length : Int)) (by omega) (by omega)]
    by_cases h2 : 1048576 - (l.length : Int) - (m.length : Int) < 0
    · exact ⟨-1, by simp [h2], by omega⟩
    · exact ⟨_, by simp only [h2, if_false, Option.bind_some]; rfl, by omega⟩

theorem markStateS_l0 (n : Nat) (a : Int) (ha : 0 ≤ a) (han : a + 2 * n ≤ 9223372036854775000) (d : Nat) : ∀ (i : Nat) (l : List S88), i + d = n → l.length = n →
    ∃ l', Ev (fun k => laws_markStateS.l0 k l (a + 2 * i) i) (a + 2 * n, l') := by
  induction d with
  | zero =>
    intro i l hi hl
    refine ⟨l, Ev.succ ?_⟩
    simp only [laws_markStateS.l0, show ¬ ((i : Int) < (l.length : Int)) by omega, if_false]
    exact Ev.some (by rw [show i = n by omega])
  | succ d ih =>
    intro i l hi hl
    obtain ⟨l', h⟩ := ih (i + 1) ((l.set i ⟨a + 2 * i, (rd_T88 l i).f1⟩).set i ⟨(rd_T88 (l.set i ⟨a + 2 * i, (rd_T88 l i).f1⟩) i).f0, wrap64 (a + 2 * i + 1)⟩) (by omega) (by simpa using hl)
    refine ⟨l', Ev.succ ?_⟩
    simp only [laws_markStateS.l0, show ((i : Int) < (l.length : Int)) by omega, show (0 : Int) ≤ (i : Int) by omega, if_true, Int.toNat_natCast, Option.bind_some]
    rw [show wrap64 ((i : Int) + 1) = ((i + 1 : Nat) : Int) by rw [wrap64_id (by omega) (by omega)]; omega,
      show wrap64 (wrap64 (a + 2 * (i : Int) + 1) + 1) = a + 2 * ((i + 1 : Nat) : Int) by rw [wrap64_id (x := a + 2 * (i : Int) + 1) (by omega) (by omega), wrap64_id (by omega) (by omega)]; omega]
    exact h
theorem markArrowS_l0 (n : Nat) (a : Int) (ha : 0 ≤ a) (han : a + 3 * n ≤ 9223372036854775000) (d : Nat) : ∀ (i : Nat) (l : List S90), i + d = n → l.length = n →
    ∃ l', Ev (fun k => laws_markArrowS.l0 k l (a + 3 * i) i) (a + 3 * n, l') := by
  induction d with
  | zero =>
    intro i l hi hl
    refine ⟨l, Ev.succ ?_⟩
    simp only [laws_markArrowS.l0, show ¬ ((i : Int) < (l.length : Int)) by omega, if_false]
    exact Ev.some (by rw [show i = n by omega])
  | succ d ih =>
    intro i l hi hl
    have e1 : wrap64 (a + 3 * (i : Int) + 1) = a + 3 * (i : Int) + 1 := wrap64_id (by omega) (by omega)
    have e2 : wrap64 (a + 3 * (i : Int) + 1 + 1) = a + 3 * (i : Int) + 1 + 1 := wrap64_id (by omega) (by omega)
    have e3 : wrap64 (a + 3 * (i : Int) + 1 + 1 + 1) = a + 3 * ((i + 1 : Nat) : Int) := by rw [wrap64_id (by omega) (by omega)]; omega
    have e4 : wrap64 ((i : Int) + 1) = ((i + 1 : Nat) : Int) := by rw [wrap64_id (by omega) (by omega)]; omega
    have key : ∀ l2 : List S90, l2.length = n → ∃ l', Ev (fun k => laws_markArrowS.l0 k l2 (a + 3 * ((i + 1 : Nat) : Int)) ((i + 1 : Nat) : Int)) (a + 3 * n, l') := fun l2 h2 => ih (i + 1) l2 (by omega) h2
    suffices hs : ∃ l', Ev (fun k => laws_markArrowS.l0 (k + 1) l (a + 3 * i) i) (a + 3 * n, l') by
      obtain ⟨l', h⟩ := hs
      exact ⟨l', Ev.succ h⟩
    simp only [laws_markArrowS.l0, show ((i : Int) < (l.length : Int)) by omega, show (0 : Int) ≤ (i : Int) by omega, if_true, Int.toNat_natCast, Option.bind_some, e1, e2, e3, e4]
    exact key _ (by simpa using hl)
theorem markChart_ev (l : List S88) (m : List S90) (hl : l.length ≤ 1048576) (hm : m.length ≤ 1048576) : ∃ l' m', Ev (fun k => laws_markChart.f k l m 1) (1 + 2 * l.length + 3 * m.length, l', m') := by
  obtain ⟨l', h1⟩ := markStateS_l0 l.length 1 (by omega) (by omega) l.length 0 l (by omega) rfl
  obtain ⟨m', h2⟩ := markArrowS_l0 m.length (1 + 2 * l.length) (by omega) (by omega) m.length 0 m (by omega) rfl
  refine ⟨l', m', ?_⟩
  simp only [laws_markChart.f, laws_markStateS.f, laws_markArrowS.f]
  exact Ev.bnd (a := (1 + 2 * (l.length : Int), l')) (by simpa using h1) (Ev.bnd (a := (1 + 2 * (l.length : Int) + 3 * (m.length : Int), m')) (by simpa using h2) (Ev.some rfl))

end Go.Proofs.Ytkhkgfihodljmaa.Pure
