-- Joined and pruned by wip/tools/prune.py out of this session's own texts (PurePlay, Pbs)
import Derived.Test.YtdihodboopeakaaDoorZpb8
/-
Own text: a play on a board: the program's and the reference's are the same.
-/
namespace Go.Proofs.YtdihodboopeakaaDoor.Pure
open Go.RowKit Go.Proofs.YtdihodboopeakaaDoorW.PrintWords Go.Proofs.YtdihodboopeakaaDoorW.PrintLast Go.Proofs.YtdihodboopeakaaDoor.Pr Go.Proofs.YtdihodboopeakaaDoor.EvKit
open Classical
set_option linter.unusedVariables false
noncomputable def play (mine : List Bool) (next : List (List Int)) (plan : List Int) : List Int → Nat → List Int → List Int × Bool
  | [], _, out => (out, true)
  | t :: ts, p, out =>
    if ((nx next p).length : Int) = 0 then (out, true)
    else if mn_ mine p = true then (if rd plan (p : Int) = -1 then (out, true) else if rd plan (p : Int) ∈ nx next p then play mine next plan ts (rd plan (p : Int)).toNat (out ++ [rd plan (p : Int)]) else ([], false))
    else play mine next plan ts (rd (nx next p) (Int.tmod t ((nx next p).length : Int))).toNat (out ++ [rd (nx next p) (Int.tmod t ((nx next p).length : Int))])
section
variable (names : List ByteArray) (mine : List Bool) (next : List (List Int)) (plan theirs : List Int)
variable (hg : Good names mine next) (hp : plan.length = names.length) (ht : theirs.length ≤ 30) (hn : ∀ t ∈ theirs, 0 ≤ t)
include hg hp ht hn
theorem play_impl (d : Nat) : ∀ (i p : Nat) (out : List Int), i + d = theirs.length → p < names.length → out.length ≤ i + 1 →
    Ev (fun k => impl_PlayBoard.l1 k plan out p theirs theirs.length i names mine next) (play mine next plan (theirs.drop i) p out) := by
  have hm := hg.2.1.1
  have hx := hg.2.1.2
  have hnn := hg.1.2
  induction d with
  | zero =>
    intro i p out hi h ho
    apply Ev.succ
    rw [List.drop_of_length_le (by omega)]
    simp only [impl_PlayBoard.l1, show ¬ ((i : Int) < (theirs.length : Int)) by omega, if_false]
    exact Ev.some rfl
  | succ d ih =>
    intro i p out hi h ho
    apply Ev.succ
    rw [drop_get theirs i 0 (by omega)]
    have et : rd theirs (i : Int) = theirs.getD i 0 := rfl
    have em : rdOf false mine (p : Int) = mn_ mine p := rfl
    have e3 : rd_L3 next (p : Int) = nx next p := rfl
    have hnl := nx_len names mine next hg p h
    have htn : 0 ≤ theirs.getD i 0 := hn _ (getD_mem _ i 0 (by omega))
    simp only [impl_PlayBoard.l1, play, show ((i : Int) < (theirs.length : Int)) by omega, show (0 : Int) ≤ (i : Int) by omega, show (0 : Int) ≤ (p : Int) by omega, show ((p : Int) < (next.length : Int)) by omega, show ((p : Int) < (mine.length : Int)) by omega, show ((p : Int) < (plan.length : Int)) by omega, if_true, et, em, e3, show out.length < 17592186044416 by omega, succ_w2 i (by omega)]
    generalize theirs.getD i 0 = t at htn
    by_cases c1 : ((nx next p).length : Int) = 0
    · rw [if_pos c1]; exact Ev.pos c1 (Ev.some rfl)
    · rw [if_neg c1]
      refine Ev.neg c1 ?_
      by_cases c2 : mn_ mine p = true
      · rw [if_pos c2]
        refine Ev.pos c2 ?_
        by_cases c3 : rd plan (p : Int) = -1
        · rw [if_pos c3]; exact Ev.pos c3 (Ev.some rfl)
        · rw [if_neg c3]
          refine Ev.neg c3 (Ev.bnd (containsI_ev _ _ (by omega)) ?_)
          by_cases c4 : rd plan (p : Int) ∈ nx next p
          · rw [if_pos c4]
            obtain ⟨g1, g2⟩ := nx_mem names mine next hg p h _ c4
            refine Ev.pos (decide_eq_true c4) ?_
            have := ih (i + 1) (rd plan (p : Int)).toNat (out ++ [rd plan (p : Int)]) (by omega) (by omega) (by simp; omega)
            rwa [Int.toNat_of_nonneg g1] at this
          · rw [if_neg c4]
            exact Ev.neg (by simp [c4]) (Ev.some rfl)
      · rw [if_neg c2]
        refine Ev.neg c2 ?_
        have q1 : 0 ≤ Int.tmod t ((nx next p).length : Int) := Int.tmod_nonneg _ htn
        have q2 : Int.tmod t ((nx next p).length : Int) < ((nx next p).length : Int) := Int.tmod_lt_of_pos _ (by omega)
        refine Ev.pos q1 (Ev.pos q2 ?_)
        have hmem : rd (nx next p) (Int.tmod t ((nx next p).length : Int)) ∈ nx next p := getD_mem _ _ 0 (by omega)
        obtain ⟨g1, g2⟩ := nx_mem names mine next hg p h _ hmem
        have := ih (i + 1) (rd (nx next p) (Int.tmod t ((nx next p).length : Int))).toNat (out ++ [rd (nx next p) (Int.tmod t ((nx next p).length : Int))]) (by omega) (by omega) (by simp; omega)
        rwa [Int.toNat_of_nonneg g1] at this
omit hg hp ht hn in
theorem in_row (i : Nat) (out : List Int) (q : Int) (row : List Int) (hrow : row.length ≤ 1048576) (r : List Int × Bool) (d : Nat) : ∀ (j : Nat) (x : Bool), j + d = row.length → out.length < 17592186044416 → i ≤ 100 →
    ((x = true ∨ q ∈ row.drop j) → Ev (fun k => spec_PlayBoard.l1 k plan (out ++ [q]) q theirs theirs.length ((i + 1 : Nat) : Int) names mine next) r) → (¬ (x = true ∨ q ∈ row.drop j) → r = ([], false)) →
    Ev (fun k => spec_PlayBoard.l2 k plan out q x theirs theirs.length i row row.length j names mine next) r := by
  induction d with
  | zero =>
    intro j x hj ho hi h1 h2
    apply Ev.succ
    rw [List.drop_of_length_le (by omega)] at h1 h2
    simp only [spec_PlayBoard.l2, show ¬ ((j : Int) < (row.length : Int)) by omega, if_false, ho, if_true, succ_w2 i (by omega)]
    by_cases c : x = true
    · exact Ev.pos c (h1 (Or.inl c))
    · exact Ev.neg c (Ev.some (h2 (by simp [c])).symm)
  | succ d ih =>
    intro j x hj ho hi h1 h2
    apply Ev.succ
    have hm := mem_drop_step row j 0 q (by omega)
    have e : rd row (j : Int) = row.getD j 0 := rfl
    simp only [spec_PlayBoard.l2, show ((j : Int) < (row.length : Int)) by omega, show (0 : Int) ≤ (j : Int) by omega, if_true, e, succ_w2 j (by omega)]
    by_cases c : x = true
    · subst c
      exact Ev.pos rfl (ih (j + 1) true (by omega) ho hi (fun _ => h1 (Or.inl rfl)) (fun h => absurd (Or.inl rfl) h))
    · refine Ev.neg c (ih (j + 1) _ (by omega) ho hi (fun h => h1 ?_) (fun h => h2 ?_))
      · rcases h with h | h
        · exact Or.inr (hm.2 (Or.inl (beq_iff_eq.1 h).symm))
        · exact Or.inr (hm.2 (Or.inr h))
      · rintro (h' | h')
        · exact c h'
        · rcases hm.1 h' with h'' | h''
          · exact h (Or.inl (beq_iff_eq.2 h''.symm))
          · exact h (Or.inr h'')
theorem play_spec (d : Nat) : ∀ (i p : Nat) (out : List Int), i + d = theirs.length → p < names.length → out.length ≤ i + 1 →
    Ev (fun k => spec_PlayBoard.l1 k plan out p theirs theirs.length i names mine next) (play mine next plan (theirs.drop i) p out) := by
  have hm := hg.2.1.1
  have hx := hg.2.1.2
  have hnn := hg.1.2
  induction d with
  | zero =>
    intro i p out hi h ho
    apply Ev.succ
    rw [List.drop_of_length_le (by omega)]
    simp only [spec_PlayBoard.l1, show ¬ ((i : Int) < (theirs.length : Int)) by omega, if_false]
    exact Ev.some rfl
  | succ d ih =>
    intro i p out hi h ho
    apply Ev.succ
    rw [drop_get theirs i 0 (by omega)]
    have et : rd theirs (i : Int) = theirs.getD i 0 := rfl
    have em : rdOf false mine (p : Int) = mn_ mine p := rfl
    have e3 : rd_L3 next (p : Int) = nx next p := rfl
    have hnl := nx_len names mine next hg p h
    have htn : 0 ≤ theirs.getD i 0 := hn _ (getD_mem _ i 0 (by omega))
    simp only [spec_PlayBoard.l1, play, show ((i : Int) < (theirs.length : Int)) by omega, show (0 : Int) ≤ (i : Int) by omega, show (0 : Int) ≤ (p : Int) by omega, show ((p : Int) < (next.length : Int)) by omega, show ((p : Int) < (mine.length : Int)) by omega, show ((p : Int) < (plan.length : Int)) by omega, if_true, et, em, e3, show out.length < 17592186044416 by omega, succ_w2 i (by omega)]
    generalize theirs.getD i 0 = t at htn
    by_cases c1 : ((nx next p).length : Int) = 0
    · rw [if_pos c1]; exact Ev.pos c1 (Ev.some rfl)
    · rw [if_neg c1]
      have q1 : 0 ≤ Int.tmod t ((nx next p).length : Int) := Int.tmod_nonneg _ htn
      have q2 : Int.tmod t ((nx next p).length : Int) < ((nx next p).length : Int) := Int.tmod_lt_of_pos _ (by omega)
      refine Ev.neg c1 (Ev.pos q1 (Ev.pos q2 ?_))
      by_cases c2 : mn_ mine p = true
      · rw [if_pos c2]
        refine Ev.pos c2 ?_
        by_cases c3 : rd plan (p : Int) = -1
        · rw [if_pos c3]; exact Ev.pos c3 (Ev.some rfl)
        · rw [if_neg c3]
          refine Ev.neg c3 ?_
          refine in_row names mine next plan theirs i out _ (nx next p) (by omega) _ (nx next p).length 0 false (by omega) (by omega) (by omega) ?_ ?_
          · intro hq
            rw [List.drop_zero] at hq
            have c4 : rd plan (p : Int) ∈ nx next p := hq.resolve_left (by simp)
            rw [if_pos c4]
            obtain ⟨g1, g2⟩ := nx_mem names mine next hg p h _ c4
            have := ih (i + 1) (rd plan (p : Int)).toNat (out ++ [rd plan (p : Int)]) (by omega) (by omega) (by simp; omega)
            rwa [Int.toNat_of_nonneg g1] at this
          · intro hq
            rw [List.drop_zero] at hq
            exact if_neg (fun c4 => hq (Or.inr c4))
      · rw [if_neg c2]
        refine Ev.neg c2 ?_
        have hmem : rd (nx next p) (Int.tmod t ((nx next p).length : Int)) ∈ nx next p := getD_mem _ _ 0 (by omega)
        obtain ⟨g1, g2⟩ := nx_mem names mine next hg p h _ hmem
        have := ih (i + 1) (rd (nx next p) (Int.tmod t ((nx next p).length : Int))).toNat (out ++ [rd (nx next p) (Int.tmod t ((nx next p).length : Int))]) (by omega) (by omega) (by simp; omega)
        rwa [Int.toNat_of_nonneg g1] at this
end
section
variable (names : List ByteArray) (mine : List Bool) (next : List (List Int)) (plan : List Int) (fro : Int) (theirs : List Int)
abbrev PlayOk : Prop := Good names mine next ∧ plan.length = names.length ∧ (0 ≤ fro ∧ fro < names.length) ∧ theirs.length ≤ 30
noncomputable def playAll : List Int × Bool := if PlayOk names mine next plan fro theirs ∧ ∀ t ∈ theirs, 0 ≤ t then play mine next plan theirs fro.toNat [fro] else ([], false)
theorem neg_impl (r : List Int × Bool) (ht : theirs.length ≤ 30) (d : Nat) : ∀ i : Nat, i + d = theirs.length → ((∀ t ∈ theirs.drop i, 0 ≤ t) → Ev (fun k => impl_PlayBoard.l1 k plan [fro] fro theirs theirs.length 0 names mine next) r) → (¬ (∀ t ∈ theirs.drop i, 0 ≤ t) → r = ([], false)) →
    Ev (fun k => impl_PlayBoard.l0 k plan fro theirs theirs theirs.length i names mine next) r := by
  induction d with
  | zero =>
    intro i hi h1 h2
    apply Ev.succ
    simp only [impl_PlayBoard.l0, show ¬ ((i : Int) < (theirs.length : Int)) by omega, if_false]
    exact h1 (by rw [List.drop_of_length_le (by omega)]; intro t ht; cases ht)
  | succ d ih =>
    intro i hi h1 h2
    apply Ev.succ
    have et : rd theirs (i : Int) = theirs.getD i 0 := rfl
    rw [drop_get theirs i 0 (by omega)] at h1 h2
    simp only [impl_PlayBoard.l0, show ((i : Int) < (theirs.length : Int)) by omega, show (0 : Int) ≤ (i : Int) by omega, if_true, et, succ_w2 i (by omega)]
    by_cases c : theirs.getD i 0 < 0
    · exact Ev.pos c (Ev.some (h2 (fun h => by have := h _ (List.mem_cons_self ..); omega)).symm)
    · refine Ev.neg c (ih (i + 1) (by omega) (fun h => h1 ?_) (fun h => h2 (fun g => h (fun t ht => g t (List.mem_cons_of_mem _ ht)))))
      intro t ht
      rcases List.mem_cons.1 ht with rfl | h'
      · omega
      · exact h t h'
theorem neg_spec (r : List Int × Bool) (ht : theirs.length ≤ 30) (d : Nat) : ∀ i : Nat, i + d = theirs.length → ((∀ t ∈ theirs.drop i, 0 ≤ t) → Ev (fun k => spec_PlayBoard.l1 k plan [fro] fro theirs theirs.length 0 names mine next) r) → (¬ (∀ t ∈ theirs.drop i, 0 ≤ t) → r = ([], false)) →
    Ev (fun k => spec_PlayBoard.l0 k plan fro theirs theirs theirs.length i names mine next) r := by
  induction d with
  | zero =>
    intro i hi h1 h2
    apply Ev.succ
    simp only [spec_PlayBoard.l0, show ¬ ((i : Int) < (theirs.length : Int)) by omega, if_false]
    exact h1 (by rw [List.drop_of_length_le (by omega)]; intro t ht; cases ht)
  | succ d ih =>
    intro i hi h1 h2
    apply Ev.succ
    have et : rd theirs (i : Int) = theirs.getD i 0 := rfl
    rw [drop_get theirs i 0 (by omega)] at h1 h2
    simp only [spec_PlayBoard.l0, show ((i : Int) < (theirs.length : Int)) by omega, show (0 : Int) ≤ (i : Int) by omega, if_true, et, succ_w2 i (by omega)]
    by_cases c : theirs.getD i 0 < 0
    · exact Ev.pos c (Ev.some (h2 (fun h => by have := h _ (List.mem_cons_self ..); omega)).symm)
    · refine Ev.neg c (ih (i + 1) (by omega) (fun h => h1 ?_) (fun h => h2 (fun g => h (fun t ht => g t (List.mem_cons_of_mem _ ht)))))
      intro t ht
      rcases List.mem_cons.1 ht with rfl | h'
      · omega
      · exact h t h'
theorem play_both (hb : Small names mine next) : Ev (fun k => impl_PlayBoard.f k names mine next plan fro theirs) (playAll names mine next plan fro theirs) ∧ Ev (fun k => spec_PlayBoard.f k names mine next plan fro theirs) (playAll names mine next plan fro theirs) := by
  obtain ⟨a1, a2⟩ := goodBoard_both names mine next hb.n2 hb.x2
  have no1 (x : Bool) (hx : x = true) (h : ¬ PlayOk names mine next plan fro theirs) : Ev (fun k => impl_PlayBoard.j0 k plan fro theirs x names mine next) (playAll names mine next plan fro theirs) := by
    subst hx
    apply Ev.succ
    simp only [impl_PlayBoard.j0, if_true]
    exact Ev.some (if_neg (fun g => h g.1)).symm
  have no2 (x : Bool) (hx : x = true) (h : ¬ PlayOk names mine next plan fro theirs) : Ev (fun k => spec_PlayBoard.j0 k plan fro theirs x names mine next) (playAll names mine next plan fro theirs) := by
    subst hx
    apply Ev.succ
    simp only [spec_PlayBoard.j0, if_true]
    exact Ev.some (if_neg (fun g => h g.1)).symm
  unfold impl_PlayBoard.f spec_PlayBoard.f
  by_cases c1 : Good names mine next
  · have hn := c1.1
    have hw : wrap64 ((names.length : Int) - 1) = (names.length : Int) - 1 := wrap64_id (by omega) (by omega)
    by_cases c2 : (plan.length : Int) = (names.length : Int)
    · by_cases c3 : 0 ≤ fro ∧ fro < (names.length : Int)
      · by_cases c4 : (theirs.length : Int) > 30
        · refine ⟨Ev.bnd a2 (Ev.pos (decide_eq_true c1) (Ev.pos c2 ?_)), Ev.bnd a1 (Ev.pos (decide_eq_true c1) (Ev.pos c2 (Ev.neg (by omega) (Ev.neg (by omega) (no2 _ (decide_eq_true c4) (fun h => by have := h.2.2.2; omega))))))⟩
          simp only [impl_between.f, hw, show fro ≥ 0 from c3.1, if_true, Option.bind_some, decide_eq_true (show fro ≤ (names.length : Int) - 1 by omega)]
          exact no1 _ (decide_eq_true c4) (fun h => by have := h.2.2.2; omega)
        · have ok : PlayOk names mine next plan fro theirs := ⟨c1, by omega, c3, by omega⟩
          have ht : theirs.length ≤ 30 := by omega
          refine ⟨Ev.bnd a2 (Ev.pos (decide_eq_true c1) (Ev.pos c2 ?_)), Ev.bnd a1 (Ev.pos (decide_eq_true c1) (Ev.pos c2 (Ev.neg (by omega) (Ev.neg (by omega) ?_))))⟩
          · simp only [impl_between.f, hw, show fro ≥ 0 from c3.1, if_true, Option.bind_some, decide_eq_true (show fro ≤ (names.length : Int) - 1 by omega), decide_eq_false c4]
            apply Ev.succ
            simp only [impl_PlayBoard.j0, Bool.false_eq_true, if_false]
            refine neg_impl names mine next plan fro theirs _ ht theirs.length 0 (by omega) (fun h => ?_) (fun h => if_neg (fun g => h (by rw [List.drop_zero]; exact g.2)))
            rw [List.drop_zero] at h
            have := play_impl names mine next plan theirs c1 (by omega) ht h theirs.length 0 fro.toNat [fro] (by omega) (by omega) (by simp)
            rw [List.drop_zero, Int.toNat_of_nonneg c3.1] at this
            rw [show playAll names mine next plan fro theirs = play mine next plan theirs fro.toNat [fro] from if_pos ⟨ok, h⟩]
            exact this
          · rw [decide_eq_false c4]
            apply Ev.succ
            simp only [spec_PlayBoard.j0, Bool.false_eq_true, if_false]
            refine neg_spec names mine next plan fro theirs _ ht theirs.length 0 (by omega) (fun h => ?_) (fun h => if_neg (fun g => h (by rw [List.drop_zero]; exact g.2)))
            rw [List.drop_zero] at h
            have := play_spec names mine next plan theirs c1 (by omega) ht h theirs.length 0 fro.toNat [fro] (by omega) (by omega) (by simp)
            rw [List.drop_zero, Int.toNat_of_nonneg c3.1] at this
            rw [show playAll names mine next plan fro theirs = play mine next plan theirs fro.toNat [fro] from if_pos ⟨ok, h⟩]
            exact this
      · refine ⟨Ev.bnd a2 (Ev.pos (decide_eq_true c1) (Ev.pos c2 ?_)), Ev.bnd a1 (Ev.pos (decide_eq_true c1) (Ev.pos c2 ?_))⟩
        · by_cases c5 : fro ≥ 0
          · simp only [impl_between.f, hw, c5, if_true, Option.bind_some, decide_eq_false (show ¬ fro ≤ (names.length : Int) - 1 by omega)]
            exact Ev.neg (by simp) (no1 _ rfl (fun h => c3 h.2.2.1))
          · simp only [impl_between.f, hw, c5, if_false, Option.bind_some]
            exact Ev.neg (by simp) (no1 _ rfl (fun h => c3 h.2.2.1))
        · by_cases c5 : fro < 0
          · exact Ev.pos c5 (no2 _ rfl (fun h => c3 h.2.2.1))
          · exact Ev.neg c5 (Ev.pos (by omega) (no2 _ rfl (fun h => c3 h.2.2.1)))
    · exact ⟨Ev.bnd a2 (Ev.pos (decide_eq_true c1) (Ev.neg c2 (no1 _ rfl (fun h => c2 (by have := h.2.1; omega))))), Ev.bnd a1 (Ev.pos (decide_eq_true c1) (Ev.neg c2 (no2 _ rfl (fun h => c2 (by have := h.2.1; omega)))))⟩
  · exact ⟨Ev.bnd a2 (Ev.neg (by simpa using c1) (no1 _ rfl (fun h => c1 h.1))), Ev.bnd a1 (Ev.neg (by simpa using c1) (no2 _ rfl (fun h => c1 h.1)))⟩
theorem play_len (mine : List Bool) (next : List (List Int)) (plan : List Int) (ts : List Int) : ∀ (p : Nat) (out : List Int), (play mine next plan ts p out).1.length ≤ out.length + ts.length := by
  induction ts with
  | nil => intro p out; simp [play]
  | cons t ts ih =>
    intro p out
    unfold play
    split
    · simp
    · split
      · split
        · simp
        · split
          · refine Nat.le_trans (ih _ _) ?_
            simp; omega
          · simp
      · refine Nat.le_trans (ih _ _) ?_
        simp; omega
theorem playAll_len : (playAll names mine next plan fro theirs).1.length ≤ 1 + theirs.length := by
  unfold playAll
  split
  · exact play_len mine next plan theirs _ _
  · simp
end
end Go.Proofs.YtdihodboopeakaaDoor.Pure
/-
Own text: THE LAW FnExactPlayBoard, joined: for every board, plan, place and replies the law's call says true and changes nothing.
-/
namespace Go.Proofs.YtdihodboopeakaaDoor.Pure
open Go.RowKit Go.Proofs.YtdihodboopeakaaDoorW.PrintWords Go.Proofs.YtdihodboopeakaaDoorW.PrintLast Go.Proofs.YtdihodboopeakaaDoor.Pr Go.Proofs.YtdihodboopeakaaDoor.EvKit
set_option linter.unusedVariables false
theorem playBoard_law (A0 : Option Addr) (c0 : Nat) (l0 : List ByteArray) (A1 : Option Addr) (c1 : Nat) (l1 : List Bool) (A2 : Option Addr) (c2 : Nat) (l2 : List (List Int)) (A5 : Option Addr) (c5 : Nat) (l5 : List Int) (a6 : Int) (A7 : Option Addr) (c7 : Nat) (l7 : List Int) (w : World)
    (hr0 : Kd.C Kd.string w A0 l0.length l0) (hc0 : l0.length ≤ c0) (hr1 : Kd.C Kd.bool w A1 l1.length l1) (hc1 : l1.length ≤ c1) (hr2 : Kd.C (Kd.slice 3 (Kd.int .i64)) w A2 l2.length l2) (hc2 : l2.length ≤ c2) (hr5 : Kd.C (Kd.int .i64) w A5 l5.length l5) (hc5 : l5.length ≤ c5) (hr7 : Kd.C (Kd.int .i64) w A7 l7.length l7) (hc7 : l7.length ≤ c7)
    (Q0 : ((l0.length ≤ maxLen ∧ l0.length * 16 ≤ 140737488351232 ∧ ∀ y0 ∈ l0, y0.size ≤ 140737488351232) ∧ (l1.length ≤ maxLen ∧ l1.length * 1 ≤ 140737488351232 ∧ ∀ y0 ∈ l1, True) ∧ (l2.length ≤ maxLen ∧ l2.length * 24 ≤ 140737488351232 ∧ ∀ y0 ∈ l2, (y0.length ≤ maxLen ∧ y0.length * 8 ≤ 140737488351232 ∧ ∀ y1 ∈ y0, (Lit.int .i64 y1).wf = true))))
    (Q1 : (l5.length ≤ maxLen ∧ l5.length * 8 ≤ 140737488351232 ∧ ∀ y0 ∈ l5, (Lit.int .i64 y0).wf = true)) (Q2 : (Lit.int .i64 a6).wf = true) (Q3 : (l7.length ≤ maxLen ∧ l7.length * 8 ≤ 140737488351232 ∧ ∀ y0 ∈ l7, (Lit.int .i64 y0).wf = true)) (ht : Tabs w) :
    Calls Tryd.prog 9 #[.agg #[.slice A0 l0.length c0, .slice A1 l1.length c1, .slice A2 l2.length c2], .slice A5 l5.length c5, .int .i64 a6, .slice A7 l7.length c7] w fun e w' => e = .returned (.bool true) ∧ Below w.heap.size w w' := by
  obtain ⟨⟨_, n2, n3⟩, ⟨_, m2, _⟩, ⟨_, x2, x3⟩⟩ := Q0
  by_cases s5 : (l5.length : Int) > 1048576
  · exact law_PlayBoard_l5 A0 c0 l0 A1 c1 l1 A2 c2 l2 A5 c5 l5 A7 c7 l7 a6 w hr0 hc0 hr1 hc1 hr2 hc2 hr5 hc5 hr7 hc7 s5
  by_cases s7 : (l7.length : Int) > 1048576
  · exact law_PlayBoard_l7 A0 c0 l0 A1 c1 l1 A2 c2 l2 A5 c5 l5 A7 c7 l7 a6 w hr0 hc0 hr1 hc1 hr2 hc2 hr5 hc5 hr7 hc7 s5 s7
  obtain ⟨z0, e, f⟩ := szBoard_ev l0 l1 l2 1048576 (by decide) (by decide) (by omega) n3 (by omega) (by omega) (fun x hx => by have := (x3 x hx).2.1; omega)
  obtain ⟨kz, hz⟩ := Ev.rounds e
  by_cases c : z0 < 0
  · exact law_PlayBoard_z0 A0 c0 l0 A1 c1 l1 A2 c2 l2 A5 c5 l5 A7 c7 l7 a6 w hr0 hc0 hr1 hc1 hr2 hc2 hr5 hc5 hr7 hc7 s5 s7 kz z0 hz c
  obtain ⟨h0, hb⟩ := f c
  obtain ⟨i1, i2⟩ := play_both l0 l1 l2 l5 a6 l7 hb
  have hyl := playAll_len l0 l1 l2 l5 a6 l7
  generalize playAll l0 l1 l2 l5 a6 l7 = p at i1 i2 hyl
  obtain ⟨y, b⟩ := p
  simp only at hyl
  obtain ⟨t0, t1, t2, m0, m1, m2', ea, eb, ec, g0, g1⟩ := markBoard_parts hb
  have ed := markIntS_ev l5 m2' g0 (by omega)
  have ed2 := markIntS_ev l7 (m2' + l5.length) (by omega) (by omega)
  have ee := markIntS_ev y 1 (by omega) (by omega)
  have ef := heldIntS_ev y.length 1 (by omega) (by omega)
  obtain ⟨k0, h0'⟩ := Ev.rounds (toBoard_ev hb)
  obtain ⟨kx, hx'⟩ := Ev.rounds (toIntS_ev l5 (by omega))
  obtain ⟨ky, hy'⟩ := Ev.rounds (toIntS_ev l7 (by omega))
  obtain ⟨k2, h2'⟩ := Ev.rounds i2
  obtain ⟨k3, h3'⟩ := Ev.rounds i1
  obtain ⟨k4, h4'⟩ := Ev.rounds (eqIntS_ev y (by omega))
  obtain ⟨k5, h5'⟩ := Ev.rounds (eqBoard_ev hb)
  obtain ⟨k6, h6'⟩ := Ev.rounds (eqIntS_ev l5 (by omega))
  obtain ⟨k6b, h6b'⟩ := Ev.rounds (eqIntS_ev l7 (by omega))
  obtain ⟨ka, ha'⟩ := Ev.rounds ea
  obtain ⟨kb, hb'⟩ := Ev.rounds eb
  obtain ⟨kc, hc'⟩ := Ev.rounds ec
  obtain ⟨kd, hd'⟩ := Ev.rounds ed
  obtain ⟨kd2, hd2'⟩ := Ev.rounds ed2
  obtain ⟨ke, he'⟩ := Ev.rounds ee
  obtain ⟨kf, hf'⟩ := Ev.rounds ef
  exact law_PlayBoard A0 c0 l0 A1 c1 l1 A2 c2 l2 A5 c5 l5 A7 c7 l7 a6 w hr0 hc0 hr1 hc1 hr2 hc2 hr5 hc5 hr7 hc7 s5 s7 ht y b t0 t1 t2 _ _ (seqI 1 y.length) z0 m0 m1 m2' _ (1 + y.length) _ kz k0 k2 k3 k4 k5 k6 ka kb kc kd ke kf kx ky k6b kd2 hz h0' hx' hy' h2' h3' h4' h5' h6' h6b' ha' hb' hc' hd' hd2' he' hf' c (by omega) (by omega)
end Go.Proofs.YtdihodboopeakaaDoor.Pure
