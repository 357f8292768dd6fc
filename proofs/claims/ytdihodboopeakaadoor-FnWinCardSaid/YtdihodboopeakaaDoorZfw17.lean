-- Joined and pruned by wip/tools/prune.py out of this session's own texts (PurePlan, PurePlay, PureWinm, PureCur, PureDrw, PureFnWin)
import Derived.Test.YtdihodboopeakaaDoorZfw16
import Derived.Laws.BitsLemmas
/-
Own text: winning places,plans and plays: the program's and the reference's are the same.
-/
namespace Go.Proofs.YtdihodboopeakaaDoor.Pure
open Go.RowKit Go.Proofs.YtdihodboopeakaaDoorW.PrintWords Go.Proofs.YtdihodboopeakaaDoorW.PrintLast Go.Proofs.YtdihodboopeakaaDoor.Pr Go.Proofs.YtdihodboopeakaaDoor.EvKit
open Classical
set_option linter.unusedVariables false

/-! Winning places -/
noncomputable def placesTo (r : List Int) (i : Nat) : List Int:=((List.range i).filter fun j : Nat => decide (rd r (j : Int) ≥ 0)).map fun (j : Nat) => (j : Int)
theorem placesTo_succ (r : List Int) (i : Nat) : placesTo r (i + 1) = if rd r (i : Int) ≥ 0 then placesTo r i ++ [(i : Int)] else placesTo r i:=by
  unfold placesTo;rw [List.range_succ,List.filter_append,List.map_append];by_cases c : rd r (i : Int) ≥ 0
  · rw [if_pos c];simp [c]
  · rw [if_neg c];simp [c]
theorem placesTo_len (r : List Int) (i : Nat) : (placesTo r i).length ≤ i:=by
  unfold placesTo;rw [List.length_map];have:=List.length_filter_le (fun j : Nat => decide (rd r (j : Int) ≥ 0)) (List.range i);rw [List.length_range] at this;exact this
theorem places_l0 (r : List Int) (hr : r.length ≤ 14) (d : Nat) : ∀ i : Nat,i + d = r.length →
    Ev (fun k => impl_WinningPlaces.l0 k (placesTo r i) r r.length i) (placesTo r r.length,true) ∧ Ev (fun k => spec_WinningPlaces.l0 k (placesTo r i) r r.length i) (placesTo r r.length,true):=by
  induction d with
  | zero =>
    intro i hi
    obtain rfl : i = r.length:=by omega
    constructor <;> apply Ev.succ
    · simp only [impl_WinningPlaces.l0,Int.lt_irrefl,if_false]
      exact Ev.some rfl
    · simp only [spec_WinningPlaces.l0,Int.lt_irrefl,if_false]
      exact Ev.some rfl
  | succ d ih =>
    intro i hi;obtain ⟨a,b⟩:=ih (i + 1) (by omega);rw [placesTo_succ] at a b;have hl:=placesTo_len r i
    constructor <;> apply Ev.succ
    · simp only [impl_WinningPlaces.l0,show ((i : Int) < (r.length : Int)) by omega,show (0 : Int) ≤ (i : Int) by omega,if_true,show (placesTo r i).length < 17592186044416 by omega,succ_w2 i (by omega)]
      by_cases c : rd r (i : Int) ≥ 0
      · rw [if_pos c] at a;exact Ev.pos c a
      · rw [if_neg c] at a;exact Ev.neg c a
    · simp only [spec_WinningPlaces.l0,show ((i : Int) < (r.length : Int)) by omega,show (0 : Int) ≤ (i : Int) by omega,if_true,show (placesTo r i).length < 17592186044416 by omega,succ_w2 i (by omega)]
      by_cases c : rd r (i : Int) ≥ 0
      · rw [if_pos c] at b;exact Ev.pos c b
      · rw [if_neg c] at b;exact Ev.neg c b
section
variable (names : List ByteArray) (mine : List Bool) (next : List (List Int)) (reach avoid : List ByteArray)
theorem rounds_length (d : Nat) : ∀ (m : Nat) (r : List Int),r.length = names.length → (rounds names mine next avoid m d r).length = names.length:=by
  induction d with
  | zero => intro m r h;exact h
  | succ d ih => intro m r h;exact ih _ _ (upd_length names mine next avoid r m names.length)
theorem ranks_length : (ranks names mine next reach avoid).length = names.length:=by
  unfold ranks;by_cases c : reach.length = 0
  · rw [if_pos c]
    unfold rankSafe;rw [iter_length,ini_length]
  · rw [if_neg c]
    exact rounds_length names mine next avoid names.length 1 _ (ini2_length names reach avoid _ _)
noncomputable def winAll : List Int × Bool:=if Good names mine next ∧ WishOk reach avoid then (placesTo (ranks names mine next reach avoid) names.length,true) else ([],false)
variable (hb : Small names mine next) (hw : SmallW reach avoid)
include hb hw
theorem winning_both : Ev (fun k => impl_WinningPlaces.f k names mine next reach avoid) (winAll names mine next reach avoid) ∧ Ev (fun k => spec_WinningPlaces.f k names mine next reach avoid) (winAll names mine next reach avoid):=by
  obtain ⟨a1,a2⟩:=goodBoard_both names mine next hb.n2 hb.x2;have b1:=l22Good_ev reach avoid hw.r2 hw.a2;have b2:=goodWish_eq reach avoid hw.r1 hw.r2 hw.a1 hw.a2
  have no1 (x : Bool) (hx : x = true) (h : ¬ (Good names mine next ∧ WishOk reach avoid)) : Ev (fun k => impl_WinningPlaces.j0 k x names mine next reach avoid) (winAll names mine next reach avoid):=by
    subst hx;apply Ev.succ;simp only [impl_WinningPlaces.j0,if_true];exact Ev.some (if_neg h).symm
  have no2 (x : Bool) (hx : x = true) (h : ¬ (Good names mine next ∧ WishOk reach avoid)) : Ev (fun k => spec_WinningPlaces.j0 k x names mine next reach avoid) (winAll names mine next reach avoid):=by
    subst hx;apply Ev.succ;simp only [spec_WinningPlaces.j0,if_true];exact Ev.some (if_neg h).symm
  unfold impl_WinningPlaces.f spec_WinningPlaces.f;by_cases c1 : Good names mine next
  · by_cases c2 : WishOk reach avoid
    · obtain ⟨r1,r2⟩:=ranks_both names mine next reach avoid c1 hw
      have hl:=ranks_length names mine next reach avoid;have hn:=c1.1.2;obtain ⟨p1,p2⟩:=places_l0 (ranks names mine next reach avoid) (by omega) names.length 0 (by omega);(have e : winAll names mine next reach avoid = (placesTo (ranks names mine next reach avoid) (ranks names mine next reach avoid).length,true):=by rw [hl];exact if_pos ⟨c1,c2⟩);have e0 : placesTo (ranks names mine next reach avoid) 0 = []:=rfl;rw [e0] at p1 p2;rw [e]
      constructor
      · refine Ev.bnd a2 (Ev.pos (decide_eq_true c1) (Ev.bnd0 b2 ?_))
        rw [decide_eq_true c2];apply Ev.succ;simp only [impl_WinningPlaces.j0,Bool.not_true,Bool.false_eq_true,if_false];exact Ev.bnd r1 p1
      · refine Ev.bnd a1 (Ev.pos (decide_eq_true c1) (Ev.bnd b1 ?_))
        rw [decide_eq_true c2];apply Ev.succ;simp only [spec_WinningPlaces.j0,Bool.not_true,Bool.false_eq_true,if_false];exact Ev.bnd r2 p2
    · exact ⟨Ev.bnd a2 (Ev.pos (decide_eq_true c1) (Ev.bnd0 b2 (no1 _ (by simp [c2]) (fun h => c2 h.2)))),Ev.bnd a1 (Ev.pos (decide_eq_true c1) (Ev.bnd b1 (no2 _ (by simp [c2]) (fun h => c2 h.2))))⟩
  · exact ⟨Ev.bnd a2 (Ev.neg (by simpa using c1) (no1 _ rfl (fun h => c1 h.1))),Ev.bnd a1 (Ev.neg (by simpa using c1) (no2 _ rfl (fun h => c1 h.1)))⟩
omit hb hw

/-! Rank 0 is where the wish aims -/
def Zero (r : List Int) : Prop:=∀ i,i < names.length → (rd r (i : Int) = 0 ↔ aims names reach avoid i)
theorem upd_get (r : List Int) (k : Int) (i : Nat) (hi : i < names.length) : rd (upd names mine next avoid r k names.length) (i : Int) = if gain names mine next avoid r i then k else rd r (i : Int):=by
  unfold rd upd;rw [Int.toNat_natCast,List.getD_eq_getElem?_getD,List.getElem?_eq_getElem (by simpa using hi),Option.getD_some];simp only [List.getElem_map,List.getElem_range];exact if_congr_prop' ⟨fun h => h.2,fun h => ⟨hi,h⟩⟩
theorem zero_rounds (d : Nat) : ∀ (m : Nat) (r : List Int),1 ≤ m → Zero names reach avoid r → Zero names reach avoid (rounds names mine next avoid m d r):=by
  induction d with
  | zero => intro m r _ h;exact h
  | succ d ih =>
    intro m r hm h;refine ih (m + 1) _ (by omega) (fun i hi => ?_);rw [upd_get names mine next avoid r m i hi];by_cases c : gain names mine next avoid r i
    · rw [if_pos c]
      have:=h i hi;have h2:=c.1
      constructor
      · intro h3;omega
      · intro h3;have:=this.2 h3;omega
    · rw [if_neg c];exact h i hi
theorem zero_rank (hr : reach.length ≠ 0) : Zero names reach avoid (ranks names mine next reach avoid):=by
  unfold ranks;rw [if_neg hr];refine zero_rounds names mine next reach avoid _ 1 _ (Nat.le_refl 1) (fun i hi => ?_);unfold rd ini2;rw [Int.toNat_natCast,List.getD_eq_getElem?_getD,List.getElem?_eq_getElem (by simpa using hi),Option.getD_some];simp only [List.getElem_map,List.getElem_range];rw [if_pos hi];by_cases c : aims names reach avoid i
  · simp [c]
  · simp [c]

/-! A plan -/
noncomputable def better (r : List Int) (b p : Int) : Int:=if rd r p ≥ 0 ∧ (b < 0 ∨ rd r p < rd r b) then p else b
noncomputable def best (r : List Int) : Int → List Int → Int
  | b,[] => b
  | b,p :: ps => best r (better r b p) ps
noncomputable def planAt (r : List Int) (i : Nat) : Int:=if mn_ mine i = true ∧ rd r (i : Int) ≥ 0 ∧ ¬ aims names reach avoid i then best r (-1) (nx next i) else -1
noncomputable def planTo (r : List Int) (i : Nat) : List Int:=(List.range i).map (planAt names mine next reach avoid r)
theorem planTo_succ (r : List Int) (i : Nat) : planTo names mine next reach avoid r (i + 1) = planTo names mine next reach avoid r i ++ [planAt names mine next reach avoid r i]:=by simp [planTo,List.range_succ]
theorem planTo_len (r : List Int) (i : Nat) : (planTo names mine next reach avoid r i).length = i:=by simp [planTo]
variable (hg : Good names mine next)
include hg
theorem best_range (r : List Int) (i : Nat) (hi : i < names.length) (b : Int) (hb' : b = -1 ∨ (0 ≤ b ∧ b < names.length)) (p : Int) (hp : p ∈ nx next i) : better r b p = -1 ∨ (0 ≤ better r b p ∧ better r b p < names.length):=by
  unfold better
  split
  · exact Or.inr (nx_mem names mine next hg i hi p hp)
  · exact hb'
theorem st_l1 (r out : List Int) (hr : r.length = names.length) (ho : out.length ≤ 100) (i : Nat) (hi : i < names.length) (res : List Int × Bool) (d : Nat) : ∀ (j : Nat) (b : Int),j + d = (nx next i).length → (b = -1 ∨ (0 ≤ b ∧ b < names.length)) →
    Ev (fun k => impl_Strategy.l0 k r (out ++ [best r b ((nx next i).drop j)]) r names.length ((i + 1 : Nat) : Int) names mine next reach avoid) res →
    Ev (fun k => impl_Strategy.l1 k r out b r names.length i (nx next i) (nx next i).length j names mine next reach avoid) res:=by
  have hn:=hg.1.2;have hnl:=nx_len names mine next hg i hi
  induction d with
  | zero =>
    intro j b hj hb' h;apply Ev.succ;rw [List.drop_of_length_le (by omega)] at h;simp only [impl_Strategy.l1,show ¬ ((j : Int) < ((nx next i).length : Int)) by omega,if_false,show out.length < 17592186044416 by omega,if_true,succ_w2 i (by omega)];exact h
  | succ d ih =>
    intro j b hj hb' h;apply Ev.succ;obtain ⟨g1,g2⟩:=nx_get names mine next hg i hi j (by omega);have hm : (nx next i).getD j 0 ∈ nx next i:=getD_mem _ j 0 (by omega);rw [drop_get (nx next i) j 0 (by omega)] at h;simp only [best] at h;have hbr:=best_range names mine next hg r i hi b hb' _ hm;have ihj:=ih (j + 1) _ (by omega) hbr h;have e : rd (nx next i) (j : Int) = (nx next i).getD j 0:=rfl;simp only [impl_Strategy.l1,show ((j : Int) < ((nx next i).length : Int)) by omega,show (0 : Int) ≤ (j : Int) by omega,if_true,e,g1,show (nx next i).getD j 0 < (r.length : Int) by omega,succ_w2 j (by omega)];generalize (nx next i).getD j 0 = p at ihj g1 g2;by_cases c1 : rd r p ≥ 0
    · refine Ev.pos c1 ?_
      by_cases c2 : b < 0
      · rw [show better r b p = p by unfold better;rw [if_pos ⟨c1,Or.inl c2⟩]] at ihj
        exact Ev.pos c2 ihj
      · refine Ev.neg c2 (Ev.pos (by omega) (Ev.pos (by omega) ?_))
        by_cases c3 : rd r p < rd r b
        · rw [show better r b p = p by unfold better;rw [if_pos ⟨c1,Or.inr c3⟩]] at ihj
          exact Ev.pos c3 ihj
        · rw [show better r b p = b by unfold better;rw [if_neg (fun h => h.2.elim c2 c3)]] at ihj
          exact Ev.neg c3 ihj
    · rw [show better r b p = b by unfold better;rw [if_neg (fun h => c1 h.1)]] at ihj
      exact Ev.neg c1 ihj
theorem sq_l1 (r : List Int) (hr : r.length = names.length) (i : Nat) (hi : i < names.length) (res : List Int × Bool) (d : Nat) : ∀ (j : Nat) (out : List Int),j + d = (nx next i).length → out.length = names.length → (out.getD i 0 = -1 ∨ (0 ≤ out.getD i 0 ∧ out.getD i 0 < names.length)) →
    Ev (fun k => spec_Strategy.l0 k r (out.set i (best r (out.getD i 0) ((nx next i).drop j))) names.length ((i + 1 : Nat) : Int) names mine next reach avoid) res →
    Ev (fun k => spec_Strategy.l1 k r out i names.length i (nx next i) (nx next i).length j names mine next reach avoid) res:=by
  have hn:=hg.1.2;have hnl:=nx_len names mine next hg i hi
  induction d with
  | zero =>
    intro j out hj ho hb' h;apply Ev.succ;rw [List.drop_of_length_le (by omega)] at h;simp only [best] at h
    have es : out.set i (out.getD i 0) = out:=by
      apply List.ext_getElem
      · simp
      · intro q h1 h2
        by_cases e : q = i
        · subst e;simp [List.getD_eq_getElem?_getD,List.getElem?_eq_getElem h2]
        · rw [List.getElem_set_ne (fun h => e h.symm)]
    rw [es] at h;simp only [spec_Strategy.l1,show ¬ ((j : Int) < ((nx next i).length : Int)) by omega,if_false,succ_w2 i (by omega)];exact h
  | succ d ih =>
    intro j out hj ho hb' h;apply Ev.succ;obtain ⟨g1,g2⟩:=nx_get names mine next hg i hi j (by omega);have hm : (nx next i).getD j 0 ∈ nx next i:=getD_mem _ j 0 (by omega);rw [drop_get (nx next i) j 0 (by omega)] at h;simp only [best] at h;have hbr:=best_range names mine next hg r i hi (out.getD i 0) hb' _ hm;have e : rd (nx next i) (j : Int) = (nx next i).getD j 0:=rfl;have eo : rd out (i : Int) = out.getD i 0:=rfl;simp only [spec_Strategy.l1,show ((j : Int) < ((nx next i).length : Int)) by omega,show (0 : Int) ≤ (j : Int) by omega,if_true,e,g1,show (nx next i).getD j 0 < (r.length : Int) by omega,succ_w2 j (by omega),Int.toNat_natCast,eo];generalize (nx next i).getD j 0 = p at h g1 g2 hbr
    have keep (hk : better r (out.getD i 0) p = out.getD i 0) : Ev (fun k => spec_Strategy.l1 k r out i names.length i (nx next i) (nx next i).length ((j + 1 : Nat) : Int) names mine next reach avoid) res:=by
      rw [hk] at h;exact ih (j + 1) out (by omega) ho hb' h
    have take_ (hk : better r (out.getD i 0) p = p) : Ev (fun k => spec_Strategy.l1 k r (out.set i p) i names.length i (nx next i) (nx next i).length ((j + 1 : Nat) : Int) names mine next reach avoid) res:=by
      (have eg : (out.set i p).getD i 0 = p:=by simp [List.getD_eq_getElem?_getD,show i < out.length by omega]);rw [hk] at h;refine ih (j + 1) (out.set i p) (by omega) (by simp [ho]) (by rw [eg];exact Or.inr ⟨g1,g2⟩) ?_;rw [eg,List.set_set];exact h
    by_cases c1 : rd r p ≥ 0
    · refine Ev.pos c1 (Ev.pos (by omega) (Ev.pos (by omega) ?_))
      by_cases c2 : out.getD i 0 < 0
      · exact Ev.pos c2 (take_ (by unfold better;rw [if_pos ⟨c1,Or.inl c2⟩]))
      · refine Ev.neg c2 (Ev.pos (by omega) (Ev.pos (by omega) ?_))
        by_cases c3 : rd r p < rd r (out.getD i 0)
        · exact Ev.pos c3 (take_ (by unfold better;rw [if_pos ⟨c1,Or.inr c3⟩]))
        · exact Ev.neg c3 (keep (by unfold better;rw [if_neg (fun h => h.2.elim c2 c3)]))
    · exact Ev.neg c1 (keep (by unfold better;rw [if_neg (fun h => c1 h.1)]))
include hw
theorem st_l0 (r : List Int) (hr : r.length = names.length) (d : Nat) : ∀ i : Nat,i + d = names.length →
    Ev (fun k => impl_Strategy.l0 k r (planTo names mine next reach avoid r i) r names.length i names mine next reach avoid) (planTo names mine next reach avoid r names.length,true):=by
  have hn:=hg.1.2;have hx:=hg.2.1.2;have hm:=hg.2.1.1
  induction d with
  | zero =>
    intro i hi
    obtain rfl : i = names.length:=by omega
    apply Ev.succ;simp only [impl_Strategy.l0,Int.lt_irrefl,if_false];exact Ev.some rfl
  | succ d ih =>
    intro i hi;apply Ev.succ;have ihi:=ih (i + 1) (by omega);rw [planTo_succ] at ihi;have hl:=planTo_len names mine next reach avoid r i;have em : rdOf false mine (i : Int) = mn_ mine i:=rfl;have e3 : rd_L3 next (i : Int) = nx next i:=rfl;simp only [impl_Strategy.l0,show ((i : Int) < (names.length : Int)) by omega,show (0 : Int) ≤ (i : Int) by omega,show ((i : Int) < (r.length : Int)) by omega,show ((i : Int) < (mine.length : Int)) by omega,if_true,em]
    have no (x : Bool) (hx' : x = false) (h : ¬ (mn_ mine i = true ∧ rd r (i : Int) ≥ 0 ∧ ¬ aims names reach avoid i)) : Ev (fun k => impl_Strategy.j2 k r (planTo names mine next reach avoid r i) i (-1) r names.length i x names mine next reach avoid) (planTo names mine next reach avoid r names.length,true):=by
      subst hx';rw [show planAt names mine next reach avoid r i = -1 from if_neg h] at ihi;apply Ev.succ;simp only [impl_Strategy.j2,Bool.false_eq_true,if_false,hl,show i < 17592186044416 by omega,if_true,succ_w2 i (by omega)];exact ihi
    by_cases c1 : mn_ mine i = true
    · refine Ev.pos c1 ?_
      by_cases c2 : rd r (i : Int) ≥ 0
      · refine Ev.pos c2 (Ev.bnd (aims_ev names mine next reach avoid hw.r1 hw.a1 i (by omega) (by omega)) ?_)
        by_cases c3 : aims names reach avoid i
        · exact no _ (by simp [show (nm names (i : Int) ∈ reach ∧ nm names (i : Int) ∉ avoid) from c3]) (fun h => h.2.2 c3)
        · have ed : (!decide (nm names (i : Int) ∈ reach ∧ nm names (i : Int) ∉ avoid)) = true:=by rw [decide_eq_false (show ¬ (nm names (i : Int) ∈ reach ∧ nm names (i : Int) ∉ avoid) from c3)];rfl
          rw [ed];apply Ev.succ;simp only [impl_Strategy.j2,if_true,e3];refine Ev.pos (by omega) (Ev.pos (by omega) ?_);refine st_l1 names mine next reach avoid hg r _ hr (by omega) i (by omega) _ (nx next i).length 0 (-1) (by omega) (Or.inl rfl) ?_;rw [show planAt names mine next reach avoid r i = best r (-1) (nx next i) from if_pos ⟨c1,c2,c3⟩] at ihi
          simpa using ihi
      · exact Ev.neg c2 (no _ rfl (fun h => c2 h.2.1))
    · exact Ev.neg c1 (no _ rfl (fun h => c1 h.1))
omit hw
noncomputable def planOut (r : List Int) (i : Nat) : List Int:=(List.range names.length).map fun j => if j < i then planAt names mine next reach avoid r j else 0
omit hg in
theorem planOut_len (r : List Int) (i : Nat) : (planOut names mine next reach avoid r i).length = names.length:=by simp [planOut]
omit hg in
theorem planOut_succ (r : List Int) (i : Nat) (hi : i < names.length) : planOut names mine next reach avoid r (i + 1) = (planOut names mine next reach avoid r i).set i (planAt names mine next reach avoid r i):=by
  apply List.ext_getElem
  · simp [planOut]
  · intro j h1 h2
    by_cases e : j = i
    · subst e;simp [planOut]
    · rw [List.getElem_set_ne (fun h => e h.symm)]
      simp only [planOut,List.getElem_map,List.getElem_range];exact if_congr_prop' (by omega)
theorem sq_l0 (r : List Int) (hr : r.length = names.length) (hz : reach.length ≠ 0 → Zero names reach avoid r) (d : Nat) : ∀ i : Nat,i + d = names.length →
    Ev (fun k => spec_Strategy.l0 k r (planOut names mine next reach avoid r i) names.length i names mine next reach avoid) (planTo names mine next reach avoid r names.length,true):=by
  have hn:=hg.1.2;have hx:=hg.2.1.2;have hm:=hg.2.1.1
  induction d with
  | zero =>
    intro i hi
    obtain rfl : i = names.length:=by omega
    apply Ev.succ;simp only [spec_Strategy.l0,Int.lt_irrefl,if_false];refine Ev.some ?_
    congr 1
    apply List.ext_getElem
    · simp [planOut,planTo]
    · intro j h1 h2
      simp only [planOut,planTo,List.getElem_map,List.getElem_range];rw [if_pos (by simpa [planOut] using h1)]
  | succ d ih =>
    intro i hi;apply Ev.succ;have ihi:=ih (i + 1) (by omega);rw [planOut_succ names mine next reach avoid r i (by omega)] at ihi;have hl:=planOut_len names mine next reach avoid r i;have em : rdOf false mine (i : Int) = mn_ mine i:=rfl;have e3 : rd_L3 next (i : Int) = nx next i:=rfl;simp only [spec_Strategy.l0,show ((i : Int) < (names.length : Int)) by omega,show (0 : Int) ≤ (i : Int) by omega,show ((i : Int) < (r.length : Int)) by omega,show ((i : Int) < (mine.length : Int)) by omega,if_true,em,hl,Option.bind_some,Int.toNat_natCast]
    have no (x : Bool) (hx' : x = true) (h : ¬ (mn_ mine i = true ∧ rd r (i : Int) ≥ 0 ∧ ¬ aims names reach avoid i)) : Ev (fun k => spec_Strategy.j2 k r ((planOut names mine next reach avoid r i).set i (-1)) i names.length i x names mine next reach avoid) (planTo names mine next reach avoid r names.length,true):=by
      subst hx';rw [show planAt names mine next reach avoid r i = -1 from if_neg h] at ihi;apply Ev.succ;simp only [spec_Strategy.j2,if_true,succ_w2 i (by omega)];exact ihi
    have yes (x : Bool) (hx' : x = false) (h : mn_ mine i = true ∧ rd r (i : Int) ≥ 0 ∧ ¬ aims names reach avoid i) : Ev (fun k => spec_Strategy.j2 k r ((planOut names mine next reach avoid r i).set i (-1)) i names.length i x names mine next reach avoid) (planTo names mine next reach avoid r names.length,true):=by
      subst hx';apply Ev.succ;simp only [spec_Strategy.j2,Bool.false_eq_true,if_false,e3];refine Ev.pos (by omega) (Ev.pos (by omega) ?_);(have eg : ((planOut names mine next reach avoid r i).set i (-1)).getD i 0 = -1:=by simp [List.getD_eq_getElem?_getD,show i < (planOut names mine next reach avoid r i).length by omega]);refine sq_l1 names mine next reach avoid hg r hr i (by omega) _ (nx next i).length 0 _ (by omega) (by simp [hl]) (by rw [eg];exact Or.inl rfl) ?_;rw [show planAt names mine next reach avoid r i = best r (-1) (nx next i) from if_pos h] at ihi;rw [eg,List.set_set]
      simpa using ihi
    by_cases c1 : mn_ mine i = true
    · refine Ev.pos c1 ?_
      by_cases c2 : rd r (i : Int) < 0
      · exact Ev.pos c2 (no _ rfl (fun h => by have:=h.2.1;omega))
      · refine Ev.neg c2 ?_
        by_cases c4 : reach.length = 0
        · have ha : ¬ aims names reach avoid i:=fun h => by
            have : reach = []:=List.eq_nil_of_length_eq_zero c4;rw [this] at h;exact absurd h.1 (by simp)
          exact Ev.neg (by omega) (yes _ rfl ⟨c1,by omega,ha⟩)
        · refine Ev.pos (by omega) ?_
          have hzi:=hz c4 i (by omega);by_cases c5 : rd r (i : Int) = 0
          · exact no _ (by simp [c5]) (fun h => h.2.2 (hzi.1 c5))
          · exact yes _ (by simpa using c5) ⟨c1,by omega,fun h => c5 (hzi.2 h)⟩
    · exact Ev.neg c1 (no _ rfl (fun h => c1 h.1))
end
noncomputable def planAll (names : List ByteArray) (mine : List Bool) (next : List (List Int)) (reach avoid : List ByteArray) : List Int × Bool:=
  if Good names mine next ∧ WishOk reach avoid then (planTo names mine next reach avoid (ranks names mine next reach avoid) names.length,true) else ([],false)
theorem strategy_both (names : List ByteArray) (mine : List Bool) (next : List (List Int)) (reach avoid : List ByteArray) (hb : Small names mine next) (hw : SmallW reach avoid) :
    Ev (fun k => impl_Strategy.f k names mine next reach avoid) (planAll names mine next reach avoid) ∧ Ev (fun k => spec_Strategy.f k names mine next reach avoid) (planAll names mine next reach avoid):=by
  obtain ⟨a1,a2⟩:=goodBoard_both names mine next hb.n2 hb.x2;have b1:=l22Good_ev reach avoid hw.r2 hw.a2;have b2:=goodWish_eq reach avoid hw.r1 hw.r2 hw.a1 hw.a2
  have no1 (x : Bool) (hx : x = true) (h : ¬ (Good names mine next ∧ WishOk reach avoid)) : Ev (fun k => impl_Strategy.j0 k x names mine next reach avoid) (planAll names mine next reach avoid):=by
    subst hx;apply Ev.succ;simp only [impl_Strategy.j0,if_true];exact Ev.some (if_neg h).symm
  have no2 (x : Bool) (hx : x = true) (h : ¬ (Good names mine next ∧ WishOk reach avoid)) : Ev (fun k => spec_Strategy.j0 k x names mine next reach avoid) (planAll names mine next reach avoid):=by
    subst hx;apply Ev.succ;simp only [spec_Strategy.j0,if_true];exact Ev.some (if_neg h).symm
  unfold impl_Strategy.f spec_Strategy.f;by_cases c1 : Good names mine next
  · by_cases c2 : WishOk reach avoid
    · obtain ⟨r1,r2⟩:=ranks_both names mine next reach avoid c1 hw
      have hl:=ranks_length names mine next reach avoid;have hn:=c1.1.2;have e : planAll names mine next reach avoid = (planTo names mine next reach avoid (ranks names mine next reach avoid) names.length,true):=if_pos ⟨c1,c2⟩;rw [e]
      constructor
      · refine Ev.bnd a2 (Ev.pos (decide_eq_true c1) (Ev.bnd0 b2 ?_))
        rw [decide_eq_true c2];apply Ev.succ;simp only [impl_Strategy.j0,Bool.not_true,Bool.false_eq_true,if_false];refine Ev.bnd r1 ?_;rw [hl];exact st_l0 names mine next reach avoid hw c1 (ranks names mine next reach avoid) hl names.length 0 (by omega)
      · refine Ev.bnd a1 (Ev.pos (decide_eq_true c1) (Ev.bnd b1 ?_))
        rw [decide_eq_true c2];apply Ev.succ;simp only [spec_Strategy.j0,Bool.not_true,Bool.false_eq_true,if_false];refine Ev.bnd r2 ?_;rw [hl];refine Ev.pos (by omega) (Ev.pos (by omega) ?_);simp only [Option.bind_some,List.length_replicate,Int.toNat_natCast];have:=sq_l0 names mine next reach avoid c1 (ranks names mine next reach avoid) hl (zero_rank names mine next reach avoid) names.length 0 (by omega)
        have e0 : planOut names mine next reach avoid (ranks names mine next reach avoid) 0 = List.replicate names.length 0:=by
          apply List.ext_getElem
          · simp [planOut]
          · intro j h1 h2;simp [planOut]
        rw [e0] at this;exact this
    · exact ⟨Ev.bnd a2 (Ev.pos (decide_eq_true c1) (Ev.bnd0 b2 (no1 _ (by simp [c2]) (fun h => c2 h.2)))),Ev.bnd a1 (Ev.pos (decide_eq_true c1) (Ev.bnd b1 (no2 _ (by simp [c2]) (fun h => c2 h.2))))⟩
  · exact ⟨Ev.bnd a2 (Ev.neg (by simpa using c1) (no1 _ rfl (fun h => c1 h.1))),Ev.bnd a1 (Ev.neg (by simpa using c1) (no2 _ rfl (fun h => c1 h.1)))⟩
end Go.Proofs.YtdihodboopeakaaDoor.Pure
/-
Own text: a play on a board: the program's and the reference's are the same.
-/
namespace Go.Proofs.YtdihodboopeakaaDoor.Pure
open Go.RowKit Go.Proofs.YtdihodboopeakaaDoorW.PrintWords Go.Proofs.YtdihodboopeakaaDoorW.PrintLast Go.Proofs.YtdihodboopeakaaDoor.Pr Go.Proofs.YtdihodboopeakaaDoor.EvKit
open Classical
set_option linter.unusedVariables false
noncomputable def play (mine : List Bool) (next : List (List Int)) (plan : List Int) : List Int → Nat → List Int → List Int × Bool
  | [],_,out => (out,true)
  | t :: ts,p,out =>
    if ((nx next p).length : Int) = 0 then (out,true)
    else if mn_ mine p = true then (if rd plan (p : Int) = -1 then (out,true) else if rd plan (p : Int) ∈ nx next p then play mine next plan ts (rd plan (p : Int)).toNat (out ++ [rd plan (p : Int)]) else ([],false))
    else play mine next plan ts (rd (nx next p) (Int.tmod t ((nx next p).length : Int))).toNat (out ++ [rd (nx next p) (Int.tmod t ((nx next p).length : Int))])
section
variable (names : List ByteArray) (mine : List Bool) (next : List (List Int)) (plan theirs : List Int)
variable (hg : Good names mine next) (hp : plan.length = names.length) (ht : theirs.length ≤ 30) (hn : ∀ t ∈ theirs,0 ≤ t)
include hg hp ht hn
theorem play_impl (d : Nat) : ∀ (i p : Nat) (out : List Int),i + d = theirs.length → p < names.length → out.length ≤ i + 1 →
    Ev (fun k => impl_PlayBoard.l1 k plan out p theirs theirs.length i names mine next) (play mine next plan (theirs.drop i) p out):=by
  have hm:=hg.2.1.1;have hx:=hg.2.1.2;have hnn:=hg.1.2
  induction d with
  | zero =>
    intro i p out hi h ho;apply Ev.succ;rw [List.drop_of_length_le (by omega)];simp only [impl_PlayBoard.l1,show ¬ ((i : Int) < (theirs.length : Int)) by omega,if_false];exact Ev.some rfl
  | succ d ih =>
    intro i p out hi h ho;apply Ev.succ;rw [drop_get theirs i 0 (by omega)];have et : rd theirs (i : Int) = theirs.getD i 0:=rfl;have em : rdOf false mine (p : Int) = mn_ mine p:=rfl;have e3 : rd_L3 next (p : Int) = nx next p:=rfl;have hnl:=nx_len names mine next hg p h;have htn : 0 ≤ theirs.getD i 0:=hn _ (getD_mem _ i 0 (by omega));simp only [impl_PlayBoard.l1,play,show ((i : Int) < (theirs.length : Int)) by omega,show (0 : Int) ≤ (i : Int) by omega,show (0 : Int) ≤ (p : Int) by omega,show ((p : Int) < (next.length : Int)) by omega,show ((p : Int) < (mine.length : Int)) by omega,show ((p : Int) < (plan.length : Int)) by omega,if_true,et,em,e3,show out.length < 17592186044416 by omega,succ_w2 i (by omega)];generalize theirs.getD i 0 = t at htn;by_cases c1 : ((nx next p).length : Int) = 0
    · rw [if_pos c1];exact Ev.pos c1 (Ev.some rfl)
    · rw [if_neg c1]
      refine Ev.neg c1 ?_;by_cases c2 : mn_ mine p = true
      · rw [if_pos c2]
        refine Ev.pos c2 ?_;by_cases c3 : rd plan (p : Int) = -1
        · rw [if_pos c3];exact Ev.pos c3 (Ev.some rfl)
        · rw [if_neg c3]
          refine Ev.neg c3 (Ev.bnd (containsI_ev _ _ (by omega)) ?_);by_cases c4 : rd plan (p : Int) ∈ nx next p
          · rw [if_pos c4]
            obtain ⟨g1,g2⟩:=nx_mem names mine next hg p h _ c4;refine Ev.pos (decide_eq_true c4) ?_;have:=ih (i + 1) (rd plan (p : Int)).toNat (out ++ [rd plan (p : Int)]) (by omega) (by omega) (by simp;omega)
            rwa [Int.toNat_of_nonneg g1] at this
          · rw [if_neg c4]
            exact Ev.neg (by simp [c4]) (Ev.some rfl)
      · rw [if_neg c2]
        refine Ev.neg c2 ?_;have q1 : 0 ≤ Int.tmod t ((nx next p).length : Int):=Int.tmod_nonneg _ htn;have q2 : Int.tmod t ((nx next p).length : Int) < ((nx next p).length : Int):=Int.tmod_lt_of_pos _ (by omega);refine Ev.pos q1 (Ev.pos q2 ?_);have hmem : rd (nx next p) (Int.tmod t ((nx next p).length : Int)) ∈ nx next p:=getD_mem _ _ 0 (by omega);obtain ⟨g1,g2⟩:=nx_mem names mine next hg p h _ hmem;have:=ih (i + 1) (rd (nx next p) (Int.tmod t ((nx next p).length : Int))).toNat (out ++ [rd (nx next p) (Int.tmod t ((nx next p).length : Int))]) (by omega) (by omega) (by simp;omega)
        rwa [Int.toNat_of_nonneg g1] at this
omit hg hp ht hn in
theorem in_row (i : Nat) (out : List Int) (q : Int) (row : List Int) (hrow : row.length ≤ 1048576) (r : List Int × Bool) (d : Nat) : ∀ (j : Nat) (x : Bool),j + d = row.length → out.length < 17592186044416 → i ≤ 100 →
    ((x = true ∨ q ∈ row.drop j) → Ev (fun k => spec_PlayBoard.l1 k plan (out ++ [q]) q theirs theirs.length ((i + 1 : Nat) : Int) names mine next) r) → (¬ (x = true ∨ q ∈ row.drop j) → r = ([],false)) →
    Ev (fun k => spec_PlayBoard.l2 k plan out q x theirs theirs.length i row row.length j names mine next) r:=by
  induction d with
  | zero =>
    intro j x hj ho hi h1 h2;apply Ev.succ;rw [List.drop_of_length_le (by omega)] at h1 h2;simp only [spec_PlayBoard.l2,show ¬ ((j : Int) < (row.length : Int)) by omega,if_false,ho,if_true,succ_w2 i (by omega)];by_cases c : x = true
    · exact Ev.pos c (h1 (Or.inl c))
    · exact Ev.neg c (Ev.some (h2 (by simp [c])).symm)
  | succ d ih =>
    intro j x hj ho hi h1 h2;apply Ev.succ;have hm:=mem_drop_step row j 0 q (by omega);have e : rd row (j : Int) = row.getD j 0:=rfl;simp only [spec_PlayBoard.l2,show ((j : Int) < (row.length : Int)) by omega,show (0 : Int) ≤ (j : Int) by omega,if_true,e,succ_w2 j (by omega)];by_cases c : x = true
    · subst c
      exact Ev.pos rfl (ih (j + 1) true (by omega) ho hi (fun _ => h1 (Or.inl rfl)) (fun h => absurd (Or.inl rfl) h))
    · refine Ev.neg c (ih (j + 1) _ (by omega) ho hi (fun h => h1 ?_) (fun h => h2 ?_))
      · rcases h with h | h
        · exact Or.inr (hm.2 (Or.inl (beq_iff_eq.1 h).symm))
        · exact Or.inr (hm.2 (Or.inr h))
      · rintro (h' | h')
        · exact c h'
        · rcases hm.1 h' with h'' | h''
          · exact h (Or.inl (beq_iff_eq.2 h''.symm))
          · exact h (Or.inr h'')
theorem play_spec (d : Nat) : ∀ (i p : Nat) (out : List Int),i + d = theirs.length → p < names.length → out.length ≤ i + 1 →
    Ev (fun k => spec_PlayBoard.l1 k plan out p theirs theirs.length i names mine next) (play mine next plan (theirs.drop i) p out):=by
  have hm:=hg.2.1.1;have hx:=hg.2.1.2;have hnn:=hg.1.2
  induction d with
  | zero =>
    intro i p out hi h ho;apply Ev.succ;rw [List.drop_of_length_le (by omega)];simp only [spec_PlayBoard.l1,show ¬ ((i : Int) < (theirs.length : Int)) by omega,if_false];exact Ev.some rfl
  | succ d ih =>
    intro i p out hi h ho;apply Ev.succ;rw [drop_get theirs i 0 (by omega)];have et : rd theirs (i : Int) = theirs.getD i 0:=rfl;have em : rdOf false mine (p : Int) = mn_ mine p:=rfl;have e3 : rd_L3 next (p : Int) = nx next p:=rfl;have hnl:=nx_len names mine next hg p h;have htn : 0 ≤ theirs.getD i 0:=hn _ (getD_mem _ i 0 (by omega));simp only [spec_PlayBoard.l1,play,show ((i : Int) < (theirs.length : Int)) by omega,show (0 : Int) ≤ (i : Int) by omega,show (0 : Int) ≤ (p : Int) by omega,show ((p : Int) < (next.length : Int)) by omega,show ((p : Int) < (mine.length : Int)) by omega,show ((p : Int) < (plan.length : Int)) by omega,if_true,et,em,e3,show out.length < 17592186044416 by omega,succ_w2 i (by omega)];generalize theirs.getD i 0 = t at htn;by_cases c1 : ((nx next p).length : Int) = 0
    · rw [if_pos c1];exact Ev.pos c1 (Ev.some rfl)
    · rw [if_neg c1]
      have q1 : 0 ≤ Int.tmod t ((nx next p).length : Int):=Int.tmod_nonneg _ htn;have q2 : Int.tmod t ((nx next p).length : Int) < ((nx next p).length : Int):=Int.tmod_lt_of_pos _ (by omega);refine Ev.neg c1 (Ev.pos q1 (Ev.pos q2 ?_));by_cases c2 : mn_ mine p = true
      · rw [if_pos c2]
        refine Ev.pos c2 ?_;by_cases c3 : rd plan (p : Int) = -1
        · rw [if_pos c3];exact Ev.pos c3 (Ev.some rfl)
        · rw [if_neg c3]
          refine Ev.neg c3 ?_;refine in_row names mine next plan theirs i out _ (nx next p) (by omega) _ (nx next p).length 0 false (by omega) (by omega) (by omega) ?_ ?_
          · intro hq
            rw [List.drop_zero] at hq;have c4 : rd plan (p : Int) ∈ nx next p:=hq.resolve_left (by simp);rw [if_pos c4];obtain ⟨g1,g2⟩:=nx_mem names mine next hg p h _ c4;have:=ih (i + 1) (rd plan (p : Int)).toNat (out ++ [rd plan (p : Int)]) (by omega) (by omega) (by simp;omega)
            rwa [Int.toNat_of_nonneg g1] at this
          · intro hq
            rw [List.drop_zero] at hq;exact if_neg (fun c4 => hq (Or.inr c4))
      · rw [if_neg c2]
        refine Ev.neg c2 ?_;have hmem : rd (nx next p) (Int.tmod t ((nx next p).length : Int)) ∈ nx next p:=getD_mem _ _ 0 (by omega);obtain ⟨g1,g2⟩:=nx_mem names mine next hg p h _ hmem;have:=ih (i + 1) (rd (nx next p) (Int.tmod t ((nx next p).length : Int))).toNat (out ++ [rd (nx next p) (Int.tmod t ((nx next p).length : Int))]) (by omega) (by omega) (by simp;omega)
        rwa [Int.toNat_of_nonneg g1] at this
end
section
variable (names : List ByteArray) (mine : List Bool) (next : List (List Int)) (plan : List Int) (fro : Int) (theirs : List Int)
abbrev PlayOk : Prop:=Good names mine next ∧ plan.length = names.length ∧ (0 ≤ fro ∧ fro < names.length) ∧ theirs.length ≤ 30
noncomputable def playAll : List Int × Bool:=if PlayOk names mine next plan fro theirs ∧ ∀ t ∈ theirs,0 ≤ t then play mine next plan theirs fro.toNat [fro] else ([],false)
theorem neg_impl (r : List Int × Bool) (ht : theirs.length ≤ 30) (d : Nat) : ∀ i : Nat,i + d = theirs.length → ((∀ t ∈ theirs.drop i,0 ≤ t) → Ev (fun k => impl_PlayBoard.l1 k plan [fro] fro theirs theirs.length 0 names mine next) r) → (¬ (∀ t ∈ theirs.drop i,0 ≤ t) → r = ([],false)) →
    Ev (fun k => impl_PlayBoard.l0 k plan fro theirs theirs theirs.length i names mine next) r:=by
  induction d with
  | zero =>
    intro i hi h1 h2;apply Ev.succ;simp only [impl_PlayBoard.l0,show ¬ ((i : Int) < (theirs.length : Int)) by omega,if_false];exact h1 (by rw [List.drop_of_length_le (by omega)];intro t ht;cases ht)
  | succ d ih =>
    intro i hi h1 h2;apply Ev.succ;have et : rd theirs (i : Int) = theirs.getD i 0:=rfl;rw [drop_get theirs i 0 (by omega)] at h1 h2;simp only [impl_PlayBoard.l0,show ((i : Int) < (theirs.length : Int)) by omega,show (0 : Int) ≤ (i : Int) by omega,if_true,et,succ_w2 i (by omega)];by_cases c : theirs.getD i 0 < 0
    · exact Ev.pos c (Ev.some (h2 (fun h => by have:=h _ (List.mem_cons_self ..);omega)).symm)
    · refine Ev.neg c (ih (i + 1) (by omega) (fun h => h1 ?_) (fun h => h2 (fun g => h (fun t ht => g t (List.mem_cons_of_mem _ ht)))))
      intro t ht
      rcases List.mem_cons.1 ht with rfl | h'
      · omega
      · exact h t h'
theorem neg_spec (r : List Int × Bool) (ht : theirs.length ≤ 30) (d : Nat) : ∀ i : Nat,i + d = theirs.length → ((∀ t ∈ theirs.drop i,0 ≤ t) → Ev (fun k => spec_PlayBoard.l1 k plan [fro] fro theirs theirs.length 0 names mine next) r) → (¬ (∀ t ∈ theirs.drop i,0 ≤ t) → r = ([],false)) →
    Ev (fun k => spec_PlayBoard.l0 k plan fro theirs theirs theirs.length i names mine next) r:=by
  induction d with
  | zero =>
    intro i hi h1 h2;apply Ev.succ;simp only [spec_PlayBoard.l0,show ¬ ((i : Int) < (theirs.length : Int)) by omega,if_false];exact h1 (by rw [List.drop_of_length_le (by omega)];intro t ht;cases ht)
  | succ d ih =>
    intro i hi h1 h2;apply Ev.succ;have et : rd theirs (i : Int) = theirs.getD i 0:=rfl;rw [drop_get theirs i 0 (by omega)] at h1 h2;simp only [spec_PlayBoard.l0,show ((i : Int) < (theirs.length : Int)) by omega,show (0 : Int) ≤ (i : Int) by omega,if_true,et,succ_w2 i (by omega)];by_cases c : theirs.getD i 0 < 0
    · exact Ev.pos c (Ev.some (h2 (fun h => by have:=h _ (List.mem_cons_self ..);omega)).symm)
    · refine Ev.neg c (ih (i + 1) (by omega) (fun h => h1 ?_) (fun h => h2 (fun g => h (fun t ht => g t (List.mem_cons_of_mem _ ht)))))
      intro t ht
      rcases List.mem_cons.1 ht with rfl | h'
      · omega
      · exact h t h'
theorem play_both (hb : Small names mine next) : Ev (fun k => impl_PlayBoard.f k names mine next plan fro theirs) (playAll names mine next plan fro theirs) ∧ Ev (fun k => spec_PlayBoard.f k names mine next plan fro theirs) (playAll names mine next plan fro theirs):=by
  obtain ⟨a1,a2⟩:=goodBoard_both names mine next hb.n2 hb.x2
  have no1 (x : Bool) (hx : x = true) (h : ¬ PlayOk names mine next plan fro theirs) : Ev (fun k => impl_PlayBoard.j0 k plan fro theirs x names mine next) (playAll names mine next plan fro theirs):=by
    subst hx;apply Ev.succ;simp only [impl_PlayBoard.j0,if_true];exact Ev.some (if_neg (fun g => h g.1)).symm
  have no2 (x : Bool) (hx : x = true) (h : ¬ PlayOk names mine next plan fro theirs) : Ev (fun k => spec_PlayBoard.j0 k plan fro theirs x names mine next) (playAll names mine next plan fro theirs):=by
    subst hx;apply Ev.succ;simp only [spec_PlayBoard.j0,if_true];exact Ev.some (if_neg (fun g => h g.1)).symm
  unfold impl_PlayBoard.f spec_PlayBoard.f;by_cases c1 : Good names mine next
  · have hn:=c1.1
    have hw : wrap64 ((names.length : Int) - 1) = (names.length : Int) - 1:=wrap64_id (by omega) (by omega);by_cases c2 : (plan.length : Int) = (names.length : Int)
    · by_cases c3 : 0 ≤ fro ∧ fro < (names.length : Int)
      · by_cases c4 : (theirs.length : Int) > 30
        · refine ⟨Ev.bnd a2 (Ev.pos (decide_eq_true c1) (Ev.pos c2 ?_)),Ev.bnd a1 (Ev.pos (decide_eq_true c1) (Ev.pos c2 (Ev.neg (by omega) (Ev.neg (by omega) (no2 _ (decide_eq_true c4) (fun h => by have:=h.2.2.2;omega))))))⟩
          simp only [impl_between.f,hw,show fro ≥ 0 from c3.1,if_true,Option.bind_some,decide_eq_true (show fro ≤ (names.length : Int) - 1 by omega)];exact no1 _ (decide_eq_true c4) (fun h => by have:=h.2.2.2;omega)
        · have ok : PlayOk names mine next plan fro theirs:=⟨c1,by omega,c3,by omega⟩
          (have ht : theirs.length ≤ 30:=by omega);refine ⟨Ev.bnd a2 (Ev.pos (decide_eq_true c1) (Ev.pos c2 ?_)),Ev.bnd a1 (Ev.pos (decide_eq_true c1) (Ev.pos c2 (Ev.neg (by omega) (Ev.neg (by omega) ?_))))⟩
          · simp only [impl_between.f,hw,show fro ≥ 0 from c3.1,if_true,Option.bind_some,decide_eq_true (show fro ≤ (names.length : Int) - 1 by omega),decide_eq_false c4]
            apply Ev.succ;simp only [impl_PlayBoard.j0,Bool.false_eq_true,if_false];refine neg_impl names mine next plan fro theirs _ ht theirs.length 0 (by omega) (fun h => ?_) (fun h => if_neg (fun g => h (by rw [List.drop_zero];exact g.2)));rw [List.drop_zero] at h;have:=play_impl names mine next plan theirs c1 (by omega) ht h theirs.length 0 fro.toNat [fro] (by omega) (by omega) (by simp);rw [List.drop_zero,Int.toNat_of_nonneg c3.1] at this;rw [show playAll names mine next plan fro theirs = play mine next plan theirs fro.toNat [fro] from if_pos ⟨ok,h⟩];exact this
          · rw [decide_eq_false c4]
            apply Ev.succ;simp only [spec_PlayBoard.j0,Bool.false_eq_true,if_false];refine neg_spec names mine next plan fro theirs _ ht theirs.length 0 (by omega) (fun h => ?_) (fun h => if_neg (fun g => h (by rw [List.drop_zero];exact g.2)));rw [List.drop_zero] at h;have:=play_spec names mine next plan theirs c1 (by omega) ht h theirs.length 0 fro.toNat [fro] (by omega) (by omega) (by simp);rw [List.drop_zero,Int.toNat_of_nonneg c3.1] at this;rw [show playAll names mine next plan fro theirs = play mine next plan theirs fro.toNat [fro] from if_pos ⟨ok,h⟩];exact this
      · refine ⟨Ev.bnd a2 (Ev.pos (decide_eq_true c1) (Ev.pos c2 ?_)),Ev.bnd a1 (Ev.pos (decide_eq_true c1) (Ev.pos c2 ?_))⟩
        · by_cases c5 : fro ≥ 0
          · simp only [impl_between.f,hw,c5,if_true,Option.bind_some,decide_eq_false (show ¬ fro ≤ (names.length : Int) - 1 by omega)]
            exact Ev.neg (by simp) (no1 _ rfl (fun h => c3 h.2.2.1))
          · simp only [impl_between.f,hw,c5,if_false,Option.bind_some]
            exact Ev.neg (by simp) (no1 _ rfl (fun h => c3 h.2.2.1))
        · by_cases c5 : fro < 0
          · exact Ev.pos c5 (no2 _ rfl (fun h => c3 h.2.2.1))
          · exact Ev.neg c5 (Ev.pos (by omega) (no2 _ rfl (fun h => c3 h.2.2.1)))
    · exact ⟨Ev.bnd a2 (Ev.pos (decide_eq_true c1) (Ev.neg c2 (no1 _ rfl (fun h => c2 (by have:=h.2.1;omega))))),Ev.bnd a1 (Ev.pos (decide_eq_true c1) (Ev.neg c2 (no2 _ rfl (fun h => c2 (by have:=h.2.1;omega)))))⟩
  · exact ⟨Ev.bnd a2 (Ev.neg (by simpa using c1) (no1 _ rfl (fun h => c1 h.1))),Ev.bnd a1 (Ev.neg (by simpa using c1) (no2 _ rfl (fun h => c1 h.1)))⟩
end
end Go.Proofs.YtdihodboopeakaaDoor.Pure
/-
Own text: from each place that wins,the plan meets the wish,whatever the other side does.
-/
namespace Go.Proofs.YtdihodboopeakaaDoor.Pure
open Go.RowKit Go.Proofs.YtdihodboopeakaaDoorW.PrintWords Go.Proofs.YtdihodboopeakaaDoorW.PrintLast Go.Proofs.YtdihodboopeakaaDoor.Pr Go.Proofs.YtdihodboopeakaaDoor.EvKit
open Classical
set_option linter.unusedVariables false
/-! The best of a row -/
theorem best_mem (r : List Int) (l : List Int) : ∀ b : Int,best r b l = b ∨ best r b l ∈ l:=by
  induction l with
  | nil => intro b;exact Or.inl rfl
  | cons p ps ih =>
    intro b;simp only [best]
    rcases ih (better r b p) with h | h
    · rw [h]
      unfold better
      split
      · exact Or.inr (List.mem_cons_self ..)
      · exact Or.inl rfl
    · exact Or.inr (List.mem_cons_of_mem _ h)
theorem best_min (r : List Int) (v : Int) (l : List Int) : ∀ b : Int,(b < 0 ∨ 0 ≤ rd r b) → (∀ p ∈ l,0 ≤ p) → ((∃ p ∈ l,0 ≤ rd r p ∧ rd r p ≤ v) ∨ (0 ≤ b ∧ rd r b ≤ v)) → 0 ≤ best r b l ∧ 0 ≤ rd r (best r b l) ∧ rd r (best r b l) ≤ v:=by
  induction l with
  | nil =>
    intro b hb _ h
    rcases h with ⟨p,hp,_⟩ | h
    · cases hp
    · exact ⟨h.1,by simp only [best];omega,h.2⟩
  | cons p ps ih =>
    intro b hb hl h;have hp:=hl p (List.mem_cons_self ..);simp only [best];refine ih (better r b p) ?_ (fun q hq => hl q (List.mem_cons_of_mem _ hq)) ?_
    · unfold better
      split
      · rename_i c;exact Or.inr c.1
      · exact hb
    · rcases h with ⟨q,hq,h1,h2⟩ | h
      · rcases List.mem_cons.1 hq with rfl | hq'
        · right
          unfold better
          split
          · exact ⟨hp,h2⟩
          · rename_i c
            have : 0 ≤ b:=by
              rcases Int.lt_or_le b 0 with g | g
              · exact absurd ⟨h1,Or.inl g⟩ c
              · exact g
            refine ⟨this,?_⟩
            rcases Int.lt_or_le (rd r q) (rd r b) with g | g
            · exact absurd ⟨h1,Or.inr g⟩ c
            · omega
        · exact Or.inl ⟨q,hq',h1,h2⟩
      · right
        unfold better
        split
        · rename_i c
          refine ⟨hp,?_⟩
          rcases c.2 with g | g <;> omega
        · exact h
/-! The places behind a place, by a plan and the other side's choices -/
noncomputable def trail (mine : List Bool) (next : List (List Int)) (plan : List Int) : List Int → Nat → List Int
  | [],_ => []
  | t :: ts,p =>
    if ((nx next p).length : Int) = 0 then []
    else if mn_ mine p = true then (if rd plan (p : Int) = -1 then [] else rd plan (p : Int) :: trail mine next plan ts (rd plan (p : Int)).toNat)
    else rd (nx next p) (Int.tmod t ((nx next p).length : Int)) :: trail mine next plan ts (rd (nx next p) (Int.tmod t ((nx next p).length : Int))).toNat
def Ch (next : List (List Int)) : Int → List Int → Prop
  | _,[] => True
  | p,q :: l => q ∈ nx next p.toNat ∧ Ch next q l
section
variable (names : List ByteArray) (mine : List Bool) (next : List (List Int)) (reach avoid : List ByteArray)
variable (hg : Good names mine next)
include hg
omit hg in
theorem turn_mem (p : Nat) (hp : p < names.length) (t : Int) (ht : 0 ≤ t) (c : ¬ ((nx next p).length : Int) = 0) : rd (nx next p) (Int.tmod t ((nx next p).length : Int)) ∈ nx next p:=by
  have q1 : 0 ≤ Int.tmod t ((nx next p).length : Int):=Int.tmod_nonneg _ ht;have q2 : Int.tmod t ((nx next p).length : Int) < ((nx next p).length : Int):=Int.tmod_lt_of_pos _ (by omega);exact getD_mem _ _ 0 (by omega)
section
variable (plan : List Int) (hpl : ∀ p,p < names.length → mn_ mine p = true → rd plan (p : Int) = -1 ∨ rd plan (p : Int) ∈ nx next p)
include hpl
theorem play_trail (ts : List Int) : (∀ t ∈ ts,0 ≤ t) → ∀ (p : Nat) (out : List Int),p < names.length → play mine next plan ts p out = (out ++ trail mine next plan ts p,true):=by
  induction ts with
  | nil => intro _ p out _;simp [play,trail]
  | cons t ts ih =>
    intro ht p out hp;have ih':=ih (fun x hx => ht x (List.mem_cons_of_mem _ hx));simp only [play,trail];by_cases c : ((nx next p).length : Int) = 0
    · rw [if_pos c,if_pos c,List.append_nil]
    · rw [if_neg c,if_neg c]
      by_cases c2 : mn_ mine p = true
      · rw [if_pos c2,if_pos c2]
        by_cases c3 : rd plan (p : Int) = -1
        · rw [if_pos c3,if_pos c3,List.append_nil]
        · rw [if_neg c3,if_neg c3]
          have c4:=(hpl p hp c2).resolve_left c3;obtain ⟨g1,g2⟩:=nx_mem names mine next hg p hp _ c4;rw [if_pos c4,ih' _ _ (by omega),List.append_assoc]
          rfl
      · rw [if_neg c2,if_neg c2]
        obtain ⟨g1,g2⟩:=nx_mem names mine next hg p hp _ (turn_mem names next p hp t (ht t (List.mem_cons_self ..)) c);rw [ih' _ _ (by omega),List.append_assoc]
        rfl
theorem trail_ch (ts : List Int) : (∀ t ∈ ts,0 ≤ t) → ∀ p : Nat,p < names.length → Ch next (p : Int) (trail mine next plan ts p):=by
  induction ts with
  | nil => intro _ p _;trivial
  | cons t ts ih =>
    intro ht p hp;have ih':=ih (fun x hx => ht x (List.mem_cons_of_mem _ hx));simp only [trail];by_cases c : ((nx next p).length : Int) = 0
    · rw [if_pos c];trivial
    · rw [if_neg c]
      by_cases c2 : mn_ mine p = true
      · rw [if_pos c2]
        by_cases c3 : rd plan (p : Int) = -1
        · rw [if_pos c3];trivial
        · rw [if_neg c3]
          have c4:=(hpl p hp c2).resolve_left c3;obtain ⟨g1,g2⟩:=nx_mem names mine next hg p hp _ c4;have:=ih' (rd plan (p : Int)).toNat (by omega);rw [Int.toNat_of_nonneg g1] at this;exact ⟨by rw [Int.toNat_natCast];exact c4,this⟩
      · rw [if_neg c2]
        have c4:=turn_mem names next p hp t (ht t (List.mem_cons_self ..)) c;obtain ⟨g1,g2⟩:=nx_mem names mine next hg p hp _ c4;have:=ih' (rd (nx next p) (Int.tmod t ((nx next p).length : Int))).toNat (by omega);rw [Int.toNat_of_nonneg g1] at this;exact ⟨by rw [Int.toNat_natCast];exact c4,this⟩
end
omit hg in
theorem trail_len (plan : List Int) (ts : List Int) : ∀ p : Nat,(trail mine next plan ts p).length ≤ ts.length:=by
  induction ts with
  | nil => intro p;simp [trail]
  | cons t ts ih =>
    intro p;simp only [trail,List.length_cons]
    split
    · simp
    · split
      · split
        · simp
        · simp only [List.length_cons];have:=ih (rd plan (p : Int)).toNat;omega
      · simp only [List.length_cons];have:=ih (rd (nx next p) (Int.tmod t ((nx next p).length : Int))).toNat;omega
theorem ch_path (l : List Int) : ∀ p : Int,0 ≤ p ∧ p < names.length → Ch next p l → PathOk names next (p :: l) 0:=by
  induction l with
  | nil =>
    intro p hp _ j _ hj;simp only [List.length_cons,List.length_nil] at hj
    obtain rfl : j = 0:=by omega
    exact ⟨hp,fun h => absurd h (Nat.lt_irrefl 0)⟩
  | cons q l ih =>
    intro p hp hc j _ hj;have hq:=nx_mem names mine next hg p.toNat (by omega) q hc.1;have:=ih q hq hc.2
    cases j with
    | zero => exact ⟨hp,fun h => absurd h (Nat.lt_irrefl 0)⟩
    | succ j =>
      obtain ⟨h1,h2⟩:=this j (Nat.zero_le j) (by simpa using hj);refine ⟨by simpa using h1,fun _ => ?_⟩
      cases j with
      | zero => exact hc.1
      | succ j => simpa using h2 (Nat.succ_pos j)
/-! With Reach: each move lowers the rank -/
def Inv (m : Nat) (r : List Int) : Prop:=r.length = names.length ∧ ∀ i,i < names.length → rd r (i : Int) < m ∧ (0 < rd r (i : Int) → nm names (i : Int) ∉ avoid ∧ nx next i ≠ [] ∧ (mn_ mine i = true → ∃ p ∈ nx next i,0 ≤ rd r p ∧ rd r p < rd r (i : Int)) ∧ (mn_ mine i = false → ∀ p ∈ nx next i,0 ≤ rd r p ∧ rd r p < rd r (i : Int)))
theorem inv_step (m : Nat) (r : List Int) (hm : 1 ≤ m) (h : Inv names mine next avoid m r) : Inv names mine next avoid (m + 1) (upd names mine next avoid r (m : Int) names.length):=by
  refine ⟨upd_length names mine next avoid r _ _,fun i hi => ?_⟩
  have stay (p : Int) (i' : Nat) (hi' : i' < names.length) (hp : p ∈ nx next i') (hr : 0 ≤ rd r p) : rd (upd names mine next avoid r (m : Int) names.length) p = rd r p:=by
    obtain ⟨g1,g2⟩:=nx_mem names mine next hg i' hi' p hp;have:=upd_get names mine next avoid r (m : Int) p.toNat (by omega);rw [Int.toNat_of_nonneg g1] at this;rw [this,if_neg (fun c => by have:=c.1;rw [Int.toNat_of_nonneg g1] at this;omega)]
  have small (p : Int) (i' : Nat) (hi' : i' < names.length) (hp : p ∈ nx next i') : rd r p < m:=by
    obtain ⟨g1,g2⟩:=nx_mem names mine next hg i' hi' p hp;have:=(h.2 p.toNat (by omega)).1
    rwa [Int.toNat_of_nonneg g1] at this
  rw [upd_get names mine next avoid r (m : Int) i hi];by_cases c : gain names mine next avoid r i
  · rw [if_pos c]
    obtain ⟨c1,c2,c3,c4⟩:=c;refine ⟨by omega,fun _ => ⟨c2,c3,fun hmi => ?_,fun hmi p hp => ?_⟩⟩
    · rcases c4 with ⟨_,p,hp,hr⟩ | ⟨hf,_⟩
      · exact ⟨p,hp,by rw [stay p i hi hp hr];exact hr,by rw [stay p i hi hp hr];exact small p i hi hp⟩
      · rw [hmi] at hf;cases hf
    · rcases c4 with ⟨hf,_⟩ | ⟨_,hn⟩
      · rw [hmi] at hf;cases hf
      · have hr : 0 ≤ rd r p:=by
          rcases Int.lt_or_le (rd r p) 0 with g | g
          · exact absurd ⟨p,hp,g⟩ hn
          · exact g
        exact ⟨by rw [stay p i hi hp hr];exact hr,by rw [stay p i hi hp hr];exact small p i hi hp⟩
  · rw [if_neg c]
    obtain ⟨h1,h2⟩:=h.2 i hi;refine ⟨by omega,fun h3 => ?_⟩;obtain ⟨d1,d2,d3,d4⟩:=h2 h3;refine ⟨d1,d2,fun hmi => ?_,fun hmi p hp => ?_⟩
    · obtain ⟨p,hp,e1,e2⟩:=d3 hmi
      exact ⟨p,hp,by rw [stay p i hi hp e1];exact e1,by rw [stay p i hi hp e1];exact e2⟩
    · obtain ⟨e1,e2⟩:=d4 hmi p hp
      exact ⟨by rw [stay p i hi hp e1];exact e1,by rw [stay p i hi hp e1];exact e2⟩
theorem inv_rounds (d : Nat) : ∀ (m : Nat) (r : List Int),1 ≤ m → Inv names mine next avoid m r → Inv names mine next avoid (m + d) (rounds names mine next avoid m d r):=by
  induction d with
  | zero => intro m r _ h;exact h
  | succ d ih =>
    intro m r hm h;have:=ih (m + 1) _ (by omega) (inv_step names mine next avoid hg m r hm h);rw [show m + 1 + d = m + (d + 1) by omega] at this;exact this
omit hg in
theorem ini2_get (i : Nat) (hi : i < names.length) : rd (ini2 names reach avoid names.length []) (i : Int) = if aims names reach avoid i then 0 else -1:=by
  unfold rd ini2;rw [Int.toNat_natCast,List.getD_eq_getElem?_getD,List.getElem?_eq_getElem (by simpa using hi),Option.getD_some];simp only [List.getElem_map,List.getElem_range];rw [if_pos hi]
theorem inv_ranks (hr : reach.length ≠ 0) : Inv names mine next avoid (1 + names.length) (ranks names mine next reach avoid):=by
  unfold ranks;rw [if_neg hr];refine inv_rounds names mine next avoid hg names.length 1 _ (Nat.le_refl 1) ⟨ini2_length names reach avoid _ _,fun i hi => ?_⟩;rw [ini2_get names reach avoid i hi];by_cases c : aims names reach avoid i
  · rw [if_pos c];exact ⟨by omega,fun h => absurd h (by omega)⟩
  · rw [if_neg c];exact ⟨by omega,fun h => absurd h (by omega)⟩
/-! The plan at a place -/
omit hg in
theorem plan_rd (r : List Int) (i : Nat) (hi : i < names.length) : rd (planTo names mine next reach avoid r names.length) (i : Int) = planAt names mine next reach avoid r i:=by
  unfold rd planTo;rw [Int.toNat_natCast,List.getD_eq_getElem?_getD,List.getElem?_eq_getElem (by simpa using hi),Option.getD_some];simp only [List.getElem_map,List.getElem_range]
omit hg in
theorem plan_ok (r : List Int) (p : Nat) (hp : p < names.length) (_ : mn_ mine p = true) : rd (planTo names mine next reach avoid r names.length) (p : Int) = -1 ∨ rd (planTo names mine next reach avoid r names.length) (p : Int) ∈ nx next p:=by
  rw [plan_rd names mine next reach avoid r p hp];unfold planAt
  split
  · exact best_mem r _ _
  · exact Or.inl rfl
theorem plan_best (r : List Int) (p : Nat) (hp : p < names.length) (hm : mn_ mine p = true) (h0 : 0 ≤ rd r (p : Int)) (ha : ¬ aims names reach avoid p) (v : Int) (hv : ∃ q ∈ nx next p,0 ≤ rd r q ∧ rd r q ≤ v) :
    ∃ q : Int,rd (planTo names mine next reach avoid r names.length) (p : Int) = q ∧ q ≠ -1 ∧ q ∈ nx next p ∧ 0 ≤ q ∧ q < names.length ∧ 0 ≤ rd r q ∧ rd r q ≤ v:=by
  have e : rd (planTo names mine next reach avoid r names.length) (p : Int) = best r (-1) (nx next p):=by
    rw [plan_rd names mine next reach avoid r p hp];exact if_pos ⟨hm,h0,ha⟩
  obtain ⟨b1,b2,b3⟩:=best_min r v (nx next p) (-1) (Or.inl (by decide)) (fun q hq => (nx_mem names mine next hg p hp q hq).1) (Or.inl hv);(have hne : best r (-1) (nx next p) ≠ -1:=by omega);have hmem:=(best_mem r (nx next p) (-1)).resolve_left hne;exact ⟨_,e,hne,hmem,b1,(nx_mem names mine next hg p hp _ hmem).2,b2,b3⟩
theorem met_reach (hr : reach.length ≠ 0) (ts : List Int) : (∀ t ∈ ts,0 ≤ t) → ∀ p : Nat,p < names.length → 0 ≤ rd (ranks names mine next reach avoid) (p : Int) → rd (ranks names mine next reach avoid) (p : Int) ≤ ts.length →
    met names reach avoid ((p : Int) :: trail mine next (planTo names mine next reach avoid (ranks names mine next reach avoid) names.length) ts p) = (true,true):=by
  have hz:=zero_rank names mine next reach avoid hr;have hi:=inv_ranks names mine next reach avoid hg hr;generalize ranks names mine next reach avoid = R at hz hi
  have now (p : Nat) (hp : p < names.length) (l : List Int) (h : aims names reach avoid p) : met names reach avoid ((p : Int) :: l) = (true,true):=by
    simp only [met];rw [if_neg h.2,if_pos h.1]
  induction ts with
  | nil =>
    intro _ p hp h0 h1;exact now p hp _ ((hz p hp).1 (by simp at h1;omega))
  | cons t ts ih =>
    intro ht p hp h0 h1;have ih':=ih (fun x hx => ht x (List.mem_cons_of_mem _ hx));by_cases ca : aims names reach avoid p
    · exact now p hp _ ca
    · have hpos : 0 < rd R (p : Int):=by
        rcases Int.lt_or_le 0 (rd R (p : Int)) with g | g
        · exact g
        · exact absurd ((hz p hp).1 (by omega)) ca
      obtain ⟨d1,d2,d3,d4⟩:=(hi.2 p hp).2 hpos;(have nr : nm names (p : Int) ∉ reach:=fun h => ca ⟨h,d1⟩);(have hl : ¬ ((nx next p).length : Int) = 0:=fun h => d2 (List.eq_nil_of_length_eq_zero (by omega)));simp only [List.length_cons] at h1;rw [met,if_neg d1,if_neg nr];simp only [trail];rw [if_neg hl];by_cases c2 : mn_ mine p = true
      · rw [if_pos c2]
        obtain ⟨q0,hq0,e1,e2⟩:=d3 c2;obtain ⟨q,eq,g1,g2,g3,g4,g5,g6⟩:=plan_best names mine next reach avoid hg R p hp c2 h0 ca (rd R (p : Int) - 1) ⟨q0,hq0,e1,by omega⟩;rw [eq,if_neg g1];have:=ih' q.toNat (by omega) (by rw [Int.toNat_of_nonneg g3];exact g5) (by rw [Int.toNat_of_nonneg g3];omega)
        rwa [Int.toNat_of_nonneg g3] at this
      · rw [if_neg c2]
        have hm:=turn_mem names next p hp t (ht t (List.mem_cons_self ..)) hl;obtain ⟨g3,g4⟩:=nx_mem names mine next hg p hp _ hm;obtain ⟨e1,e2⟩:=d4 (by simpa using c2) _ hm;generalize rd (nx next p) (Int.tmod t ((nx next p).length : Int)) = q at g3 g4 e1 e2;have:=ih' q.toNat (by omega) (by rw [Int.toNat_of_nonneg g3];exact e1) (by rw [Int.toNat_of_nonneg g3];omega)
        rwa [Int.toNat_of_nonneg g3] at this
/-! Without Reach: what is safe stays safe -/
omit hg in
theorem swc_false (d : Nat) : ∀ (r : List Int) (i : Nat),swc mine next r i d = false → ∀ j,i ≤ j → j < i + d → ¬ lose mine next r j:=by
  induction d with
  | zero => intro r i _ j h1 h2;omega
  | succ d ih =>
    intro r i h j h1 h2;simp only [swc,Bool.or_eq_false_iff,decide_eq_false_iff_not] at h;have e : sw1 mine next r i = r:=if_neg h.1;rw [e] at h
    rcases Nat.lt_or_ge i j with g | g
    · exact ih r (i + 1) h.2 j (by omega) (by omega)
    · obtain rfl : j = i:=by omega
      exact h.1
omit hg in
theorem iter_swc (m : Nat) : ∀ r : List Int,cnt r ≤ m → swc mine next (iter mine next r.length m r) 0 r.length = false:=by
  induction m with
  | zero =>
    intro r hc;have:=sw_cnt mine next r.length r 0 (by omega)
    cases h : swc mine next r 0 r.length
    · exact h
    · have:=this.2.1 h;omega
  | succ m ih =>
    intro r hc;have h3:=sw_cnt mine next r.length r 0 (by omega);simp only [iter];have hl:=sw_length mine next r.length r 0
    cases h : swc mine next r 0 r.length
    · have e:=h3.2.2 h
      rw [e,iter_fix mine next r.length m r e];exact h
    · have:=h3.2.1 h
      have:=ih (sw mine next r 0 r.length) (by omega)
      rwa [hl] at this
omit hg in
theorem sw1_ge (r : List Int) (i j : Nat) (h : 0 ≤ rd (sw1 mine next r i) (j : Int)) : 0 ≤ rd r (j : Int):=by
  unfold sw1 at h
  split at h
  · unfold rd at h ⊢
    rw [Int.toNat_natCast] at h ⊢;by_cases e : j = i
    · subst e
      by_cases hl : j < r.length
      · simp [List.getD_eq_getElem?_getD,hl] at h
      · simp only [List.getD_eq_getElem?_getD,List.getElem?_eq_none (show r.length ≤ j by omega),Option.getD_none]
        decide
    · simpa [List.getD_eq_getElem?_getD,List.getElem?_set_ne (fun h => e h.symm)] using h
  · exact h
omit hg in
theorem sw_ge (j : Nat) (d : Nat) : ∀ (r : List Int) (i : Nat),0 ≤ rd (sw mine next r i d) (j : Int) → 0 ≤ rd r (j : Int):=by
  induction d with
  | zero => intro r i h;exact h
  | succ d ih => intro r i h;exact sw1_ge mine next r i j (ih _ _ h)
omit hg in
theorem iter_ge (n j : Nat) (m : Nat) : ∀ r : List Int,0 ≤ rd (iter mine next n m r) (j : Int) → 0 ≤ rd r (j : Int):=by
  induction m with
  | zero => intro r h;exact h
  | succ m ih => intro r h;exact sw_ge mine next j n r 0 (ih _ h)
omit hg in
theorem safe_ranks (i : Nat) (hi : i < names.length) (h0 : 0 ≤ rd (rankSafe names mine next avoid) (i : Int)) : nm names (i : Int) ∉ avoid ∧ ¬ lose mine next (rankSafe names mine next avoid) i:=by
  unfold rankSafe at h0 ⊢;have hl:=ini_length names avoid names.length;have hs:=iter_swc mine next names.length (ini names avoid names.length) (by have:=cnt_le (ini names avoid names.length);omega);rw [hl] at hs;refine ⟨fun ha => ?_,swc_false mine next names.length _ 0 hs i (Nat.zero_le i) (by omega)⟩;have:=iter_ge mine next names.length i names.length _ h0;unfold rd ini at this;rw [Int.toNat_natCast,List.getD_eq_getElem?_getD,List.getElem?_eq_getElem (by simpa using hi),Option.getD_some] at this;simp only [List.getElem_map,List.getElem_range] at this;rw [if_pos ⟨hi,ha⟩] at this;exact absurd this (by decide)
theorem met_safe (ts : List Int) : (∀ t ∈ ts,0 ≤ t) → ∀ p : Nat,p < names.length → 0 ≤ rd (rankSafe names mine next avoid) (p : Int) →
    met names [] avoid ((p : Int) :: trail mine next (planTo names mine next [] avoid (rankSafe names mine next avoid) names.length) ts p) = (true,true):=by
  have hs:=safe_ranks names mine next avoid;generalize rankSafe names mine next avoid = R at hs
  have last (p : Nat) (h : nm names (p : Int) ∉ avoid) : met names [] avoid ((p : Int) :: []) = (true,true):=by
    simp only [met];rw [if_neg h,if_neg (by simp)]
    rfl
  induction ts with
  | nil => intro _ p hp h0;exact last p (hs p hp h0).1
  | cons t ts ih =>
    intro ht p hp h0;have ih':=ih (fun x hx => ht x (List.mem_cons_of_mem _ hx));obtain ⟨d1,d2⟩:=hs p hp h0;simp only [trail];by_cases hl : ((nx next p).length : Int) = 0
    · rw [if_pos hl];exact last p d1
    · rw [if_neg hl]
      (have hne : nx next p ≠ []:=fun h => hl (by rw [h];rfl));(have nr : nm names (p : Int) ∉ ([] : List ByteArray):=by simp);rw [met,if_neg d1,if_neg nr];by_cases c2 : mn_ mine p = true
      · rw [if_pos c2]
        (have hany : anyGe R (nx next p):=Classical.byContradiction fun h => d2 ⟨by omega,hne,Or.inl ⟨c2,h⟩⟩);obtain ⟨q0,hq0,e1⟩:=hany;obtain ⟨q,eq,g1,g2,g3,g4,g5,_⟩:=plan_best names mine next [] avoid hg R p hp c2 h0 (fun h => nr h.1) (rd R q0) ⟨q0,hq0,e1,Int.le_refl _⟩;rw [eq,if_neg g1];have:=ih' q.toNat (by omega) (by rw [Int.toNat_of_nonneg g3];exact g5)
        rwa [Int.toNat_of_nonneg g3] at this
      · rw [if_neg c2]
        have hm:=turn_mem names next p hp t (ht t (List.mem_cons_self ..)) hl;obtain ⟨g3,g4⟩:=nx_mem names mine next hg p hp _ hm
        have e1 : 0 ≤ rd R (rd (nx next p) (Int.tmod t ((nx next p).length : Int))):=by
          rcases Int.lt_or_le (rd R (rd (nx next p) (Int.tmod t ((nx next p).length : Int)))) 0 with g | g
          · exact absurd ⟨by omega,hne,Or.inr ⟨by simpa using c2,_,hm,g⟩⟩ d2
          · exact g
        generalize rd (nx next p) (Int.tmod t ((nx next p).length : Int)) = q at g3 g4 e1;have:=ih' q.toNat (by omega) (by rw [Int.toNat_of_nonneg g3];exact e1)
        rwa [Int.toNat_of_nonneg g3] at this
/-- From a place that wins the wish is met. -/
theorem win_met (hw : WishOk reach avoid) (ts : List Int) (ht : ∀ t ∈ ts,0 ≤ t) (hl : ts.length = 20) (p : Nat) (hp : p < names.length) (h0 : 0 ≤ rd (ranks names mine next reach avoid) (p : Int)) :
    ∃ path : List Int,playAll names mine next (planTo names mine next reach avoid (ranks names mine next reach avoid) names.length) (p : Int) ts = (path,true) ∧ metAll names mine next reach avoid path = (true,true) ∧ path.length ≤ 21:=by
  refine ⟨(p : Int) :: trail mine next (planTo names mine next reach avoid (ranks names mine next reach avoid) names.length) ts p,?_,?_,?_⟩
  · unfold playAll
    rw [if_pos ⟨⟨hg,planTo_len names mine next reach avoid _ _,⟨by omega,by omega⟩,by omega⟩,ht⟩,Int.toNat_natCast,play_trail names mine next hg _ (plan_ok names mine next reach avoid _) ts ht p _ hp]
    rfl
  · have hlen:=trail_len mine next (planTo names mine next reach avoid (ranks names mine next reach avoid) names.length) ts p
    unfold metAll;rw [if_pos ⟨⟨hg,hw⟩,⟨by simp,by simp only [List.length_cons];omega⟩,ch_path names mine next hg _ _ ⟨by omega,by omega⟩ (trail_ch names mine next hg _ (plan_ok names mine next reach avoid _) ts ht p hp)⟩];by_cases hr : reach.length = 0
    · obtain rfl : reach = []:=List.eq_nil_of_length_eq_zero hr
      have e : ranks names mine next [] avoid = rankSafe names mine next avoid:=if_pos rfl;rw [e] at h0 ⊢;exact met_safe names mine next avoid hg ts ht p hp h0
    · refine met_reach names mine next reach avoid hg hr ts ht p hp h0 ?_
      have h1:=((inv_ranks names mine next reach avoid hg hr).2 p hp).1;have h2:=hg.1.2
      omega
  · have hlen:=trail_len mine next (planTo names mine next reach avoid (ranks names mine next reach avoid) names.length) ts p
    simp only [List.length_cons];omega
end
end Go.Proofs.YtdihodboopeakaaDoor.Pure
/-
Own text: the cursor that draws numbers out of a code: it always answers,within its bounds.
-/
namespace Go.Proofs.YtdihodboopeakaaDoor.Pure
open Go.RowKit Go.Proofs.YtdihodboopeakaaDoorW.PrintWords Go.Proofs.YtdihodboopeakaaDoorW.PrintLast Go.Proofs.YtdihodboopeakaaDoor.Pr Go.Proofs.YtdihodboopeakaaDoor.EvKit

/-- A code: bytes, not too many. -/
def Code (c : List Int) : Prop:=c.length ≤ 1048576 ∧ ∀ y ∈ c,0 ≤ y ∧ y ≤ 255
theorem wrap_u64 (n : Int) : IntKind.u64.wrap n = n % 18446744073709551616:=by
  simp [IntKind.wrap,IntKind.bits,IntKind.signed]
theorem mask_in (n : Int) : 0 ≤ Go.bits .and .u64 (IntKind.u64.wrap n / 1099511627776) 255 ∧ Go.bits .and .u64 (IntKind.u64.wrap n / 1099511627776) 255 ≤ 255:=by
  have h0 : 0 ≤ IntKind.u64.wrap n / 1099511627776 ∧ IntKind.u64.wrap n / 1099511627776 < 2 ^ 32:=by
    rw [wrap_u64]
    omega
  have h:=bits_mask .u64 32 (by decide) (fun m h1 h2 => by rw [wrap_u64];omega) 8 (by decide) _ h0.1 h0.2;rw [show ((2 : Int) ^ 8 - 1) = 255 by decide] at h;rw [h]
  omega
theorem code_rd {c : List Int} (hc : Code c) (i : Int) : 0 ≤ rd c i ∧ rd c i ≤ 255:=by
  unfold rd;rw [List.getD_eq_getElem?_getD];by_cases h : i.toNat < c.length
  · rw [List.getElem?_eq_getElem h]
    exact hc.2 _ (List.getElem_mem h)
  · rw [List.getElem?_eq_none (by omega)]
    exact ⟨by decide,by decide⟩
theorem next_ok {c : List Int} (hc : Code c) (a s : Int) (h0 : 0 ≤ a) (h1 : a ≤ 4611686018427387904) : ∃ b s',spec_l1Cur_next.f c a s = some (b,a + 1,s') ∧ 0 ≤ b ∧ b ≤ 255:=by
  unfold spec_l1Cur_next.f;have e : wrap64 (a + 1) = a + 1:=wrap64_id (by omega) (by omega);have hr:=code_rd hc a;rw [e];by_cases h2 : a < (c.length : Int)
  · rw [if_pos h2,if_pos h0,if_pos (by omega)]
    exact ⟨_,_,rfl,by rw [wrap64_id (by omega) (by omega)];exact hr.1,by rw [wrap64_id (by omega) (by omega)];exact hr.2⟩
  · rw [if_neg h2,if_neg (by omega)]
    have hm:=mask_in ((IntKind.u64.wrap ((IntKind.u64.wrap (s * 6364136223846793005)) + 0)) + 1442695040888963407);exact ⟨_,_,rfl,by rw [wrap64_id (by omega) (by omega)];exact hm.1,by rw [wrap64_id (by omega) (by omega)];exact hm.2⟩
theorem tmod_in (x n : Int) (hx : 0 ≤ x) (hn : 0 < n) : 0 ≤ x.tmod n ∧ x.tmod n < n:=by
  rw [Int.tmod_eq_emod_of_nonneg hx];exact ⟨Int.emod_nonneg _ (by omega),Int.emod_lt_of_pos _ hn⟩
theorem pick_ok {c : List Int} (hc : Code c) (a s n : Int) (h0 : 0 ≤ a) (h1 : a ≤ 4611686018427387000) : ∃ v a' s',spec_l1Cur_pick.f c a s n = some (v,a',s') ∧ a ≤ a' ∧ a' ≤ a + 2 ∧ 0 ≤ v ∧ (1 < n → v < n) ∧ (n ≤ 1 → v = 0):=by
  unfold spec_l1Cur_pick.f;by_cases hn : n ≤ 1
  · rw [if_pos hn]
    exact ⟨0,a,s,rfl,by omega,by omega,by omega,by omega,fun _ => rfl⟩
  · rw [if_neg hn]
    obtain ⟨b,s1,e1,b0,b1⟩:=next_ok hc a s h0 (by omega);rw [e1];simp only [Option.bind_some];by_cases h2 : n > 200
    · rw [if_pos h2]
      obtain ⟨b2,s2,e2,b20,b21⟩:=next_ok hc (a + 1) s1 (by omega) (by omega);rw [e2];simp only [Option.bind_some];rw [if_neg (by omega),wrap64_id (x:=b * 256) (by omega) (by omega),wrap64_id (x:=b * 256 + b2) (by omega) (by omega)];have:=tmod_in (b * 256 + b2) n (by omega) (by omega);exact ⟨_,_,_,rfl,by omega,by omega,this.1,fun _ => this.2,fun h => by omega⟩
    · rw [if_neg h2,if_neg (by omega)]
      have:=tmod_in b n b0 (by omega);exact ⟨_,_,_,rfl,by omega,by omega,this.1,fun _ => this.2,fun h => by omega⟩
theorem one_ok {c : List Int} (hc : Code c) (a s n : Int) (h0 : 0 ≤ a) (h1 : a ≤ 4611686018427387000) : ∃ b a' s',spec_l1Cur_one.f c a s n = some (b,a',s') ∧ a ≤ a' ∧ a' ≤ a + 2:=by
  obtain ⟨v,a',s',e,h2,h3,_⟩:=pick_ok hc a s n h0 h1;unfold spec_l1Cur_one.f;rw [e];exact ⟨_,_,_,rfl,h2,h3⟩
theorem among_ok {c : List Int} (hc : Code c) (a s : Int) (l : List Int) (hl : 0 < l.length) (h0 : 0 ≤ a) (h1 : a ≤ 4611686018427387000) : ∃ v a' s',spec_l1Cur_among.f c a s l = some (v,a',s') ∧ a ≤ a' ∧ a' ≤ a + 2 ∧ v ∈ l:=by
  obtain ⟨v,a',s',e,h2,h3,h4,h5,h6⟩:=pick_ok hc a s (l.length : Int) h0 h1
  have hv : v < (l.length : Int):=by
    by_cases h : (1 : Int) < l.length
    · exact h5 h
    · have:=h6 (by omega)
      omega
  unfold spec_l1Cur_among.f;rw [e];simp only [Option.bind_some];rw [if_pos h4,if_pos hv];refine ⟨_,_,_,rfl,h2,h3,?_⟩;unfold rd;exact getD_mem l _ _ (by omega)
end Go.Proofs.YtdihodboopeakaaDoor.Pure
/-
Own text: a drawn board and wish are small.
-/
namespace Go.Proofs.YtdihodboopeakaaDoor.Pure
open Go.RowKit Go.Proofs.YtdihodboopeakaaDoorW.PrintWords Go.Proofs.YtdihodboopeakaaDoorW.PrintLast Go.Proofs.YtdihodboopeakaaDoor.Pr Go.Proofs.YtdihodboopeakaaDoor.EvKit
open Classical
set_option linter.unusedVariables false
theorem of_ok {c : List Int} (hc : Code c) (a s : Int) (l : List ByteArray) (hl : 0 < l.length) (h0 : 0 ≤ a) (h1 : a ≤ 4611686018427387000) : ∃ v a' s',spec_l1Cur_of.f c a s l = some (v,a',s') ∧ a ≤ a' ∧ a' ≤ a + 2 ∧ v ∈ l:=by
  obtain ⟨v,a',s',e,h2,h3,h4,h5,h6⟩:=pick_ok hc a s (l.length : Int) h0 h1
  have hv : v < (l.length : Int):=by
    by_cases h : (1 : Int) < l.length
    · exact h5 h
    · have:=h6 (by omega)
      omega
  unfold spec_l1Cur_of.f;rw [e];simp only [Option.bind_some];rw [if_pos h4,if_pos hv];refine ⟨_,_,_,rfl,h2,h3,?_⟩;unfold rdOf;exact getD_mem l _ _ (by omega)
theorem name_ok {c : List Int} (hc : Code c) (a s : Int) (h0 : 0 ≤ a) (h1 : a ≤ 4611686018427387000) : ∃ v a' s',spec_l1Cur_name.f c a s = some (v,a',s') ∧ a ≤ a' ∧ a' ≤ a + 2 ∧ v.size ≤ 60:=by
  unfold spec_l1Cur_name.f;obtain ⟨v,a',s',e,h2,h3,h4⟩:=of_ok hc a s [(⟨#[100,111,99,107]⟩ : ByteArray),(⟨#[104,97,108,108]⟩ : ByteArray),(⟨#[112,105,116]⟩ : ByteArray),(⟨#[108,97,98]⟩ : ByteArray),(⟨#[84,195,188,114]⟩ : ByteArray),(⟨#[206,182]⟩ : ByteArray),(⟨#[208,188,208,190,209,129,209,130]⟩ : ByteArray),(⟨#[97]⟩ : ByteArray),(⟨#[230,151,165,230,156,172]⟩ : ByteArray),(⟨#[97,98,99,100,101,102,103,104,105,106,107,108]⟩ : ByteArray),(⟨#[108,105,102,116]⟩ : ByteArray)] (by decide) h0 h1;rw [e];refine ⟨_,_,_,rfl,h2,h3,?_⟩
  revert h4
  generalize hL : ([(⟨#[100,111,99,107]⟩ : ByteArray),(⟨#[104,97,108,108]⟩ : ByteArray),(⟨#[112,105,116]⟩ : ByteArray),(⟨#[108,97,98]⟩ : ByteArray),(⟨#[84,195,188,114]⟩ : ByteArray),(⟨#[206,182]⟩ : ByteArray),(⟨#[208,188,208,190,209,129,209,130]⟩ : ByteArray),(⟨#[97]⟩ : ByteArray),(⟨#[230,151,165,230,156,172]⟩ : ByteArray),(⟨#[97,98,99,100,101,102,103,104,105,106,107,108]⟩ : ByteArray),(⟨#[108,105,102,116]⟩ : ByteArray)] : List ByteArray) = L;intro h4;(have hall : L.all (fun x => decide (x.size ≤ 60)) = true:=by rw [← hL];decide);exact of_decide_eq_true (List.all_eq_true.1 hall _ h4)
theorem names_l0 {c : List Int} (hc : Code c) (d : Nat) : ∀ (n : Nat) (l : List ByteArray) (a s : Int),n = d → 0 ≤ a → a + 10 * n ≤ 4611686018427380000 → l.length + n ≤ 100 → d ≤ 100 → (∀ x ∈ l,x.size ≤ 60) →
    ∃ r a' s',Ev (fun k => spec_l1Cur_names.l0 k l n c a s) (r,a',s') ∧ a ≤ a' ∧ a' ≤ a + 4 * n + 4 ∧ r.length ≤ l.length + n + 6 ∧ ∀ x ∈ r,x.size ≤ 60:=by
  induction d with
  | zero =>
    intro n l a s hn h0 h1 hl _ hx;subst hn;obtain ⟨v,a1,s1,e1,g1,g2,g3,_⟩:=pick_ok hc a s 30 h0 (by omega);by_cases c0 : v = 0
    · obtain ⟨w,a2,s2,e2,f1,f2,f3⟩:=of_ok hc a1 s1 [(⟨#[]⟩ : ByteArray),(⟨#[97,32,98]⟩ : ByteArray),(⟨#[97,98,99,100,101,102,103,104,105,106,107,108,109]⟩ : ByteArray),(⟨#[120,49]⟩ : ByteArray),(⟨#[114,101,97,99,104]⟩ : ByteArray),(⟨#[97,118,111,105,100]⟩ : ByteArray),(⟨#[255]⟩ : ByteArray),(⟨#[206,182,206,182,206,182,206,182,206,182,206,182,206,182,206,182,206,182,206,182,206,182,206,182]⟩ : ByteArray),(⟨#[206,182,206,182,206,182,206,182,206,182,206,182,206,182,206,182,206,182,206,182,206,182,206,182,206,182]⟩ : ByteArray)] (by decide) (by omega) (by omega)
      have hw : w.size ≤ 60:=by
        revert f3
        generalize hL : ([(⟨#[]⟩ : ByteArray),(⟨#[97,32,98]⟩ : ByteArray),(⟨#[97,98,99,100,101,102,103,104,105,106,107,108,109]⟩ : ByteArray),(⟨#[120,49]⟩ : ByteArray),(⟨#[114,101,97,99,104]⟩ : ByteArray),(⟨#[97,118,111,105,100]⟩ : ByteArray),(⟨#[255]⟩ : ByteArray),(⟨#[206,182,206,182,206,182,206,182,206,182,206,182,206,182,206,182,206,182,206,182,206,182,206,182]⟩ : ByteArray),(⟨#[206,182,206,182,206,182,206,182,206,182,206,182,206,182,206,182,206,182,206,182,206,182,206,182,206,182]⟩ : ByteArray)] : List ByteArray) = L;intro f3;(have hall : L.all (fun x => decide (x.size ≤ 60)) = true:=by rw [← hL];decide);exact of_decide_eq_true (List.all_eq_true.1 hall _ f3)
      refine ⟨l ++ [w],a2,s2,Ev.succ ?_,by omega,by omega,by simp,?_⟩
      · simp only [spec_l1Cur_names.l0,show ¬ (((0 : Nat) : Int) > 0) by omega,if_false,e1,Option.bind_some,c0,if_true,e2,show l.length < 8796093022208 by omega]
        exact Ev.some rfl
      · intro x hx'
        rcases List.mem_append.1 hx' with h | h
        · exact hx x h
        · rw [List.mem_singleton.1 h];exact hw
    · by_cases c1 : v = 1
      · refine ⟨l ++ [(⟨#[112]⟩ : ByteArray),(⟨#[113]⟩ : ByteArray),(⟨#[114]⟩ : ByteArray),(⟨#[115]⟩ : ByteArray),(⟨#[116]⟩ : ByteArray),(⟨#[117]⟩ : ByteArray)],a1,s1,Ev.succ ?_,by omega,by omega,by simp,?_⟩
        · have hne : ¬ ((1 : Int) = 0):=by decide
          simp only [spec_l1Cur_names.l0,show ¬ (((0 : Nat) : Int) > 0) by omega,if_false,e1,Option.bind_some,c1,hne,if_true,List.length_cons,List.length_nil,show l.length + (0 + 1 + 1 + 1 + 1 + 1 + 1) < 8796093022208 by omega];exact Ev.some rfl
        · intro x hx'
          rcases List.mem_append.1 hx' with h | h
          · exact hx x h
          · have hall : [(⟨#[112]⟩ : ByteArray),(⟨#[113]⟩ : ByteArray),(⟨#[114]⟩ : ByteArray),(⟨#[115]⟩ : ByteArray),(⟨#[116]⟩ : ByteArray),(⟨#[117]⟩ : ByteArray)].all (fun x => decide (x.size ≤ 60)) = true:=by decide
            exact of_decide_eq_true (List.all_eq_true.1 hall _ h)
      · refine ⟨l,a1,s1,Ev.succ ?_,by omega,by omega,by omega,hx⟩
        simp only [spec_l1Cur_names.l0,show ¬ (((0 : Nat) : Int) > 0) by omega,if_false,e1,Option.bind_some,c0,c1];exact Ev.some rfl
  | succ d ih =>
    intro n l a s hn h0 h1 hl hd hx;obtain ⟨v,a1,s1,e1,g1,g2,g3⟩:=name_ok hc a s h0 (by omega);(have hw : wrap64 ((n : Int) - 1) = ((n - 1 : Nat) : Int):=by rw [wrap64_id (by omega) (by omega)];omega)
    have hin : ∀ x ∈ l ++ [v],x.size ≤ 60:=by
      intro x hx'
      rcases List.mem_append.1 hx' with h | h
      · exact hx x h
      · rw [List.mem_singleton.1 h];exact g3
    (have hlen : l.length < 8796093022208:=by omega);by_cases c1 : v ∈ l
    · obtain ⟨b,a2,s2,e2,f1,f2⟩:=one_ok hc a1 s1 16 (by omega) (by omega)
      cases b
      · obtain ⟨r,a',s',he,k1,k2,k3,k4⟩:=ih (n - 1) l a2 s2 (by omega) (by omega) (by omega) (by omega) (by omega) hx
        refine ⟨r,a',s',Ev.succ ?_,by omega,by omega,by omega,k4⟩;simp only [spec_l1Cur_names.l0,show ((n : Int) > 0) by omega,if_true,e1,Option.bind_some,hw];refine Ev.bnd (l22In_ev l v (by omega)) (Ev.pos (decide_eq_true c1) ?_);simp only [e2,Option.bind_some,Bool.false_eq_true,if_false];exact he
      · obtain ⟨r,a',s',he,k1,k2,k3,k4⟩:=ih (n - 1) (l ++ [v]) a2 s2 (by omega) (by omega) (by omega) (by simp;omega) (by omega) hin
        refine ⟨r,a',s',Ev.succ ?_,by omega,by omega,by simp at k3;omega,k4⟩;simp only [spec_l1Cur_names.l0,show ((n : Int) > 0) by omega,if_true,e1,Option.bind_some,hw,hlen];refine Ev.bnd (l22In_ev l v (by omega)) (Ev.pos (decide_eq_true c1) ?_);simp only [e2,Option.bind_some,if_true];exact he
    · obtain ⟨r,a',s',he,k1,k2,k3,k4⟩:=ih (n - 1) (l ++ [v]) a1 s1 (by omega) (by omega) (by omega) (by simp;omega) (by omega) hin
      refine ⟨r,a',s',Ev.succ ?_,by omega,by omega,by simp at k3;omega,k4⟩;simp only [spec_l1Cur_names.l0,show ((n : Int) > 0) by omega,if_true,e1,Option.bind_some,hw,hlen];exact Ev.bnd (l22In_ev l v (by omega)) (Ev.neg (by simpa using c1) he)
theorem names_ok {c : List Int} (hc : Code c) (a s : Int) (h0 : 0 ≤ a) (h1 : a ≤ 4611686018427370000) : ∃ r a' s',Ev (fun k => spec_l1Cur_names.f k c a s) (r,a',s') ∧ a ≤ a' ∧ a' ≤ a + 30 ∧ r.length ≤ 20 ∧ ∀ x ∈ r,x.size ≤ 60:=by
  obtain ⟨v,a1,s1,e1,g1,g2,g3,g4,_⟩:=pick_ok hc a s 4 h0 (by omega);have:=g4 (by omega);obtain ⟨r,a',s',he,k1,k2,k3,k4⟩:=names_l0 hc v.toNat v.toNat [] a1 s1 rfl (by omega) (by omega) (by simp;omega) (by omega) (by intro x hx;cases hx);refine ⟨r,a',s',?_,by omega,by omega,by simp at k3;omega,k4⟩;unfold spec_l1Cur_names.f;simp only [e1,Option.bind_some]
  rwa [Int.toNat_of_nonneg g3] at he
theorem wish_ok {c : List Int} (hc : Code c) (a s : Int) (h0 : 0 ≤ a) (h1 : a ≤ 4611686018427360000) : ∃ r q a' s',Ev (fun k => spec_l1Cur_wish.f k c a s) (r,q,a',s') ∧ SmallW r q:=by
  obtain ⟨r,a1,s1,e1,g1,g2,g3,g4⟩:=names_ok hc a s h0 (by omega);obtain ⟨q,a2,s2,e2,f1,f2,f3,f4⟩:=names_ok hc a1 s1 (by omega) (by omega);refine ⟨r,q,a2,s2,?_,⟨by omega,fun x hx => by have:=g4 x hx;omega,by omega,fun x hx => by have:=f4 x hx;omega⟩⟩;unfold spec_l1Cur_wish.f;exact Ev.bnd e1 (Ev.bnd e2 (Ev.some rfl))
/-! A board -/
/-- What a drawn board is while it is made. -/
structure Made (names : List ByteArray) (mine : List Bool) (next : List (List Int)) (i : Nat) : Prop where
  n1 : names.length = i
  n2 : ∀ x ∈ names,x.size ≤ 60
  m1 : mine.length = i
  x1 : next.length = i
  x2 : ∀ x ∈ next,x.length ≤ 100
theorem Made.small {names : List ByteArray} {mine : List Bool} {next : List (List Int)} {i : Nat} (h : Made names mine next i) (hi : i ≤ 100) : Small names mine next:=
  ⟨by have:=h.n1;omega,fun x hx => by have:=h.n2 x hx;omega,by have:=h.m1;omega,by have:=h.x1;omega,fun x hx => by have:=h.x2 x hx;omega⟩
theorem two_le (u : Int) : ([u,0] : List Int).length ≤ 1048576:=by simp only [List.length_cons,List.length_nil];omega
theorem xy_le : (⟨#[120,32,121]⟩ : ByteArray).size ≤ 1048576:=by have : (⟨#[120,32,121]⟩ : ByteArray).size = 3:=rfl;omega
theorem mem_set_le {α : Type} (P : α → Prop) (l : List α) (i : Nat) (v : α) (hl : ∀ x ∈ l,P x) (hv : P v) : ∀ x ∈ l.set i v,P x:=by
  intro x hx
  rcases List.mem_or_eq_of_mem_set hx with h | h
  · exact hl x h
  · rw [h];exact hv
theorem dboard_l0 {c : List Int} (hc : Code c) (n : Nat) (hn : n ≤ 15) (d : Nat) : ∀ (i : Nat) (a s : Int) (names : List ByteArray) (mine : List Bool) (next : List (List Int)),i + d = n → 0 ≤ a → a ≤ 4611686018427300000 - 100 * d → Made names mine next i →
    ∃ names' mine' next' a' s',Ev (fun k => spec_l1Cur_board.l0 k n i c a s names mine next) (names',mine',next',a',s') ∧ a ≤ a' ∧ a' ≤ a + 100 * d + 10 ∧ Small names' mine' next':=by
  induction d with
  | zero =>
    intro i a s names mine next hi h0 h1 hm;obtain ⟨v,a1,s1,e1,g1,g2,g3,_⟩:=pick_ok hc a s 30 h0 (by omega);have hs:=hm.small (by omega);have l1:=hm.n1;have l2:=hm.m1;have l3:=hm.x1;(have hnl : ¬ ((i : Int) < (n : Int)):=by omega);by_cases c0 : v = 0
    · refine ⟨names,mine ++ [true],next,a1,s1,Ev.succ ?_,by omega,by omega,⟨hs.n1,hs.n2,by simp;omega,hs.x1,hs.x2⟩⟩
      simp only [spec_l1Cur_board.l0,hnl,if_false,e1,Option.bind_some,c0,if_true,show mine.length < 140737488355328 by omega];exact Ev.some rfl
    · by_cases c1 : v = 1
      · by_cases c2 : (n : Int) > 0
        · obtain ⟨u,a2,s2,e2,f1,f2,f3,_⟩:=pick_ok hc a1 s1 ((n : Int) + 1) (by omega) (by omega)
          have hw : wrap64 ((n : Int) + 1) = (n : Int) + 1:=wrap64_id (by omega) (by omega);refine ⟨names,mine,next.set 0 [u,0],a2,s2,Ev.succ ?_,by omega,by omega,⟨hs.n1,hs.n2,hs.m1,by rw [List.length_set];exact hs.x1,mem_set_le (fun x : List Int => x.length ≤ 1048576) next 0 [u,0] hs.x2 (two_le u)⟩⟩;(have hne : ¬ ((1 : Int) = 0):=by decide);simp only [spec_l1Cur_board.l0,hnl,if_false,e1,Option.bind_some,c1,hne,if_true,c2,hw,e2,show (0 : Int) < (next.length : Int) by rw [l3.trans hi];exact c2];exact Ev.some rfl
        · refine ⟨names,mine,next,a1,s1,Ev.succ ?_,by omega,by omega,hs⟩
          (have hne : ¬ ((1 : Int) = 0):=by decide);simp only [spec_l1Cur_board.l0,hnl,if_false,e1,Option.bind_some,c1,hne,if_true,c2];exact Ev.some rfl
      · by_cases c3 : v = 2
        · by_cases c2 : (n : Int) > 0
          · refine ⟨names.set 0 (⟨#[120,32,121]⟩ : ByteArray),mine,next,a1,s1,Ev.succ ?_,by omega,by omega,⟨by simp;exact hs.n1,mem_set_le (fun x : ByteArray => x.size ≤ 1048576) _ _ _ hs.n2 xy_le,hs.m1,hs.x1,hs.x2⟩⟩
            (have hne : ¬ ((2 : Int) = 0):=by decide);(have hne' : ¬ ((2 : Int) = 1):=by decide);simp only [spec_l1Cur_board.l0,hnl,if_false,e1,Option.bind_some,c3,hne,hne',if_true,c2,show (0 : Int) < (names.length : Int) by rw [l1.trans hi];exact c2];exact Ev.some rfl
          · refine ⟨names,mine,next,a1,s1,Ev.succ ?_,by omega,by omega,hs⟩
            (have hne : ¬ ((2 : Int) = 0):=by decide);(have hne' : ¬ ((2 : Int) = 1):=by decide);simp only [spec_l1Cur_board.l0,hnl,if_false,e1,Option.bind_some,c3,hne,hne',if_true,c2];exact Ev.some rfl
        · refine ⟨names,mine,next,a1,s1,Ev.succ ?_,by omega,by omega,hs⟩
          simp only [spec_l1Cur_board.l0,hnl,if_false,e1,Option.bind_some,c0,c1,c3];exact Ev.some rfl
  | succ d ih =>
    intro i a s names mine next hi h0 h1 hm;have l1:=hm.n1;have l2:=hm.m1;have l3:=hm.x1
    have row (nm_ : ByteArray) (hnm : nm_.size ≤ 60) (d' : Nat) : ∀ (j : Nat) (r : List Int) (a1 s1 : Int),j + d' = n → r.length ≤ j → a ≤ a1 → a1 ≤ a + 10 + 2 * j →
        ∃ names' mine' next' a' s',Ev (fun k => spec_l1Cur_board.l1 k n i nm_ r j c a1 s1 names mine next) (names',mine',next',a',s') ∧ a ≤ a' ∧ a' ≤ a + 100 * ((d + 1 : Nat) : Int) + 10 ∧ Small names' mine' next':=by
      induction d' with
      | zero =>
        intro j r a1 s1 hj hr q0 q1;obtain ⟨b,a2,s2,e2,f1,f2⟩:=one_ok hc a1 s1 2 (by omega) (by omega)
        have hm' : Made (names ++ [nm_]) (mine ++ [b]) (next ++ [r]) (i + 1):=by
          refine ⟨by simp;omega,?_,by simp;omega,by simp;omega,?_⟩
          · intro x hx
            rcases List.mem_append.1 hx with h | h
            · exact hm.n2 x h
            · rw [List.mem_singleton.1 h];exact hnm
          · intro x hx
            rcases List.mem_append.1 hx with h | h
            · exact hm.x2 x h
            · rw [List.mem_singleton.1 h];omega
        obtain ⟨names',mine',next',a',s',he,k1,k2,k3⟩:=ih (i + 1) a2 s2 _ _ _ (by omega) (by omega) (by omega) hm';refine ⟨names',mine',next',a',s',Ev.succ ?_,by omega,by omega,k3⟩;simp only [spec_l1Cur_board.l1,show ¬ ((j : Int) < (n : Int)) by omega,if_false,show names.length < 8796093022208 by omega,show mine.length < 140737488355328 by omega,show next.length < 5864062014805 by omega,if_true,e2,Option.bind_some,succ_w2 i (by omega)];exact he
      | succ d' ih' =>
        intro j r a1 s1 hj hr q0 q1;obtain ⟨b,a2,s2,e2,f1,f2⟩:=one_ok hc a1 s1 3 (by omega) (by omega)
        cases b
        · obtain ⟨names',mine',next',a',s',he,k1,k2,k3⟩:=ih' (j + 1) r a2 s2 (by omega) (by omega) (by omega) (by omega)
          refine ⟨names',mine',next',a',s',Ev.succ ?_,k1,k2,k3⟩;simp only [spec_l1Cur_board.l1,show ((j : Int) < (n : Int)) by omega,if_true,e2,Option.bind_some,Bool.false_eq_true,if_false,succ_w2 j (by omega)];exact he
        · obtain ⟨names',mine',next',a',s',he,k1,k2,k3⟩:=ih' (j + 1) (r ++ [(j : Int)]) a2 s2 (by omega) (by simp;omega) (by omega) (by omega)
          refine ⟨names',mine',next',a',s',Ev.succ ?_,k1,k2,k3⟩;simp only [spec_l1Cur_board.l1,show ((j : Int) < (n : Int)) by omega,if_true,e2,Option.bind_some,show r.length < 17592186044416 by omega,succ_w2 j (by omega)];exact he
    obtain ⟨b,a1,s1,e1,g1,g2⟩:=one_ok hc a s 2 h0 (by omega)
    cases b
    · obtain ⟨names',mine',next',a',s',he,k1,k2,k3⟩:=row ⟨#[]⟩ (by decide) n 0 [] a1 s1 (by omega) (by simp) (by omega) (by omega)
      refine ⟨names',mine',next',a',s',Ev.succ ?_,k1,k2,k3⟩;simp only [spec_l1Cur_board.l0,show ((i : Int) < (n : Int)) by omega,if_true,e1,Option.bind_some,Bool.false_eq_true,if_false];apply Ev.succ;simp only [spec_l1Cur_board.j2];exact he
    · obtain ⟨v,a2,s2,e2,f1,f2,f3⟩:=name_ok hc a1 s1 (by omega) (by omega)
      obtain ⟨names',mine',next',a',s',he,k1,k2,k3⟩:=row v f3 n 0 [] a2 s2 (by omega) (by simp) (by omega) (by omega);refine ⟨names',mine',next',a',s',Ev.succ ?_,k1,k2,k3⟩;simp only [spec_l1Cur_board.l0,show ((i : Int) < (n : Int)) by omega,if_true,e1,Option.bind_some,e2];apply Ev.succ;simp only [spec_l1Cur_board.j2];exact he
theorem board_ok {c : List Int} (hc : Code c) : ∃ names mine next a' s',Ev (fun k => spec_l1Cur_board.f k c 0 0) (names,mine,next,a',s') ∧ 0 ≤ a' ∧ a' ≤ 10000 ∧ Small names mine next:=by
  obtain ⟨v,a1,s1,e1,g1,g2,g3,g4,_⟩:=pick_ok hc 0 0 8 (by omega) (by omega);have:=g4 (by omega);obtain ⟨b,a2,s2,e2,f1,f2⟩:=one_ok hc a1 s1 16 (by omega) (by omega)
  have start (n : Nat) (hn : n ≤ 15) (a s : Int) (h0 : 0 ≤ a) (h1 : a ≤ 100) : ∃ names mine next a' s',Ev (fun k => spec_l1Cur_board.j0 k n c a s) (names,mine,next,a',s') ∧ 0 ≤ a' ∧ a' ≤ 10000 ∧ Small names mine next:=by
    obtain ⟨names,mine,next,a',s',he,k1,k2,k3⟩:=dboard_l0 hc n hn n 0 a s [] [] [] (by omega) h0 (by omega) ⟨rfl,by simp,rfl,rfl,by simp⟩;refine ⟨names,mine,next,a',s',Ev.succ ?_,by omega,by omega,k3⟩;simp only [spec_l1Cur_board.j0];exact he
  unfold spec_l1Cur_board.f;simp only [e1,e2,Option.bind_some]
  cases b
  · have hw : wrap64 (1 + v) = ((1 + v).toNat : Int):=by rw [wrap64_id (by omega) (by omega)];omega
    simp only [Bool.false_eq_true,if_false,hw];exact start _ (by omega) a2 s2 (by omega) (by omega)
  · obtain ⟨u,a3,s3,e3,q1,q2,q3⟩:=among_ok hc a2 s2 [0,14,15] (by decide) (by omega) (by omega)
    simp only [if_true,e3,Option.bind_some]
    have hu : ∃ n : Nat,n ≤ 15 ∧ u = (n : Int):=by
      simp only [List.mem_cons,List.mem_nil_iff,or_false] at q3;exact ⟨u.toNat,by omega,by omega⟩
    obtain ⟨n,hn,rfl⟩:=hu;exact start n hn a3 s3 (by omega) (by omega)
theorem draw_ok {c : List Int} (hc : Code c) : ∃ names mine next reach avoid,Ev (fun k => spec_DrawStrategy.f k c) (names,mine,next,reach,avoid) ∧ Small names mine next ∧ SmallW reach avoid:=by
  obtain ⟨names,mine,next,a,s,e,h0,h1,h2⟩:=board_ok hc;obtain ⟨r,q,a',s',e',h3⟩:=wish_ok hc a s h0 (by omega);refine ⟨names,mine,next,r,q,?_,h2,h3⟩;unfold spec_DrawStrategy.f spec_DrawWinningPlaces.f;exact Ev.bnd (Ev.bnd e (Ev.bnd e' (Ev.some rfl))) (Ev.some rfl)
theorem choices_l0 {c : List Int} (hc : Code c) (d : Nat) : ∀ (l : List Int) (a s : Int),l.length + d = 20 → 0 ≤ a → a ≤ 100 * (l.length : Int) → (∀ t ∈ l,0 ≤ t) → ∃ r : List Int,Ev (fun k => spec_SomeChoices.l0 k 20 l c a s) r ∧ r.length = 20 ∧ ∀ t ∈ r,0 ≤ t:=by
  induction d with
  | zero =>
    intro l a s hl h0 h1 ht;refine ⟨l,Ev.succ ?_,hl,ht⟩;simp only [spec_SomeChoices.l0,show ¬ ((l.length : Int) < 20) by omega,if_false];exact Ev.some rfl
  | succ d ih =>
    intro l a s hl h0 h1 ht;obtain ⟨v,a1,s1,e1,g1,g2,g3,_⟩:=pick_ok hc a s 14 h0 (by omega)
    obtain ⟨r,he,k1,k2⟩:=ih (l ++ [v]) a1 s1 (by simp;omega) (by omega) (by simp;omega) (by
      intro t h
      rcases List.mem_append.1 h with h | h
      · exact ht t h
      · rw [List.mem_singleton.1 h];exact g3)
    refine ⟨r,Ev.succ ?_,k1,k2⟩;simp only [spec_SomeChoices.l0,show ((l.length : Int) < 20) by omega,if_true,e1,Option.bind_some,show l.length < 17592186044416 by omega];exact he
theorem choices_ok {c : List Int} (hc : Code c) : ∃ r : List Int,Ev (fun k => spec_SomeChoices.f k c 20) r ∧ r.length = 20 ∧ ∀ t ∈ r,0 ≤ t:=by
  unfold spec_SomeChoices.f;exact choices_l0 hc 20 [] 0 0 rfl (by omega) (by simp) (by simp)
end Go.Proofs.YtdihodboopeakaaDoor.Pure
/- THE LAW FnWin, as a statement over numbers and lists: proved here. No condition. -/
namespace Go.Proofs.YtdihodboopeakaaDoor.Pure
open Go.RowKit Go.Proofs.YtdihodboopeakaaDoorW.PrintWords Go.Proofs.YtdihodboopeakaaDoorW.PrintLast Go.Proofs.YtdihodboopeakaaDoor.Pr Go.Proofs.YtdihodboopeakaaDoor.EvKit
open Classical
set_option linter.unusedVariables false
theorem sameInts_l0 (l : List Int) (hl : l.length ≤ 1048576) (d : Nat) : ∀ i : Nat,i + d = l.length → Ev (fun k => spec_SameInts.l0 k l l l.length i) true:=by
  induction d with
  | zero =>
    intro i hi;apply Ev.succ;simp only [spec_SameInts.l0,show ¬ ((i : Int) < (l.length : Int)) by omega,if_false];exact Ev.some rfl
  | succ d ih =>
    intro i hi;apply Ev.succ;simp only [spec_SameInts.l0,show ((i : Int) < (l.length : Int)) by omega,show (0 : Int) ≤ (i : Int) by omega,if_true,succ_w2 i (by omega)];exact ih (i + 1) (by omega)
theorem sameInts_ev (l : List Int) (hl : l.length ≤ 1048576) : Ev (fun k => spec_SameInts.f k l l) true:=by
  simp only [spec_SameInts.f,if_true];exact sameInts_l0 l hl l.length 0 (by omega)
section
variable (names : List ByteArray) (mine : List Bool) (next : List (List Int)) (reach avoid : List ByteArray) (hb : Small names mine next) (hw : SmallW reach avoid)
variable (hg : Good names mine next) (hok : WishOk reach avoid)
include hb hw hg hok
theorem win_l0 (ts : List Int) (ht : ∀ t ∈ ts,0 ≤ t) (h20 : ts.length = 20) (L : List Int) (hL : ∀ q ∈ L,∃ p : Nat,q = (p : Int) ∧ p < names.length ∧ 0 ≤ rd (ranks names mine next reach avoid) (p : Int)) (hl : L.length ≤ 1048576) (d : Nat) : ∀ i : Nat,i + d = L.length →
    Ev (fun k => laws_FnWin.l0 k (planTo names mine next reach avoid (ranks names mine next reach avoid) names.length) true ts L L.length i names mine next reach avoid) true:=by
  induction d with
  | zero =>
    intro i hi;apply Ev.succ;simp only [laws_FnWin.l0,show ¬ ((i : Int) < (L.length : Int)) by omega,if_false];exact Ev.some rfl
  | succ d ih =>
    intro i hi;apply Ev.succ;have e : rd L (i : Int) = L.getD i 0:=rfl;obtain ⟨p,hp,hpn,h0⟩:=hL (L.getD i 0) (getD_mem L i 0 (by omega));simp only [laws_FnWin.l0,show ((i : Int) < (L.length : Int)) by omega,show (0 : Int) ≤ (i : Int) by omega,if_true,e,hp];obtain ⟨path,e1,e2,e3⟩:=win_met names mine next reach avoid hg hok ts ht h20 p hpn h0;have a:=(play_both names mine next (planTo names mine next reach avoid (ranks names mine next reach avoid) names.length) (p : Int) ts hb).1;rw [e1] at a;have b:=(wishMet_both names mine next reach avoid path hb hw).2;rw [e2] at b;refine Ev.bnd a ?_;apply Ev.succ;simp only [laws_FnWin.j3,Bool.not_true,Bool.false_eq_true,if_false];refine Ev.bnd b (Ev.pos rfl (Ev.pos rfl ?_));rw [succ_w2 i (by omega)];exact ih (i + 1) (by omega)
end
theorem FnWin : ∀ (l0 : List Int) (l1 : List Int),(l0.length ≤ maxLen ∧ l0.length * 1 ≤ 140737488351232 ∧ ∀ y0 ∈ l0,(Lit.int .u8 y0).wf = true) → (l1.length ≤ maxLen ∧ l1.length * 1 ≤ 140737488351232 ∧ ∀ y0 ∈ l1,(Lit.int .u8 y0).wf = true) → ∃ k,laws_FnWin.f k l0 l1 = some true:=by
  rintro c m ⟨_,_,q0⟩ ⟨_,_,q1⟩;apply Ev.rounds;simp only [laws_FnWin.f]
  have yes (x : Bool) (hx : x = true) : Ev (fun k => laws_FnWin.j0 k c m x) true:=by
    subst hx;apply Ev.succ;simp only [laws_FnWin.j0,if_true];exact Ev.some rfl
  refine Ev.ite (fun _ => yes _ rfl) (fun h1 => ?_);by_cases h2 : (m.length : Int) > 1048576
  · exact yes _ (decide_eq_true h2)
  rw [decide_eq_false h2]
  have hC : Code c:=⟨by omega,fun y hy => by
    have:=q0 y hy
    simp [Lit.wf,IntKind.min,IntKind.max,IntKind.bits,IntKind.signed] at this
    omega⟩
  have hM : Code m:=⟨by omega,fun y hy => by
    have:=q1 y hy
    simp [Lit.wf,IntKind.min,IntKind.max,IntKind.bits,IntKind.signed] at this
    omega⟩
  apply Ev.succ;simp only [laws_FnWin.j0,Bool.false_eq_true,if_false];obtain ⟨names,mine,next,reach,avoid,e,hb,hw⟩:=draw_ok hC;obtain ⟨a1,a2⟩:=winning_both names mine next reach avoid hb hw;obtain ⟨s1,_⟩:=strategy_both names mine next reach avoid hb hw;obtain ⟨ts,et,h20,ht⟩:=choices_ok hM;refine Ev.bnd e (Ev.bnd a1 (Ev.bnd a2 (Ev.neg (by simp) ?_)))
  have hlen : (winAll names mine next reach avoid).1.length ≤ 1048576:=by
    unfold winAll
    split
    · exact Nat.le_trans (placesTo_len _ _) hb.n1
    · exact Nat.zero_le _
  refine Ev.bnd (sameInts_ev _ hlen) ?_;apply Ev.succ;simp only [laws_FnWin.j1,Bool.not_true,Bool.false_eq_true,if_false];refine Ev.bnd s1 ?_;by_cases hg : Good names mine next ∧ WishOk reach avoid
  · have ew : winAll names mine next reach avoid = (placesTo (ranks names mine next reach avoid) names.length,true):=if_pos hg
    have ep : planAll names mine next reach avoid = (planTo names mine next reach avoid (ranks names mine next reach avoid) names.length,true):=if_pos hg;rw [ew] at hlen ⊢;rw [ep];refine Ev.pos rfl (Ev.bnd et ?_);refine win_l0 names mine next reach avoid hb hw hg.1 hg.2 ts ht h20 (placesTo (ranks names mine next reach avoid) names.length) ?_ hlen (placesTo (ranks names mine next reach avoid) names.length).length 0 (Nat.zero_add _);intro q hq;unfold placesTo at hq;obtain ⟨p,hp,rfl⟩:=List.mem_map.1 hq;obtain ⟨h3,h4⟩:=List.mem_filter.1 hp;exact ⟨p,rfl,List.mem_range.1 h3,by simpa using h4⟩
  · have ew : winAll names mine next reach avoid = ([],false):=if_neg hg
    have ep : planAll names mine next reach avoid = ([],false):=if_neg hg;rw [ew,ep];exact Ev.neg (by simp) (Ev.some rfl)
end Go.Proofs.YtdihodboopeakaaDoor.Pure
