-- Joined and pruned by wip/tools/prune.py out of this session's own texts (PurePlanS, PureCrowd, PureGood, PureMeet2, PureCur, PureDrawCells, PureDrawCrowd, PureFnCrowd)
import Derived.Test.YtcldlljnaijmhaaZfc20
import Derived.Laws.BitsLemmas
/-
Own text: the reference's path,in its own lists,is the plan.
-/
namespace Go.Proofs.Ytcldlljnaijmhaa.Pure
open Go.RowKit Go.Proofs.YtcldlljnaijmhaaW.PrintWords Go.Proofs.YtcldlljnaijmhaaW.PrintLast Go.Proofs.Ytcldlljnaijmhaa.Pr Go.Proofs.Ytcldlljnaijmhaa.EvKit
open Classical

theorem hits_ev (p : List Int) (k : Nat) (a b : Int) (hk : k < p.length) (h2 : p.length ≤ 1048576) : spec_l20Hits.f p k a b = some (decide (Hits p k a b)):=by
  have e : rd p (k : Int) = PA p k:=rfl;have hh : Hits p k a b ↔ (PA p k = b ∨ (0 < k ∧ PA p (k - 1) = b ∧ PA p k = a)):=Iff.rfl;simp only [spec_l20Hits.f,e,show (0 : Int) ≤ (k : Int) by omega,show (k : Int) < (p.length : Int) by omega,if_true];by_cases h1 : PA p k = b
  · rw [if_pos h1,decide_eq_true (hh.2 (.inl h1))]
  · rw [if_neg h1]
    by_cases h3 : k > 0
    · have e3 : rd p ((k : Int) - 1) = PA p (k - 1):=by
        unfold rd PA;rw [show ((k : Int) - 1).toNat = k - 1 by omega]
      rw [if_pos (by omega),wrap64_id (x:=(k : Int) - 1) (by omega) (by omega),if_pos (by omega),if_pos (by omega),e3];by_cases h4 : PA p (k - 1) = b
      · rw [if_pos h4]
        by_cases h5 : PA p k = a
        · rw [decide_eq_true (hh.2 (.inr ⟨h3,h4,h5⟩)),beq_iff_eq.2 h5]
        · rw [decide_eq_false (fun h => h5 ((hh.1 h).resolve_left h1).2.2),beq_eq_false_iff_ne.2 h5]
      · rw [if_neg h4,decide_eq_false (fun h => h4 ((hh.1 h).resolve_left h1).2.1)]
    · rw [if_neg (by omega),decide_eq_false (fun h => h3 ((hh.1 h).resolve_left h1).1)]
/-- All paths are as long as the plan. -/
def Len (P : List (List Int)) (m : Nat) : Prop:=∀ p ∈ P,p.length = m
theorem free_l0 (P : List (List Int)) (m : Nat) (hP : Len P m) (hm : m ≤ 1048576) (hn : P.length ≤ 1048576) (k : Nat) (hk : k < m) (a b : Int) (d : Nat) : ∀ i : Nat,i + d = P.length → Ev (fun q => spec_l20Free.l0 q k a b P (P.length : Int) i) (decide (May (P.drop i) k a b)):=by
  induction d with
  | zero =>
    intro i hi;apply Ev.succ;simp only [spec_l20Free.l0];rw [List.drop_eq_nil_of_le (by omega)];exact Ev.neg (by omega) (Ev.some (decide_eq_true (show May [] k a b from fun p hp => by cases hp)).symm)
  | succ d ih =>
    intro i hi
    have hdr : P.drop i = P.getD i [] :: P.drop (i + 1):=by
      rw [List.drop_eq_getElem_cons (show i < P.length by omega)]
      congr 1
      simp [List.getD_eq_getElem?_getD,List.getElem?_eq_getElem (show i < P.length by omega)]
    have e : rd_L1 P (i : Int) = P.getD i []:=rfl;have hm1:=getD_mem P i [] (show i < P.length by omega);have hl:=hP _ hm1;apply Ev.succ;simp only [spec_l20Free.l0,e,succ_w (show i < 35184372088833 by omega)];rw [hdr];refine Ev.pos (by omega) (Ev.pos (by omega) (Ev.pos (by omega) (Ev.bnd0 (hits_ev _ k a b (by omega) (by omega)) (Ev.ite (fun h => ?_) (fun h => ?_)))))
    · exact Ev.some (decide_eq_false (show ¬ May _ k a b from fun hh => hh _ (.head _) (by simpa using h))).symm
    · refine Ev.eq (ih (i + 1) (by omega)) ?_
      rw [decide_eq_decide]
      constructor
      · intro hh p hp
        rcases List.mem_cons.1 hp with rfl | hp
        · simpa using h
        · exact hh p hp
      · exact fun hh p hp => hh p (.tail _ hp)
theorem free_ev (P : List (List Int)) (m : Nat) (hP : Len P m) (hm : m ≤ 1048576) (hn : P.length ≤ 1048576) (k : Nat) (hk : k < m) (a b : Int) : Ev (fun q => spec_l20Free.f q P k a b) (decide (May P k a b)):=by
  simp only [spec_l20Free.f];have:=free_l0 P m hP hm hn k hk a b P.length 0 (by omega);exact this

theorem Gos_len' (w : Int) (c : List Int) (a : Int) : (Gos w c a).length ≤ 100:=by
  unfold Gos;refine Nat.le_trans (List.length_filter_le _ _) ?_
  simp
/-! ### the table of who comes there in time -/
section
variable {w : Int} {c : List Int} {P : List (List Int)} {S T : Int} {N e : Nat}
/-- A row of the table. -/
def RowIs (n : Nat) (row : List Bool) (C : Int → Prop) : Prop:=row.length = n ∧ ∀ x : Int,0 ≤ x → x < n → rdOf false row x = decide (C x)
theorem RowIs.set {n : Nat} {row : List Bool} {C C' : Int → Prop} (h : RowIs n row C) {x : Int} (h0 : 0 ≤ x) (b : Bool) (hb : b = decide (C' x)) (hC : ∀ y : Int,y ≠ x → (C y ↔ C' y)) : RowIs n (row.set x.toNat b) C':=by
  obtain ⟨hl,hr⟩:=h;refine ⟨by simp [hl],fun y hy0 hy1 => ?_⟩;by_cases e : y = x
  · subst e
    unfold rdOf;rw [List.getD_eq_getElem?_getD,List.getElem?_set_self (by omega)];exact hb
  · have h1:=hr y hy0 hy1
    rw [decide_eq_decide.2 (hC y e)] at h1;rw [← h1];unfold rdOf;rw [List.getD_eq_getElem?_getD,List.getD_eq_getElem?_getD,List.getElem?_set_ne (by omega)]
theorem RowIs.congr {n : Nat} {row : List Bool} {C C' : Int → Prop} (h : RowIs n row C) (hC : ∀ y : Int,0 ≤ y → y < n → (C y ↔ C' y)) : RowIs n row C':=⟨h.1,fun y h0 h1 => (h.2 y h0 h1).trans (decide_eq_decide.2 (hC y h0 h1))⟩
theorem RowIs.none (n : Nat) : RowIs n (List.replicate n false) (fun _ => False):=⟨by simp,fun x h0 h1 => by
  unfold rdOf
  rw [List.getD_eq_getElem?_getD,List.getElem?_replicate,if_pos (by omega)]
  simp⟩
theorem row_set (CL : List (List Bool)) (k j : Nat) (row : List Bool) (hk : k < CL.length) : rd_L5 (CL.set k row) (j : Int) = if j = k then row else rd_L5 CL (j : Int):=by
  unfold rd_L5;simp only [Int.toNat_natCast,List.getD_eq_getElem?_getD];by_cases e : j = k
  · subst e
    rw [List.getElem?_set_self hk,if_pos rfl]
    rfl
  · rw [List.getElem?_set_ne (Ne.symm e),if_neg e]
/-- The rows from k on stand; those ahead hold nothing. -/
def Tab (w : Int) (c : List Int) (P : List (List Int)) (T : Int) (e k : Nat) (CL : List (List Bool)) : Prop:=CL.length = e + 1 ∧ ∀ j,j ≤ e → RowIs c.length (rd_L5 CL (j : Int)) (fun x => k ≤ j ∧ reach w c P T (e - j) j x)
theorem path_l5 (hP : Len P (N + 1)) (hN : N ≤ 1000) (hPn : P.length ≤ 1048576) (he : e ≤ N) (r : List Int × Bool) (k i : Nat) (hk : k < e) (hi : i < c.length) (hn : c.length ≤ 256) (l : List Int) (hl : ∀ y ∈ l,Fr c y) (h100 : l.length ≤ 100) (d : Nat) :
    ∀ (j : Nat) (CL : List (List Bool)) (C0 : Int → Prop) (done : Prop),j + d = l.length → CL.length = e + 1 → RowIs c.length (rd_L5 CL (k : Int)) (fun x => C0 x ∨ (x = i ∧ done)) → ¬ C0 i → RowIs c.length (rd_L5 CL ((k + 1 : Nat) : Int)) (fun x => reach w c P T (e - (k + 1)) (k + 1) x) →
    (∀ CL' : List (List Bool),CL'.length = e + 1 → RowIs c.length (rd_L5 CL' (k : Int)) (fun x => C0 x ∨ (x = i ∧ (done ∨ ∃ y ∈ l.drop j,reach w c P T (e - (k + 1)) (k + 1) y ∧ May P (k + 1) i y))) → (∀ q : Nat,q ≠ k → rd_L5 CL' (q : Int) = rd_L5 CL (q : Int)) →
      Ev (fun m => spec_l20Path.l4 m P N c.length e CL' k ((i + 1 : Nat) : Int) w c S T) r) →
    Ev (fun m => spec_l20Path.l5 m P N c.length e CL k i l (l.length : Int) j w c S T) r:=by
  induction d with
  | zero =>
    intro j CL C0 done hj hlen hrow hC0 _ hNx;apply Ev.succ;simp only [spec_l20Path.l5,succ_w (show i < 35184372088833 by omega)];refine Ev.neg (by omega) (hNx CL hlen ?_ (fun _ _ => rfl));refine hrow.congr (fun y _ _ => ?_);rw [List.drop_eq_nil_of_le (by omega)]
    simp
  | succ d ih =>
    intro j CL C0 done hj hlen hrow hC0 hnext hNx
    have hdr : l.drop j = l.getD j 0 :: l.drop (j + 1):=by
      rw [List.drop_eq_getElem_cons (show j < l.length by omega)]
      congr 1
      simp [List.getD_eq_getElem?_getD,List.getElem?_eq_getElem (show j < l.length by omega)]
    have en : rd l (j : Int) = l.getD j 0:=rfl;have hfy:=hl _ (getD_mem l j 0 (by omega));rw [hdr] at hNx;generalize l.getD j 0 = y at hNx en hfy;have hk1 : wrap64 ((k : Int) + 1) = ((k + 1 : Nat) : Int):=succ_w (by omega)
    have hat : rdOf false (rd_L5 CL (k : Int)) (i : Int) = decide done:=by
      rw [hrow.2 i (by omega) (by omega),decide_eq_decide];exact ⟨fun h => h.elim (fun h => absurd h hC0) (fun h => h.2),fun h => .inr ⟨rfl,h⟩⟩
    have hy:=hnext.2 y hfy.1 hfy.2.1;have h1:=hfy.1;have h2:=hfy.2.1;(have hkl : k < CL.length:=by rw [hlen];exact Nat.lt_succ_of_lt hk)
    have step : ∀ (b : Bool) (done' : Prop),b = decide done' → (done' ↔ (done ∨ (reach w c P T (e - (k + 1)) (k + 1) y ∧ May P (k + 1) i y))) → Ev (fun m => spec_l20Path.l5 m P N c.length e (CL.set k ((rd_L5 CL (k : Int)).set i b)) k i l (l.length : Int) ((j + 1 : Nat) : Int) w c S T) r:=by
      intro b done' hb hd;(have hr : ∀ q : Nat,rd_L5 (CL.set k ((rd_L5 CL (k : Int)).set i b)) (q : Int) = if q = k then (rd_L5 CL (k : Int)).set i b else rd_L5 CL (q : Int):=fun q => row_set CL k q _ hkl);refine ih (j + 1) _ C0 done' (by omega) (by simp [hlen]) ?_ hC0 ?_ ?_
      · rw [hr k,if_pos rfl]
        have:=hrow.set (C':=fun x => C0 x ∨ (x = i ∧ done')) (x:=(i : Int)) (by omega) b (by rw [hb,decide_eq_decide];exact ⟨fun h => .inr ⟨rfl,h⟩,fun h => h.elim (fun h => absurd h hC0) (fun h => h.2)⟩) (fun z hz => ⟨fun h => h.elim .inl (fun h => absurd h.1 hz),fun h => h.elim .inl (fun h => absurd h.1 hz)⟩);rw [Int.toNat_natCast] at this;exact this
      · rw [hr (k + 1),if_neg (by omega)]
        exact hnext
      · intro CL' hlen' hrow' hoth
        refine hNx CL' hlen' ?_ (fun q hq => by rw [hoth q hq,hr q,if_neg hq]);refine hrow'.congr (fun z _ _ => ?_)
        constructor
        · rintro (h | ⟨h,h3⟩)
          · exact .inl h
          · refine .inr ⟨h,?_⟩
            rcases h3 with h3 | ⟨y',h4,h5⟩
            · rcases hd.1 h3 with h6 | h6
              · exact .inl h6
              · exact .inr ⟨y,.head _,h6⟩
            · exact .inr ⟨y',.tail _ h4,h5⟩
        · rintro (h | ⟨h,h3⟩)
          · exact .inl h
          · refine .inr ⟨h,?_⟩
            rcases h3 with h3 | ⟨y',h4,h5⟩
            · exact .inl (hd.2 (.inl h3))
            · rcases List.mem_cons.1 h4 with e' | h4
              · subst e'
                exact .inl (hd.2 (.inr h5))
              · exact .inr ⟨y',h4,h5⟩
    apply Ev.succ;simp only [spec_l20Path.l5,succ_w (show j < 35184372088833 by omega),en,hk1,hlen,hrow.1,hnext.1,Int.toNat_natCast,hat];have hN1 : N + 1 ≤ 1048576:=Nat.le_trans (Nat.succ_le_succ hN) (by decide);have hkN : k + 1 < N + 1:=Nat.succ_lt_succ (Nat.lt_of_lt_of_le hk he);have hke : ((k : Nat) : Int) < ((e + 1 : Nat) : Int):=Int.ofNat_lt.2 (Nat.lt_succ_of_lt hk);have hke2 : ((k + 1 : Nat) : Int) < ((e + 1 : Nat) : Int):=Int.ofNat_lt.2 (Nat.succ_lt_succ hk);refine Ev.pos (by omega) (Ev.pos (Int.natCast_nonneg _) (Ev.pos (by omega) (Ev.pos (Int.natCast_nonneg _) (Ev.pos hke (Ev.pos (Int.natCast_nonneg _) (Ev.pos (by omega) ?_))))));by_cases hd : done
    · exact Ev.pos (by simpa using hd) (step true True (by simp) (by simp [hd]))
    · refine Ev.neg (by simpa using hd) (Ev.pos (Int.natCast_nonneg _) (Ev.pos hke2 (Ev.pos h1 (Ev.pos h2 ?_))))
      rw [hy];by_cases hc : reach w c P T (e - (k + 1)) (k + 1) y
      · refine Ev.pos (by simpa using hc) (Ev.bnd (free_ev P (N + 1) hP hN1 hPn (k + 1) hkN i y) ?_)
        exact step _ _ rfl (by simp [hd,hc])
      · refine Ev.neg (by simpa using hc) (step false False (by simp) (by simp [hd,hc]))
theorem path_l4 (hw : Cl w c) (hP : Len P (N + 1)) (hN : N ≤ 1000) (hPn : P.length ≤ 1048576) (he : e ≤ N) (r : List Int × Bool) (k : Nat) (hk : k < e) (d : Nat) :
    ∀ (i : Nat) (CL : List (List Bool)),i + d = c.length → CL.length = e + 1 → RowIs c.length (rd_L5 CL (k : Int)) (fun x => x < (i : Int) ∧ reach w c P T (e - k) k x) → RowIs c.length (rd_L5 CL ((k + 1 : Nat) : Int)) (fun x => reach w c P T (e - (k + 1)) (k + 1) x) →
    (∀ CL' : List (List Bool),CL'.length = e + 1 → RowIs c.length (rd_L5 CL' (k : Int)) (fun x => reach w c P T (e - k) k x) → (∀ q : Nat,q ≠ k → rd_L5 CL' (q : Int) = rd_L5 CL (q : Int)) → Ev (fun m => spec_l20Path.l3 m P N c.length e CL' (wrap64 ((k : Int) - 1)) w c S T) r) →
    Ev (fun m => spec_l20Path.l4 m P N c.length e CL k i w c S T) r:=by
  have hn:=hw.n256;(have hek : e - k = (e - (k + 1)) + 1:=by clear hN hPn;omega);(have hrs : ∀ x,reach w c P T (e - k) k x ↔ (Fr c x ∧ ∃ y ∈ Gos w c x,reach w c P T (e - (k + 1)) (k + 1) y ∧ May P (k + 1) x y):=fun x => by rw [hek];simp only [reach])
  induction d with
  | zero =>
    intro i CL hi hlen hrow _ hNx;apply Ev.succ;simp only [spec_l20Path.l4];exact Ev.neg (by omega) (hNx CL hlen (hrow.congr (fun y _ h1 => ⟨fun h => h.2,fun h => ⟨by omega,h⟩⟩)) (fun _ _ => rfl))
  | succ d ih =>
    intro i CL hi hlen hrow hnext hNx;apply Ev.succ;simp only [spec_l20Path.l4,succ_w (show i < 35184372088833 by omega)];refine Ev.pos (by omega) (Ev.bnd0 (free_spec w c i) ?_);by_cases hf : Fr c (i : Int)
    · refine Ev.pos (by simpa using hf) (Ev.bnd (goes_ev hw hf).2 ?_)
      refine path_l5 hP hN hPn he r k i hk (by omega) hn (Gos w c i) (fun y hy => Gos_free hy) (Gos_len' w c i) _ 0 CL (fun x => x < (i : Int) ∧ reach w c P T (e - k) k x) False (Nat.zero_add _) hlen (hrow.congr (fun y _ _ => by simp)) (fun h => by have:=h.1;omega) hnext ?_;intro CL' hlen' hrow' hoth;rw [List.drop_zero] at hrow';refine ih (i + 1) CL' (by omega) hlen' (hrow'.congr (fun y _ _ => ?_)) ?_ (fun CL2 h1 h2 h3 => hNx CL2 h1 h2 (fun q hq => (h3 q hq).trans (hoth q hq)))
      · constructor
        · rintro (h | ⟨h,h2⟩)
          · exact ⟨by omega,h.2⟩
          · subst h
            exact ⟨by omega,(hrs _).2 ⟨hf,h2.resolve_left (fun h => h)⟩⟩
        · rintro ⟨h1,h2⟩
          by_cases e1 : y = (i : Int)
          · subst e1
            exact .inr ⟨rfl,.inr ((hrs _).1 h2).2⟩
          · exact .inl ⟨by omega,h2⟩
      · rw [hoth (k + 1) (Nat.succ_ne_self k)]
        exact hnext
    · refine Ev.neg (by simpa using hf) (ih (i + 1) CL (by omega) hlen (hrow.congr (fun y _ _ => ?_)) hnext hNx)
      constructor
      · exact fun h => ⟨by omega,h.2⟩
      · rintro ⟨h1,h2⟩
        refine ⟨?_,h2⟩;(have : y ≠ (i : Int):=fun e1 => hf (e1 ▸ ((hrs _).1 h2).1))
        omega
theorem path_l3 (hw : Cl w c) (hP : Len P (N + 1)) (hN : N ≤ 1000) (hPn : P.length ≤ 1048576) (he : e ≤ N) (hS : Fr c S) (r : List Int × Bool)
    (hno : ¬ (reach w c P T e 0 S ∧ May P 0 S S) → Ev (fun m => spec_l20Path.l1 m P N c.length ((e + 1 : Nat) : Int) w c S T) r)
    (hyes : reach w c P T e 0 S ∧ May P 0 S S → ∀ CL,Tab w c P T e 0 CL → Ev (fun m => spec_l20Path.l6 m P N e CL [S] 1 w c S T) r) (k : Nat) :
    ∀ CL : List (List Bool),k ≤ e → Tab w c P T e k CL → Ev (fun m => spec_l20Path.l3 m P N c.length e CL ((k : Int) - 1) w c S T) r:=by
  have hN1 : N + 1 ≤ 1048576:=Nat.le_trans (Nat.succ_le_succ hN) (by decide)
  induction k with
  | zero =>
    intro CL _ ht;have h0:=ht.2 0 (Nat.zero_le _);have hx:=h0.2 S hS.1 hS.2.1;have e0 : rd_L5 CL 0 = rd_L5 CL ((0 : Nat) : Int):=rfl;apply Ev.succ;simp only [spec_l20Path.l3,ht.1,e0,h0.1];refine Ev.neg (by omega) (Ev.pos (Int.ofNat_lt.2 (Nat.succ_pos e)) (Ev.pos hS.1 (Ev.pos hS.2.1 ?_)));have hwe : wrap64 ((e : Int) + 1) = ((e + 1 : Nat) : Int):=succ_w (Nat.lt_of_le_of_lt (Nat.le_trans he hN) (by decide))
    have jt : ¬ (reach w c P T e 0 S ∧ May P 0 S S) → Ev (fun m => spec_l20Path.j7 m P N c.length e CL true w c S T) r:=fun h => by
      apply Ev.succ;simp only [spec_l20Path.j7,hwe,if_true];exact hno h
    by_cases hr : reach w c P T e 0 S
    · refine Ev.pos (by rw [hx];simpa using hr) (Ev.bnd (free_ev P (N + 1) hP hN1 hPn 0 (Nat.succ_pos N) S S) ?_)
      by_cases hm : May P 0 S S
      · rw [decide_eq_true hm]
        apply Ev.succ;simp only [spec_l20Path.j7,Bool.not_true,Bool.false_eq_true,if_false];exact hyes ⟨hr,hm⟩ CL ht
      · rw [decide_eq_false hm]
        exact jt (fun h => hm h.2)
    · exact Ev.neg (by rw [hx];simpa using hr) (jt (fun h => hr h.1))
  | succ k ih =>
    intro CL hk ht;have hk' : k < e:=hk;(have hke : (k : Int) ≤ 1000:=by have:=Nat.le_trans (Nat.le_of_lt hk') (Nat.le_trans he hN);omega);(have ek : ((k + 1 : Nat) : Int) - 1 = (k : Int):=by omega);rw [ek];apply Ev.succ;simp only [spec_l20Path.l3];refine Ev.pos (Int.natCast_nonneg k) ?_;have hrow:=ht.2 k (Nat.le_of_lt hk');have hnext:=ht.2 (k + 1) hk;refine path_l4 hw hP hN hPn he r k hk' c.length 0 CL (Nat.zero_add _) ht.1 (hrow.congr (fun y h0 _ => ⟨fun h => absurd h.1 (Nat.not_succ_le_self k),fun h => by have:=h.1;omega⟩)) (hnext.congr (fun y _ _ => ⟨fun h => h.2,fun h => ⟨Nat.le_refl _,h⟩⟩)) ?_;intro CL' hlen' hrow' hoth;rw [wrap64_id (x:=(k : Int) - 1) (by omega) (by omega)];refine ih CL' (Nat.le_of_lt hk') ⟨hlen',fun j hj => ?_⟩;by_cases e1 : j = k
    · subst e1
      exact hrow'.congr (fun y _ _ => ⟨fun h => ⟨Nat.le_refl _,h⟩,fun h => h.2⟩)
    · rw [hoth j e1]
      refine (ht.2 j hj).congr (fun y _ _ => ?_)
      constructor
      · exact fun h => ⟨Nat.le_of_succ_le h.1,h.2⟩
      · exact fun h => ⟨Nat.lt_of_le_of_ne h.1 (Ne.symm e1),h.2⟩
theorem path_l2 (hN : N ≤ 1000) (he : e ≤ N) (hn : c.length ≤ 256) (hT : Fr c T) (r : List Int × Bool) (hNx : ∀ CL,Tab w c P T e e CL → Ev (fun m => spec_l20Path.l3 m P N c.length e CL ((e : Int) - 1) w c S T) r) (d : Nat) :
    ∀ (i : Nat) (CL : List (List Bool)),i + d = e + 1 → CL.length = e + 1 → (∀ j,j < i → rd_L5 CL (j : Int) = List.replicate c.length false) → Ev (fun m => spec_l20Path.l2 m P N c.length e CL ((e + 1 : Nat) : Int) i w c S T) r:=by
  have hle : e ≤ 1000:=Nat.le_trans he hN
  induction d with
  | zero =>
    intro i CL hi hlen hrows;have hre:=hrows e (by omega);have hwe : wrap64 ((e : Int) - 1) = (e : Int) - 1:=wrap64_id (by omega) (by omega);apply Ev.succ;simp only [spec_l20Path.l2,hlen,hre,List.length_replicate,hwe,Int.toNat_natCast];refine Ev.neg (by omega) (Ev.pos (by omega) (Ev.pos (by omega) (Ev.pos hT.1 (Ev.pos hT.2.1 (hNx _ ⟨by simp [hlen],fun j hj => ?_⟩)))));rw [row_set CL e j _ (by omega)];have hnone:=RowIs.none c.length;by_cases e1 : j = e
    · subst e1
      rw [if_pos rfl];(have hz : ∀ y,reach w c P T (j - j) j y ↔ y = T:=fun y => by rw [Nat.sub_self];exact Iff.rfl);refine hnone.set hT.1 true ?_ (fun y hy => ⟨False.elim,fun h => hy ((hz y).1 h.2)⟩);have h2 : j ≤ j ∧ reach w c P T (j - j) j T:=⟨Nat.le_refl _,(hz T).2 rfl⟩;exact (by simpa using h2.2)
    · rw [if_neg e1,hrows j (by omega)]
      exact hnone.congr (fun y _ _ => ⟨False.elim,fun h => e1 (Nat.le_antisymm hj h.1)⟩)
  | succ d ih =>
    intro i CL hi hlen hrows;apply Ev.succ;simp only [spec_l20Path.l2,hlen,succ_w (show i < 35184372088833 by omega),Int.toNat_natCast];refine Ev.pos (by omega) (Ev.pos (by omega) (Ev.pos (by omega) (Ev.pos (by omega) (Ev.pos (by omega) (ih (i + 1) _ (by omega) (by simp [hlen]) (fun j hj => ?_))))));rw [row_set CL i j _ (by omega)];by_cases e1 : j = i
    · rw [if_pos e1]
    · rw [if_neg e1]
      exact hrows j (by omega)

/-! ### the path itself -/
theorem range_map_snoc {α : Type} (f : Nat → α) (k : Nat) : (List.range (k + 1)).map f = (List.range k).map f ++ [f k]:=by rw [List.range_succ,List.map_append];rfl
theorem path_l8 (hN : N ≤ 1000) (f : Nat → Int) (r : List Int) (d : Nat) : ∀ k,k + d = N + 1 → (∀ j,k ≤ j → j ≤ N → f j = T) → r = (List.range (N + 1)).map f → Ev (fun m => spec_l20Path.l8 m N ((List.range k).map f) S T) (r,true):=by
  induction d with
  | zero =>
    intro k hk hf hr
    obtain rfl : k = N + 1:=by omega
    apply Ev.succ;simp only [spec_l20Path.l8,List.length_map,List.length_range];exact Ev.neg (by omega) (Ev.some (by rw [hr]))
  | succ d ih =>
    intro k hk hf hr;apply Ev.succ;simp only [spec_l20Path.l8,List.length_map,List.length_range];have:=ih (k + 1) (by omega) (fun j h1 h2 => hf j (by omega) h2) hr;rw [range_map_snoc,hf k (Nat.le_refl _) (by omega)] at this;exact Ev.pos (by omega) (Ev.pos (by omega) this)
theorem path_l7 (hP : Len P (N + 1)) (hN : N ≤ 1000) (hPn : P.length ≤ 1048576) (he : e ≤ N) (CL : List (List Bool)) (ht : Tab w c P T e 0 CL) (r : List Int × Bool) (k : Nat) (hk : k ≤ e) (out : List Int) (ho : out.length ≤ 1001) (x y : Int) (l : List Int) (hl : ∀ y ∈ l,Fr c y) (h100 : l.length ≤ 100)
    (hN2 : Ev (fun m => spec_l20Path.l6 m P N e CL (out ++ [y]) ((k + 1 : Nat) : Int) w c S T) r) (d : Nat) :
    ∀ j : Nat,j + d = l.length → (l.drop j).find? (fun y => decide (reach w c P T (e - k) k y ∧ May P k x y)) = some y → Ev (fun m => spec_l20Path.l7 m P N e CL out k x l (l.length : Int) j w c S T) r:=by
  have hN1 : N + 1 ≤ 1048576:=Nat.le_trans (Nat.succ_le_succ hN) (by decide);have hkN : k < N + 1:=Nat.lt_succ_of_le (Nat.le_trans hk he);have hrow:=ht.2 k hk;have hwk : wrap64 ((k : Int) + 1) = ((k + 1 : Nat) : Int):=succ_w (by omega);have hke : (k : Int) < ((e + 1 : Nat) : Int):=Int.ofNat_lt.2 (Nat.lt_succ_of_le hk)
  induction d with
  | zero =>
    intro j hj hf;rw [List.drop_eq_nil_of_le (by omega)] at hf
    cases hf
  | succ d ih =>
    intro j hj hf
    have hdr : l.drop j = l.getD j 0 :: l.drop (j + 1):=by
      rw [List.drop_eq_getElem_cons (show j < l.length by omega)]
      congr 1
      simp [List.getD_eq_getElem?_getD,List.getElem?_eq_getElem (show j < l.length by omega)]
    have en : rd l (j : Int) = l.getD j 0:=rfl;have hfz:=hl _ (getD_mem l j 0 (by omega));rw [hdr,List.find?_cons] at hf;generalize l.getD j 0 = z at hf en hfz;have hz:=hrow.2 z hfz.1 hfz.2.1;(have hj1 : (j : Int) < (l.length : Int):=by omega);apply Ev.succ;simp only [spec_l20Path.l7,succ_w (show j < 35184372088833 by omega),en,ht.1,hrow.1,hz,hwk];refine Ev.pos hj1 (Ev.pos (Int.natCast_nonneg _) (Ev.pos hj1 (Ev.pos (Int.natCast_nonneg _) (Ev.pos hke (Ev.pos hfz.1 (Ev.pos hfz.2.1 ?_))))));by_cases hr : reach w c P T (e - k) k z
    · refine Ev.pos (by simpa using hr) (Ev.bnd (free_ev P (N + 1) hP hN1 hPn k hkN x z) ?_)
      by_cases hm : May P k x z
      · rw [decide_eq_true (⟨hr,hm⟩ : reach w c P T (e - k) k z ∧ May P k x z)] at hf
        cases hf
        exact Ev.pos (by simpa using hm) (Ev.pos (by omega) hN2)
      · rw [decide_eq_false (fun h : reach w c P T (e - k) k z ∧ May P k x z => hm h.2)] at hf
        exact Ev.neg (by simpa using hm) (ih (j + 1) (by omega) hf)
    · rw [decide_eq_false (fun h : reach w c P T (e - k) k z ∧ May P k x z => hr h.1)] at hf
      exact Ev.neg (by simpa using hr) (ih (j + 1) (by omega) hf)
/-- What the walk back is: a good step each time. -/
theorem gst_good {k : Nat} (hk : k < e) (hr : reach w c P T (e - k) k (gst w c P S T (fun k x => reach w c P T (e - k) k x) k)) :
    good w c P (fun k x => reach w c P T (e - k) k x) (k + 1) (gst w c P S T (fun k x => reach w c P T (e - k) k x) k) = some (gst w c P S T (fun k x => reach w c P T (e - k) k x) (k + 1)) ∧ reach w c P T (e - (k + 1)) (k + 1) (gst w c P S T (fun k x => reach w c P T (e - k) k x) (k + 1)):=by
  (have hm : e - k = (e - (k + 1)) + 1:=by omega);rw [hm] at hr;simp only [reach] at hr;obtain ⟨_,y,h3,h4,h5⟩:=hr;simp only [gst];generalize hx : gst w c P S T (fun k x => reach w c P T (e - k) k x) k = x at h3 h5 ⊢
  cases hg : good w c P (fun k x => reach w c P T (e - k) k x) (k + 1) x with
  | none =>
    unfold good at hg;have:=List.find?_eq_none.1 hg y h3;simp only [decide_eq_true_eq] at this;exact absurd ⟨h4,h5⟩ this
  | some z =>
    refine ⟨rfl,?_⟩;unfold good at hg;have:=List.find?_some hg;simp only [decide_eq_true_eq] at this;exact this.1
theorem path_l6 (hw : Cl w c) (hP : Len P (N + 1)) (hN : N ≤ 1000) (hPn : P.length ≤ 1048576) (he : e ≤ N) (CL : List (List Bool)) (ht : Tab w c P T e 0 CL) (r : List Int) (hr : r = (List.range (N + 1)).map fun k => if k ≤ e then gst w c P S T (fun k x => reach w c P T (e - k) k x) k else T) (d : Nat) :
    ∀ k : Nat,k + d = e → reach w c P T (e - k) k (gst w c P S T (fun k x => reach w c P T (e - k) k x) k) → Fr c (gst w c P S T (fun k x => reach w c P T (e - k) k x) k) →
    Ev (fun m => spec_l20Path.l6 m P N e CL ((List.range (k + 1)).map fun k => if k ≤ e then gst w c P S T (fun k x => reach w c P T (e - k) k x) k else T) ((k + 1 : Nat) : Int) w c S T) (r,true):=by
  have hn:=hw.n256;have hle : e ≤ 1000:=Nat.le_trans he hN
  induction d with
  | zero =>
    intro k hk _ _;apply Ev.succ;simp only [spec_l20Path.l6];(have hlt : e < k + 1:=by omega);refine Ev.neg (by omega) ?_;refine path_l8 hN _ r (N - k) (k + 1) (by omega) (fun j h1 h2 => ?_) hr;rw [if_neg (by omega)]
  | succ d ih =>
    intro k hk hre hfk;(have hke : k < e:=by omega);obtain ⟨g1,g2⟩:=gst_good hke hre;(have hw1 : wrap64 (((k + 1 : Nat) : Int) - 1) = (k : Int):=by rw [wrap64_id (by omega) (by omega)];omega)
    have hrd : rd ((List.range (k + 1)).map fun k => if k ≤ e then gst w c P S T (fun k x => reach w c P T (e - k) k x) k else T) (k : Int) = gst w c P S T (fun k x => reach w c P T (e - k) k x) k:=by
      unfold rd;rw [Int.toNat_natCast,List.getD_eq_getElem?_getD,List.getElem?_map,List.getElem?_range (Nat.lt_succ_self k)];simp only [Option.map_some,Option.getD_some];rw [if_pos (Nat.le_of_lt hke)]
    have hgf : Fr c (gst w c P S T (fun k x => reach w c P T (e - k) k x) (k + 1)):=by
      unfold good at g1;exact Gos_free (List.mem_of_find?_eq_some g1)
    have hnx:=ih (k + 1) (by omega) g2 hgf;rw [range_map_snoc,if_pos (show k + 1 ≤ e from hke)] at hnx;apply Ev.succ;simp only [spec_l20Path.l6,hw1,List.length_map,List.length_range,hrd];refine Ev.pos (by omega) (Ev.pos (Int.natCast_nonneg _) (Ev.pos (by omega) (Ev.bnd (goes_ev hw hfk).2 ?_)));exact path_l7 hP hN hPn he CL ht (r,true) (k + 1) hke _ (by simp;omega) _ _ _ (fun y hy => Gos_free hy) (Gos_len' w c _) hnx _ 0 (Nat.zero_add _) (by rw [List.drop_zero];exact g1)
theorem path_l1 (hw : Cl w c) (hP : Len P (N + 1)) (hN : N ≤ 1000) (hPn : P.length ≤ 1048576) (hS : Fr c S) (hT : Fr c T) (d : Nat) :
    ∀ e : Nat,e + d = N + 1 → Ev (fun m => spec_l20Path.l1 m P N c.length e w c S T) (match ((List.range (N + 1)).drop e).find? (fun e => decide (reach w c P T e 0 S ∧ May P 0 S S)) with
      | some e => ((List.range (N + 1)).map (fun k => if k ≤ e then gst w c P S T (fun k x => reach w c P T (e - k) k x) k else T),true)
      | none => ([],false)):=by
  have hn:=hw.n256
  induction d with
  | zero =>
    intro e he;rw [List.drop_eq_nil_of_le (by simp;omega)];apply Ev.succ;simp only [spec_l20Path.l1];exact Ev.neg (by omega) (Ev.some rfl)
  | succ d ih =>
    intro e he;(have heN : e ≤ N:=by omega)
    have hdr : (List.range (N + 1)).drop e = e :: (List.range (N + 1)).drop (e + 1):=by
      rw [List.drop_eq_getElem_cons (by simp;omega)]
      simp
    have hwe : wrap64 ((e : Int) + 1) = ((e + 1 : Nat) : Int):=succ_w (by omega);rw [hdr,List.find?_cons];have nx:=ih (e + 1) (by omega);apply Ev.succ;simp only [spec_l20Path.l1,hwe,Int.toNat_natCast,Option.bind_some,List.length_replicate];refine Ev.pos (by omega) (Ev.pos (by omega) (Ev.pos (by omega) ?_));refine path_l2 hN heN hn hT _ (fun CL ht => ?_) (e + 1) 0 _ (Nat.zero_add _) (by simp) (fun j hj => absurd hj (Nat.not_lt_zero j));refine path_l3 hw hP hN hPn heN hS _ (fun h => ?_) (fun hr CL2 ht2 => ?_) e CL (Nat.le_refl _) ht
    · rw [decide_eq_false h]
      exact nx
    · rw [decide_eq_true hr]
      exact path_l6 (S:=S) hw hP hN hPn heN CL2 ht2 _ rfl e 0 (Nat.zero_add _) hr.1 hS
theorem path_l0 (_hw : Cl w c) (hP : Len P (N + 1)) (hN : N ≤ 1000) (hPn : P.length ≤ 1048576) (r : List Int × Bool) (hNx : ∀ s : Nat,s ≤ N + 1 → Stay P T N s → (s = 0 ∨ ¬ Clear P T (s - 1)) → Ev (fun m => spec_l20Path.l1 m P N c.length s w c S T) r) (s : Nat) :
    s ≤ N + 1 → Stay P T N s → Ev (fun m => spec_l20Path.l0 m P N c.length s w c S T) r:=by
  have hN1 : N + 1 ≤ 1048576:=Nat.le_trans (Nat.succ_le_succ hN) (by decide)
  have jx : ∀ s : Nat,s ≤ N + 1 → Stay P T N s → (s = 0 ∨ ¬ Clear P T (s - 1)) → Ev (fun m => spec_l20Path.j1 m P N c.length s w c S T) r:=fun s h1 h2 h3 => by
    apply Ev.succ;simp only [spec_l20Path.j1];exact hNx s h1 h2 h3
  induction s with
  | zero =>
    intro h1 h2;apply Ev.succ;simp only [spec_l20Path.l0];exact Ev.neg (by omega) (jx 0 h1 h2 (.inl rfl))
  | succ s ih =>
    intro h1 h2;(have hw1 : wrap64 (((s + 1 : Nat) : Int) - 1) = (s : Int):=by rw [wrap64_id (by omega) (by omega)];omega);apply Ev.succ;simp only [spec_l20Path.l0,hw1];refine Ev.pos (by omega) (Ev.bnd (free_ev P (N + 1) hP hN1 hPn s h1 T T) ?_);by_cases hm : Clear P T s
    · refine Ev.pos (by simpa using may_stay.2 hm) (ih (Nat.le_of_succ_le h1) (fun j h3 h4 => ?_))
      by_cases e1 : j = s
      · rw [e1];exact hm
      · exact h2 j (Nat.lt_of_le_of_ne h3 (Ne.symm e1)) h4
    · refine Ev.neg (fun h => hm (may_stay.1 (by simpa using h))) (jx (s + 1) h1 h2 (.inr hm))
/-- The reference's path is the plan. -/
theorem path_spec (hw : Cl w c) (hP : Len P (N + 1)) (hN : N ≤ 1000) (hPn : P.length ≤ 1048576) (hS : Fr c S) (hT : Fr c T) : Ev (fun m => spec_l20Path.f m w c S T P N) ((planI w c P S T N).getD [],(planI w c P S T N).isSome):=by
  have hwN : wrap64 ((N : Int) + 1) = ((N + 1 : Nat) : Int):=succ_w (by omega);simp only [spec_l20Path.f,hwN];refine path_l0 hw hP hN hPn _ (fun s h1 h2 h3 => ?_) (N + 1) (Nat.le_refl _) (fun j h1 h2 => absurd h2 (Nat.not_le_of_lt h1));have hl:=path_l1 hw hP hN hPn hS hT (N + 1 - s) s (by omega);refine Ev.eq hl ?_;rw [plan_both hT N];unfold planS
  have hmay : May P 0 S S ↔ ¬ ∃ p ∈ P,PA p 0 = S:=by
    rw [may_stay];exact ⟨fun h ⟨p,hp,e1⟩ => h p hp e1,fun h p hp e1 => h ⟨p,hp,e1⟩⟩
  by_cases hx : ∃ p ∈ P,PA p 0 = S
  · rw [if_pos hx]
    have : ((List.range (N + 1)).drop s).find? (fun e => decide (reach w c P T e 0 S ∧ May P 0 S S)) = none:=by
      rw [List.find?_eq_none];intro e _;simp only [decide_eq_true_eq];(exact fun h => (hmay.1 h.2) hx)
    rw [this]
    rfl
  · rw [if_neg hx]
    have hcg : (List.range (N + 1)).find? (fun e => decide (Stay P T N e ∧ reach w c P T e 0 S)) = ((List.range (N + 1)).drop s).find? (fun e => decide (reach w c P T e 0 S ∧ May P 0 S S)):=by
      conv => lhs;rw [← List.take_append_drop s (List.range (N + 1))]
      rw [List.find?_append]
      have h4 : ((List.range (N + 1)).take s).find? (fun e => decide (Stay P T N e ∧ reach w c P T e 0 S)) = none:=by
        rw [List.find?_eq_none];intro e he;simp only [decide_eq_true_eq];intro h
        rcases h3 with h3 | h3
        · rw [h3] at he
          simp at he
        · have hes : e < s:=by
            obtain ⟨i,hi,h5⟩:=List.mem_iff_getElem.1 he
            simp at hi h5
            omega
          exact h3 (h.1 (s - 1) (by omega) (by omega))
      rw [h4,Option.none_or];refine find_congr _ _ _ (fun e he => ?_)
      have hes : s ≤ e:=by
        obtain ⟨i,hi,h5⟩:=List.mem_iff_getElem.1 he
        simp at hi h5
        omega
      rw [decide_eq_decide];exact ⟨fun h => ⟨h.2,hmay.2 hx⟩,fun h => ⟨fun j h5 h6 => h2 j (by omega) h6,h.1⟩⟩
    rw [hcg]
    cases ((List.range (N + 1)).drop s).find? (fun e => decide (reach w c P T e 0 S ∧ May P 0 S S)) with
    | none => rfl
    | some e => rfl
end
end Go.Proofs.Ytcldlljnaijmhaa.Pure
/-
Own text: a crowd's plan: the program and the reference tell the same paths;what each path is good for.
-/
namespace Go.Proofs.Ytcldlljnaijmhaa.Pure
open Go.RowKit Go.Proofs.YtcldlljnaijmhaaW.PrintWords Go.Proofs.YtcldlljnaijmhaaW.PrintLast Go.Proofs.Ytcldlljnaijmhaa.Pr Go.Proofs.Ytcldlljnaijmhaa.EvKit
open Classical

/-- A path of N ticks from S to T that meets none of P. -/
structure GoodP (w : Int) (c : List Int) (P : List (List Int)) (S T : Int) (N : Nat) (p : List Int) : Prop where
  len : p.length = N + 1
  from_ : PA p 0 = S
  to_ : PA p N = T
  go : ∀ k,k < N → PA p (k + 1) ∈ Gos w c (PA p k)
  free : ∀ k,k ≤ N → Fr c (PA p k)
  start : ∀ q ∈ P,¬ PA q 0 = S
  may : ∀ k,k < N → May P (k + 1) (PA p k) (PA p (k + 1))
theorem PA_map (f : Nat → Int) {N k : Nat} (h : k < N) : PA ((List.range N).map f) k = f k:=by
  unfold PA;rw [List.getD_eq_getElem?_getD,List.getElem?_map,List.getElem?_range h]
  rfl
theorem plan_good {w : Int} {c : List Int} {P : List (List Int)} {S T : Int} {N : Nat} {p : List Int} (hS : Fr c S) (h : planI w c P S T N = some p) : GoodP w c P S T N p:=by
  unfold planI at h
  split at h
  · cases h
  rename_i hno
  cases hf : (List.range (N + 1)).find? (fun a => decide (still w c P T a N 0 S)) with
  | none => rw [hf] at h;cases h
  | some a =>
    rw [hf] at h;simp only [Option.map_some,Option.some.injEq] at h;have hst:=List.find?_some hf;simp only [decide_eq_true_eq] at hst
    have step : ∀ k,k < N → still w c P T a (N - k) k (gst w c P S T (fun k x => still w c P T a (N - k) k x) k) →
        gst w c P S T (fun k x => still w c P T a (N - k) k x) (k + 1) ∈ Gos w c (gst w c P S T (fun k x => still w c P T a (N - k) k x) k) ∧ still w c P T a (N - (k + 1)) (k + 1) (gst w c P S T (fun k x => still w c P T a (N - k) k x) (k + 1)) ∧
        May P (k + 1) (gst w c P S T (fun k x => still w c P T a (N - k) k x) k) (gst w c P S T (fun k x => still w c P T a (N - k) k x) (k + 1)):=by
      intro k hk hs;(have e : N - k = (N - (k + 1)) + 1:=by omega);rw [e] at hs;simp only [still] at hs;obtain ⟨_,_,y,h3,h4,h5⟩:=hs;simp only [gst];generalize gst w c P S T (fun k x => still w c P T a (N - k) k x) k = x at h3 h5 ⊢
      cases hg : good w c P (fun k x => still w c P T a (N - k) k x) (k + 1) x with
      | none =>
        unfold good at hg;have:=List.find?_eq_none.1 hg y h3;simp only [decide_eq_true_eq] at this;exact absurd ⟨h4,h5⟩ this
      | some z =>
        unfold good at hg;have h6:=List.find?_some hg;simp only [decide_eq_true_eq] at h6;exact ⟨List.mem_of_find?_eq_some hg,h6.1,h6.2⟩
    have all : ∀ k,k ≤ N → still w c P T a (N - k) k (gst w c P S T (fun k x => still w c P T a (N - k) k x) k) ∧ Fr c (gst w c P S T (fun k x => still w c P T a (N - k) k x) k):=by
      intro k
      induction k with
      | zero => intro _;exact ⟨hst,hS⟩
      | succ k ih =>
        intro hk;obtain ⟨h1,h2,_⟩:=step k hk (ih (Nat.le_of_succ_le hk)).1;exact ⟨h2,Gos_free h1⟩
    subst h;(have pa : ∀ k,k ≤ N → PA ((List.range (N + 1)).map (gst w c P S T fun k x => still w c P T a (N - k) k x)) k = gst w c P S T (fun k x => still w c P T a (N - k) k x) k:=fun k hk => PA_map _ (Nat.lt_succ_of_le hk));refine ⟨by simp,?_,?_,fun k hk => ?_,fun k hk => ?_,fun q hq e => hno ⟨q,hq,e⟩,fun k hk => ?_⟩
    · rw [pa 0 (Nat.zero_le _)]
      rfl
    · rw [pa N (Nat.le_refl _)]
      have:=(all N (Nat.le_refl _)).1;rw [Nat.sub_self] at this;exact this
    · rw [pa k (Nat.le_of_lt hk),pa (k + 1) hk]
      exact (step k hk (all k (Nat.le_of_lt hk)).1).1
    · rw [pa k hk]
      exact (all k hk).2
    · rw [pa k (Nat.le_of_lt hk),pa (k + 1) hk]
      exact (step k hk (all k (Nat.le_of_lt hk)).1).2.2
/-- The paths one behind the other. -/
noncomputable def crowdV (w : Int) (c : List Int) (N : Nat) : List S49 → List (List Int) → Option (List (List Int))
  | [],P => some P
  | t :: l,P => match planI w c P t.f0 t.f1 N with
    | none => none
    | some p => crowdV w c N l (P ++ [p])
/-- As Go tells it. -/
def tell (o : Option (List (List Int))) : List (List Int) × Bool:=match o with
  | none => ([],false)
  | some P => (P,true)
theorem crowd_l0 {w : Int} {c : List Int} (hw : Cl w c) (N : Nat) (hN : N ≤ 20) (l : List S49) (hl5 : l.length ≤ 5) (hl : ∀ t ∈ l,Fr c t.f0 ∧ Fr c t.f1) (d : Nat) : ∀ (i : Nat) (P : List (List Int)),i + d = l.length → P.length = i → Len P (N + 1) →
    Ev (fun k => impl_PlanCrowd.l0 k N P l (l.length : Int) i w c) (tell (crowdV w c N (l.drop i) P)) ∧ Ev (fun k => spec_PlanCrowd.l0 k N P l (l.length : Int) i w c) (tell (crowdV w c N (l.drop i) P)):=by
  induction d with
  | zero =>
    intro i P hi hP hPl;rw [List.drop_eq_nil_of_le (by omega)];refine ⟨Ev.succ ?_,Ev.succ ?_⟩
    · simp only [impl_PlanCrowd.l0]
      exact Ev.neg (by omega) (Ev.some rfl)
    · simp only [spec_PlanCrowd.l0]
      exact Ev.neg (by omega) (Ev.some rfl)
  | succ d ih =>
    intro i P hi hP hPl
    have hdr : l.drop i = l.getD i z49 :: l.drop (i + 1):=by
      rw [List.drop_eq_getElem_cons (show i < l.length by omega)]
      congr 1
      simp [List.getD_eq_getElem?_getD,List.getElem?_eq_getElem (show i < l.length by omega)]
    have e : rd_T49 l (i : Int) = l.getD i z49:=rfl;have hft:=hl _ (getD_mem l i z49 (show i < l.length by omega));rw [hdr];generalize l.getD i z49 = t at e hft;have hsp:=path_spec (P:=P) (S:=t.f0) (T:=t.f1) (N:=N) hw hPl (by omega) (by omega) hft.1 hft.2
    have him : impl_Cells_plan.f w c t.f0 t.f1 N P = some ((planI w c P t.f0 t.f1 N).getD [],(planI w c P t.f0 t.f1 N).isSome):=by
      unfold impl_Cells_plan.f;rw [if_pos (show planOk w c t.f0 t.f1 N P from ⟨hw,hft.1,hft.2,by omega,by omega,by omega,by rw [Int.toNat_natCast];exact hPl⟩),Int.toNat_natCast]
    simp only [crowdV]
    cases hp : planI w c P t.f0 t.f1 N with
    | none =>
      rw [hp] at hsp him;refine ⟨Ev.succ ?_,Ev.succ ?_⟩
      · simp only [impl_PlanCrowd.l0,e]
        exact Ev.pos (by omega) (Ev.pos (by omega) (Ev.pos (by omega) (Ev.bnd0 him (Ev.neg (by simp) (Ev.some rfl)))))
      · simp only [spec_PlanCrowd.l0,e]
        exact Ev.pos (by omega) (Ev.pos (by omega) (Ev.pos (by omega) (Ev.bnd hsp (Ev.neg (by simp) (Ev.some rfl)))))
    | some p =>
      rw [hp] at hsp him;have hg:=plan_good hft.1 hp;obtain ⟨a,b⟩:=ih (i + 1) (P ++ [p]) (by omega) (by simp [hP]) (fun q hq => (List.mem_append.1 hq).elim (hPl q) (fun h => by rw [List.mem_singleton.1 h];exact hg.len));(have hlen : P.length < 5864062014805:=by omega);refine ⟨Ev.succ ?_,Ev.succ ?_⟩
      · simp only [impl_PlanCrowd.l0,e,succ_w (show i < 35184372088833 by omega)]
        exact Ev.pos (by omega) (Ev.pos (by omega) (Ev.pos (by omega) (Ev.bnd0 him (Ev.pos (by simp) (Ev.pos hlen a)))))
      · simp only [spec_PlanCrowd.l0,e,succ_w (show i < 35184372088833 by omega)]
        exact Ev.pos (by omega) (Ev.pos (by omega) (Ev.pos (by omega) (Ev.bnd hsp (Ev.pos (by simp) (Ev.pos hlen b)))))
theorem gt_free {w : Int} {c : List Int} {l : List S49} (h : Gt w c l) : ∀ t ∈ l,Fr c t.f0 ∧ Fr c t.f1:=by
  intro t ht;obtain ⟨i,hi⟩:=List.getElem?_of_mem ht;have hlt:=(List.getElem?_eq_some_iff.1 hi).1;have:=(h.2.2 i (Nat.zero_le _) hlt).1;unfold TR at this;rw [List.getD_eq_getElem?_getD,hi] at this;exact this
/-- What PlanCrowd comes to. -/
noncomputable def planV (w : Int) (c : List Int) (l : List S49) (ticks : Int) : Option (List (List Int)):=if Gt w c l ∧ 0 ≤ ticks ∧ ticks ≤ 20 then crowdV w c ticks.toNat l [] else none
theorem crowd_both (w : Int) (c : List Int) (l : List S49) (ticks : Int) (hn : c.length ≤ 35184372088832) : Ev (fun k => impl_PlanCrowd.f k w c l ticks) (tell (planV w c l ticks)) ∧ Ev (fun k => spec_PlanCrowd.f k w c l ticks) (tell (planV w c l ticks)):=by
  obtain ⟨a,b⟩:=goodTrips_both w c l hn
  have no : Ev (fun k => impl_PlanCrowd.j0 k l ticks true w c) (tell none) ∧ Ev (fun k => spec_PlanCrowd.j0 k l ticks true w c) (tell none):=by
    refine ⟨Ev.succ ?_,Ev.succ ?_⟩
    · simp only [impl_PlanCrowd.j0,if_true];exact Ev.some rfl
    · simp only [spec_PlanCrowd.j0,if_true];exact Ev.some rfl
  simp only [impl_PlanCrowd.f,spec_PlanCrowd.f];unfold planV;by_cases hg : Gt w c l
  · by_cases h0 : ticks < 0
    · rw [if_neg (fun h => by have:=h.2.1;omega)]
      exact ⟨Ev.bnd a (Ev.pos (by simpa using hg) (Ev.pos h0 no.1)),Ev.bnd b (Ev.pos (by simpa using hg) (Ev.pos h0 no.2))⟩
    · by_cases h1 : ticks > 20
      · rw [if_neg (fun h => by have:=h.2.2;omega),decide_eq_true h1]
        exact ⟨Ev.bnd a (Ev.pos (by simpa using hg) (Ev.neg h0 no.1)),Ev.bnd b (Ev.pos (by simpa using hg) (Ev.neg h0 no.2))⟩
      · rw [if_pos ⟨hg,by omega,by omega⟩,decide_eq_false h1]
        obtain ⟨N,rfl⟩ : ∃ N : Nat,ticks = (N : Int):=⟨ticks.toNat,by omega⟩;rw [Int.toNat_natCast];obtain ⟨x,y⟩:=crowd_l0 hg.1 N (by omega) l hg.2.1 (gt_free hg) l.length 0 [] (by omega) rfl (fun p hp => by cases hp);refine ⟨Ev.bnd a (Ev.pos (by simpa using hg) (Ev.neg h0 (Ev.succ ?_))),Ev.bnd b (Ev.pos (by simpa using hg) (Ev.neg h0 (Ev.succ ?_)))⟩
        · simp only [impl_PlanCrowd.j0,Bool.false_eq_true,if_false]
          exact x
        · simp only [spec_PlanCrowd.j0,Bool.false_eq_true,if_false]
          exact y
  · rw [if_neg (fun h => hg h.1)]
    exact ⟨Ev.bnd a (Ev.neg (by simpa using hg) no.1),Ev.bnd b (Ev.neg (by simpa using hg) no.2)⟩
end Go.Proofs.Ytcldlljnaijmhaa.Pure
/-
Own text: planned paths are good paths,and never meet.
-/
namespace Go.Proofs.Ytcldlljnaijmhaa.Pure
open Go.RowKit Go.Proofs.YtcldlljnaijmhaaW.PrintWords Go.Proofs.YtcldlljnaijmhaaW.PrintLast Go.Proofs.Ytcldlljnaijmhaa.Pr Go.Proofs.Ytcldlljnaijmhaa.EvKit
open Classical

theorem gt_l2 (w : Int) (c : List Int) (x1 : List S49) (x2 : List (List Int)) (p : List Int) (j i : Nat) (hj : j < p.length) (t : List Int) (ht : t.length ≤ 100) (r : Bool)
    (h1 : Ev (fun k => impl_GoodPaths.l1 k x1 x2 p (p.length : Int) (wrap64 ((j : Int) + 1)) x2 (x2.length : Int) i w c) r) (h2 : Ev (fun k => spec_GoodPaths.l1 k x1 x2 p (wrap64 ((j : Int) + 1)) x2 (x2.length : Int) i w c) r) (d : Nat) : ∀ (m : Nat) (b : Bool),m + d = t.length →
    (b = true ∨ ∃ q : Nat,m ≤ q ∧ q < t.length ∧ t.getD q 0 = p.getD j 0) → Ev (fun k => impl_GoodPaths.l2 k x1 x2 p (p.length : Int) j b x2 (x2.length : Int) i t (t.length : Int) m w c) r ∧ Ev (fun k => spec_GoodPaths.l2 k x1 x2 p j b x2 (x2.length : Int) i t (t.length : Int) m w c) r:=by
  induction d with
  | zero =>
    intro m b hm hb
    obtain rfl : b = true:=hb.resolve_right (fun ⟨q,a1,a2,_⟩ => by omega)
    refine ⟨Ev.succ ?_,Ev.succ ?_⟩
    · simp only [impl_GoodPaths.l2]
      exact Ev.neg (by omega) (Ev.pos trivial h1)
    · simp only [spec_GoodPaths.l2]
      exact Ev.neg (by omega) (Ev.pos trivial h2)
  | succ d ih =>
    intro m b hm hb;have e1 : rd t (m : Int) = t.getD m 0:=rfl;have e2 : rd p (j : Int) = p.getD j 0:=rfl
    cases b with
    | true =>
      obtain ⟨a1,a2⟩:=ih (m + 1) true (by omega) (.inl rfl);refine ⟨Ev.succ ?_,Ev.succ ?_⟩
      · simp only [impl_GoodPaths.l2,succ_w (show m < 35184372088833 by omega)]
        exact Ev.pos (by omega) (Ev.pos (by omega) (Ev.pos (by omega) (Ev.pos trivial a1)))
      · simp only [spec_GoodPaths.l2,succ_w (show m < 35184372088833 by omega)]
        exact Ev.pos (by omega) (Ev.pos (by omega) (Ev.pos (by omega) (Ev.pos trivial a2)))
    | false =>
      obtain ⟨a1,a2⟩:=ih (m + 1) (t.getD m 0 == p.getD j 0) (by omega) (by
        obtain h | ⟨q,hq1,hq2,hq3⟩:=hb
        · cases h
        · by_cases e : q = m
          · subst e
            exact .inl (by simpa using hq3)
          · exact .inr ⟨q,by omega,hq2,hq3⟩)
      refine ⟨Ev.succ ?_,Ev.succ ?_⟩
      · simp only [impl_GoodPaths.l2,e1,e2,succ_w (show m < 35184372088833 by omega)]
        exact Ev.pos (by omega) (Ev.pos (by omega) (Ev.pos (by omega) (Ev.neg (by simp) (Ev.pos (by omega) (Ev.pos (by omega) a1)))))
      · simp only [spec_GoodPaths.l2,e1,e2,succ_w (show m < 35184372088833 by omega)]
        exact Ev.pos (by omega) (Ev.pos (by omega) (Ev.pos (by omega) (Ev.neg (by simp) (Ev.pos (by omega) (Ev.pos (by omega) a2)))))
theorem gt_l1 (w : Int) (c : List Int) (hc : Cl w c) (x1 : List S49) (x2 : List (List Int)) (p : List Int) (hp : p.length ≤ 1048576) (i : Nat) (hi : i < 35184372088833) (r : Bool)
    (h1 : Ev (fun k => impl_GoodPaths.l0 k x1 x2 x2 (x2.length : Int) ((i + 1 : Nat) : Int) w c) r) (h2 : Ev (fun k => spec_GoodPaths.l0 k x1 x2 x2 (x2.length : Int) ((i + 1 : Nat) : Int) w c) r)
    (hgo : ∀ j,1 ≤ j → j < p.length → Fr c (p.getD (j - 1) 0) ∧ p.getD j 0 ∈ Gos w c (p.getD (j - 1) 0)) (d : Nat) : ∀ j : Nat,1 ≤ j → j + d = p.length →
    Ev (fun k => impl_GoodPaths.l1 k x1 x2 p (p.length : Int) j x2 (x2.length : Int) i w c) r ∧ Ev (fun k => spec_GoodPaths.l1 k x1 x2 p j x2 (x2.length : Int) i w c) r:=by
  induction d with
  | zero =>
    intro j hj1 hj;refine ⟨Ev.succ ?_,Ev.succ ?_⟩
    · simp only [impl_GoodPaths.l1,succ_w hi]
      exact Ev.neg (by omega) h1
    · simp only [spec_GoodPaths.l1,succ_w hi]
      exact Ev.neg (by omega) h2
  | succ d ih =>
    intro j hj1 hj;obtain ⟨hf,hmem⟩:=hgo j hj1 (by omega);obtain ⟨g1,g2⟩:=goes_ev hc hf
    have e : rd p ((j : Int) - 1) = p.getD (j - 1) 0:=by
      unfold rd;rw [show ((j : Int) - 1).toNat = j - 1 by omega]
    have hlen : (Gos w c (p.getD (j - 1) 0)).length ≤ 100:=Gos_len' w c _;obtain ⟨n1,n2⟩:=ih (j + 1) (by omega) (by omega)
    obtain ⟨a1,a2⟩:=gt_l2 w c x1 x2 p j i (by omega) (Gos w c (p.getD (j - 1) 0)) hlen r (by rw [succ_w (show j < 35184372088833 by omega)];exact n1) (by rw [succ_w (show j < 35184372088833 by omega)];exact n2) _ 0 false (Nat.zero_add _) (by
      obtain ⟨q,hq⟩:=List.getElem?_of_mem hmem;have hql:=(List.getElem?_eq_some_iff.1 hq).1
      exact .inr ⟨q,Nat.zero_le _,hql,by rw [List.getD_eq_getElem?_getD,hq];rfl⟩)
    refine ⟨Ev.succ ?_,Ev.succ ?_⟩
    · simp only [impl_GoodPaths.l1,wrap64_id (x:=(j : Int) - 1) (by omega) (by omega),e]
      exact Ev.pos (by omega) (Ev.pos (by omega) (Ev.pos (by omega) (Ev.bnd0 (free_impl w c _) (Ev.pos (by simpa using hf) (Ev.bnd g1 a1)))))
    · simp only [spec_GoodPaths.l1,wrap64_id (x:=(j : Int) - 1) (by omega) (by omega),e]
      exact Ev.pos (by omega) (Ev.pos (by omega) (Ev.pos (by omega) (Ev.bnd g2 a2)))
/-- Paths that go as the trips say. -/
def Goes (w : Int) (c : List Int) (N : Nat) (l : List S49) (Q : List (List Int)) : Prop:=Q.length = l.length ∧ ∀ i,i < l.length → (Q.getD i []).length = N + 1 ∧ (Q.getD i []).getD 0 0 = (TR l i).f0 ∧ (Q.getD i []).getD N 0 = (TR l i).f1 ∧
  ∀ j,1 ≤ j → j < N + 1 → Fr c ((Q.getD i []).getD (j - 1) 0) ∧ (Q.getD i []).getD j 0 ∈ Gos w c ((Q.getD i []).getD (j - 1) 0)
theorem gt_l0 (w : Int) (c : List Int) (x1 : List S49) (x2 : List (List Int)) (N : Nat) (hN : N ≤ 20) (hg : Gt w c x1) (hq : Goes w c N x1 x2) (hm1 : Ev (fun q => impl_FirstMeet.f q x2) (-1)) (hm2 : Ev (fun q => spec_FirstMeet.f q x2) (-1)) (d : Nat) : ∀ i : Nat,i + d = x2.length →
    Ev (fun k => impl_GoodPaths.l0 k x1 x2 x2 (x2.length : Int) i w c) true ∧ Ev (fun k => spec_GoodPaths.l0 k x1 x2 x2 (x2.length : Int) i w c) true:=by
  have h5:=hg.2.1;have hl:=hq.1
  induction d with
  | zero =>
    intro i hi;refine ⟨Ev.succ ?_,Ev.succ ?_⟩
    · simp only [impl_GoodPaths.l0]
      exact Ev.neg (by omega) (Ev.bnd hm1 (Ev.some (by simp)))
    · simp only [spec_GoodPaths.l0]
      exact Ev.neg (by omega) (Ev.bnd hm2 (Ev.some (by simp)))
  | succ d ih =>
    intro i hi;obtain ⟨n1,n2⟩:=ih (i + 1) (by omega);have e1 : rd_L1 x2 (i : Int) = x2.getD i []:=rfl;have e2 : rd_T49 x1 (i : Int) = TR x1 i:=rfl
    have e0 : ((rd_L1 x2 0).length : Int) = ((N + 1 : Nat) : Int):=by
      have:=(hq.2 0 (by omega)).1;have e : rd_L1 x2 0 = x2.getD 0 []:=rfl;rw [e,this]
    obtain ⟨hp,h3,h4,hgo⟩:=hq.2 i (by omega);generalize x2.getD i [] = p at e1 hp h3 h4 hgo;have e3 : rd p 0 = p.getD 0 0:=rfl
    have hb : (rd p ((p.length : Int) - 1) != (TR x1 i).f1) = false:=by
      unfold rd;rw [show ((p.length : Int) - 1).toNat = N by omega,h4]
      simp
    obtain ⟨a1,a2⟩:=gt_l1 w c hg.1 x1 x2 p (by omega) i (by omega) true n1 n2 (fun j h6 h7 => hgo j h6 (by omega)) (p.length - 1) 1 (Nat.le_refl _) (by omega);refine ⟨Ev.succ ?_,Ev.succ ?_⟩
    · simp only [impl_GoodPaths.l0,e1,e2,e3,e0,wrap64_id (x:=(p.length : Int) - 1) (by omega) (by omega),hb]
      refine Ev.pos (by omega) (Ev.pos (by omega) (Ev.pos (by omega) (Ev.neg (by omega) (Ev.pos (by omega) (Ev.pos (by omega) (Ev.pos (by omega) (Ev.pos (by omega) (Ev.pos h3 (Ev.pos (by omega) (Ev.pos (by omega) (Ev.succ ?_)))))))))));simp only [impl_GoodPaths.j2];exact Ev.neg (by simp) a1
    · simp only [spec_GoodPaths.l0,e1,e2,e3,e0,wrap64_id (x:=(p.length : Int) - 1) (by omega) (by omega),hb]
      refine Ev.pos (by omega) (Ev.pos (by omega) (Ev.pos (by omega) (Ev.neg (by omega) (Ev.pos (by omega) (Ev.pos (by omega) (Ev.pos (by omega) (Ev.pos (by omega) (Ev.pos h3 (Ev.pos (by omega) (Ev.pos (by omega) (Ev.succ ?_)))))))))));simp only [spec_GoodPaths.j2];exact Ev.neg (by simp) a2
theorem goodPaths_true (w : Int) (c : List Int) (l : List S49) (p : List (List Int)) (N : Nat) (hN : N ≤ 20) (hn : c.length ≤ 35184372088832) (hg : Gt w c l) (hq : Goes w c N l p) (hm1 : Ev (fun q => impl_FirstMeet.f q p) (-1)) (hm2 : Ev (fun q => spec_FirstMeet.f q p) (-1)) : Ev (fun k => impl_GoodPaths.f k w c l p) true ∧ Ev (fun k => spec_GoodPaths.f k w c l p) true:=by
  obtain ⟨t1,t2⟩:=goodTrips_both w c l hn;simp only [impl_GoodPaths.f,spec_GoodPaths.f];obtain ⟨a,b⟩:=gt_l0 w c l p N hN hg hq hm1 hm2 p.length 0 (by omega);(have e : ((p.length : Int) != (l.length : Int)) = false:=by simp [hq.1]);rw [e];refine ⟨Ev.bnd t1 (Ev.pos (by simpa using hg) (Ev.succ ?_)),Ev.bnd t2 (Ev.pos (by simpa using hg) (Ev.succ ?_))⟩
  · simp only [impl_GoodPaths.j0,Bool.false_eq_true,if_false];exact a
  · simp only [spec_GoodPaths.j0,Bool.false_eq_true,if_false];exact b
/-- What a crowd's paths are. -/
theorem crowd_goes {w : Int} {c : List Int} {N : Nat} (l : List S49) : ∀ (P Q : List (List Int)),(∀ t ∈ l,Fr c t.f0 ∧ Fr c t.f1) → crowdV w c N l P = some Q →
    ∃ R,Q = P ++ R ∧ R.length = l.length ∧ ∀ i,i < l.length → GoodP w c (P ++ R.take i) (l.getD i z49).f0 (l.getD i z49).f1 N (R.getD i []):=by
  induction l with
  | nil =>
    intro P Q _ h;simp only [crowdV,Option.some.injEq] at h;exact ⟨[],by simp [h],rfl,fun i hi => by simp at hi⟩
  | cons t l ih =>
    intro P Q hf h;simp only [crowdV] at h
    cases hp : planI w c P t.f0 t.f1 N with
    | none => rw [hp] at h;cases h
    | some p =>
      rw [hp] at h;obtain ⟨R,h1,h2,h3⟩:=ih (P ++ [p]) Q (fun u hu => hf u (.tail _ hu)) h;refine ⟨p :: R,by rw [h1];simp,by simp [h2],fun i hi => ?_⟩
      cases i with
      | zero =>
        have:=plan_good (hf t (.head _)).1 hp
        simpa using this
      | succ i =>
        have:=h3 i (by simpa using hi);rw [List.append_assoc] at this
        simpa using this
/-- Two good paths, the later one planned beside the earlier, don't meet. -/
theorem plan_meets {w : Int} {c : List Int} {l : List S49} {N : Nat} {Q : List (List Int)} (hg : Gt w c l) (h : crowdV w c N l [] = some Q) : Goes w c N l Q ∧ ∀ k,k < N + 1 → ¬ Two Q k 0:=by
  obtain ⟨R,h1,h2,h3⟩:=crowd_goes l [] Q (gt_free hg) h;rw [List.nil_append] at h1;subst h1;refine ⟨⟨h2,fun i hi => ?_⟩,?_⟩
  · have g:=h3 i hi
    refine ⟨g.len,g.from_,g.to_,fun j h4 h5 => ?_⟩;have hgo:=g.go (j - 1) (by omega);rw [show j - 1 + 1 = j by omega] at hgo;exact ⟨g.free (j - 1) (by omega),hgo⟩
  · rintro k hk ⟨i,_,hi,j,_,hj,hh⟩
    have g:=h3 i (by omega);have gj:=h3 j (by omega)
    have hmem : Q.getD j [] ∈ [] ++ Q.take i:=by
      rw [List.nil_append,List.getD_eq_getElem?_getD,List.getElem?_eq_getElem (by omega)];exact List.mem_take_iff_getElem.2 ⟨j,by omega,rfl⟩
    (have hPA : ∀ a b,P_ Q a b = PA (Q.getD a []) b:=fun a b => rfl);unfold Hit at hh;rw [hPA,hPA,hPA,hPA] at hh
    cases k with
    | zero =>
      rcases hh with hh | ⟨hh,_⟩
      · exact g.start _ hmem (by rw [← hh,g.from_])
      · exact absurd hh (Nat.lt_irrefl 0)
    | succ k =>
      have hm:=g.may k (by omega) _ hmem;rw [Nat.succ_sub_one] at hh
      rcases hh with hh | ⟨_,hh1,hh2⟩
      · exact hm (.inl hh.symm)
      · exact hm (.inr ⟨Nat.succ_pos k,by rw [Nat.succ_sub_one];exact hh1.symm,hh2⟩)
end Go.Proofs.Ytcldlljnaijmhaa.Pure
/-
Own text: FirstMeet of paths that never meet.
-/
namespace Go.Proofs.Ytcldlljnaijmhaa.Pure
open Go.RowKit Go.Proofs.YtcldlljnaijmhaaW.PrintWords Go.Proofs.YtcldlljnaijmhaaW.PrintLast Go.Proofs.Ytcldlljnaijmhaa.Pr Go.Proofs.Ytcldlljnaijmhaa.EvKit
open Classical

theorem no_meet (l : List (List Int)) (m : Nat) (h5 : l.length ≤ 5) (hm2 : m ≤ 1048576) (hl : ∀ i,i < l.length → (l.getD i []).length = m) (hno : ∀ k,k < m → ¬ Two l k 0) :
    Ev (fun q => impl_FirstMeet.f q l) (-1) ∧ Ev (fun q => spec_FirstMeet.f q l) (-1):=by
  simp only [impl_FirstMeet.f,spec_FirstMeet.f];(have h5' : ¬ (l.length : Int) > 5:=by omega);by_cases hz : l.length = 0
  · obtain ⟨a,b⟩:=both_m0 l h5 _ rfl (-1) l.length 0 (by omega) (fun _ => ⟨fun _ => rfl,fun h => absurd hz h⟩) (fun _ => rfl)
    exact ⟨Ev.neg h5' b,Ev.neg h5' a⟩
  · have hlen : (l.getD 0 []).length = m:=hl 0 (by omega)
    (have hm : Long l (l.getD 0 []).length 0:=fun j _ hj => by rw [hlen];exact hl j hj);obtain ⟨r,p1,p2,p3,p4,p5⟩:=both_m1 l _ hm h5 (by omega) _ 0 (Nat.zero_add _)
    have hr : r = -1:=by
      rcases p1 with h | ⟨h1,h2⟩
      · exact h
      · obtain ⟨q,rfl⟩ : ∃ q : Nat,r = (q : Int):=⟨r.toNat,by omega⟩
        exact absurd (p3 q rfl) (hno q (by omega))
    subst hr;obtain ⟨a,b⟩:=both_m0 l h5 _ rfl (-1) l.length 0 (by omega) (fun _ => ⟨fun h => absurd h hz,fun _ => ⟨p4,p5⟩⟩) (fun h => absurd hm h);exact ⟨Ev.neg h5' b,Ev.neg h5' a⟩
/-- What a plan is: good paths that never meet. -/
theorem planV_good {w : Int} {c : List Int} {l : List S49} {t : Int} {Q : List (List Int)} (hn : c.length ≤ 35184372088832) (h : planV w c l t = some Q) :
    ∃ N : Nat,N ≤ 20 ∧ t = (N : Int) ∧ Gt w c l ∧ Goes w c N l Q ∧ (∀ k,k < N + 1 → ¬ Two Q k 0) ∧ (Ev (fun q => impl_FirstMeet.f q Q) (-1) ∧ Ev (fun q => spec_FirstMeet.f q Q) (-1)) ∧
      Ev (fun k => impl_GoodPaths.f k w c l Q) true ∧ Ev (fun k => spec_GoodPaths.f k w c l Q) true:=by
  unfold planV at h
  split at h
  case isFalse => cases h
  case isTrue hc =>
    obtain ⟨hg,h0,h1⟩:=hc;obtain ⟨N,rfl⟩ : ∃ N : Nat,t = (N : Int):=⟨t.toNat,by omega⟩;rw [Int.toNat_natCast] at h;obtain ⟨a,b⟩:=plan_meets hg h;have hm:=no_meet Q (N + 1) (by have:=hg.2.1;have:=a.1;omega) (by omega) (fun i hi => (a.2 i (by have:=a.1;omega)).1) b;exact ⟨N,by omega,rfl,hg,a,b,hm,goodPaths_true w c l Q N (by omega) hn hg a hm.1 hm.2⟩
end Go.Proofs.Ytcldlljnaijmhaa.Pure
/-
Own text: the cursor that draws numbers out of a code: it always answers,within its bounds.
-/
namespace Go.Proofs.Ytcldlljnaijmhaa.Pure
open Go.RowKit Go.Proofs.YtcldlljnaijmhaaW.PrintWords Go.Proofs.YtcldlljnaijmhaaW.PrintLast Go.Proofs.Ytcldlljnaijmhaa.Pr Go.Proofs.Ytcldlljnaijmhaa.EvKit

/-- A code: bytes, not too many. -/
def Code (c : List Int) : Prop:=c.length ≤ 1048576 ∧ ∀ y ∈ c,0 ≤ y ∧ y ≤ 255
theorem wrap_u64 (n : Int) : IntKind.u64.wrap n = n % 18446744073709551616:=by
  simp [IntKind.wrap,IntKind.bits,IntKind.signed]
theorem mask_in (n : Int) : 0 ≤ Go.bits .and .u64 (IntKind.u64.wrap n / 1099511627776) 255 ∧ Go.bits .and .u64 (IntKind.u64.wrap n / 1099511627776) 255 ≤ 255:=by
  have h0 : 0 ≤ IntKind.u64.wrap n / 1099511627776 ∧ IntKind.u64.wrap n / 1099511627776 < 2 ^ 32:=by
    rw [wrap_u64]
    omega
  have h:=bits_mask .u64 32 (by decide) (fun m h1 h2 => by rw [wrap_u64];omega) 8 (by decide) _ h0.1 h0.2;rw [show ((2 : Int) ^ 8 - 1) = 255 by decide] at h;rw [h]
  omega
theorem code_rd {c : List Int} (hc : Code c) (i : Int) : 0 ≤ rd c i ∧ rd c i ≤ 255:=by
  unfold rd;rw [List.getD_eq_getElem?_getD];by_cases h : i.toNat < c.length
  · rw [List.getElem?_eq_getElem h]
    exact hc.2 _ (List.getElem_mem h)
  · rw [List.getElem?_eq_none (by omega)]
    exact ⟨by decide,by decide⟩
theorem next_ok {c : List Int} (hc : Code c) (a s : Int) (h0 : 0 ≤ a) (h1 : a ≤ 4611686018427387904) : ∃ b s',spec_l1Cur_next.f c a s = some (b,a + 1,s') ∧ 0 ≤ b ∧ b ≤ 255:=by
  unfold spec_l1Cur_next.f;have e : wrap64 (a + 1) = a + 1:=wrap64_id (by omega) (by omega);have hr:=code_rd hc a;rw [e];by_cases h2 : a < (c.length : Int)
  · rw [if_pos h2,if_pos h0,if_pos (by omega)]
    exact ⟨_,_,rfl,by rw [wrap64_id (by omega) (by omega)];exact hr.1,by rw [wrap64_id (by omega) (by omega)];exact hr.2⟩
  · rw [if_neg h2,if_neg (by omega)]
    have hm:=mask_in ((IntKind.u64.wrap ((IntKind.u64.wrap (s * 6364136223846793005)) + 0)) + 1442695040888963407);exact ⟨_,_,rfl,by rw [wrap64_id (by omega) (by omega)];exact hm.1,by rw [wrap64_id (by omega) (by omega)];exact hm.2⟩
theorem tmod_in (x n : Int) (hx : 0 ≤ x) (hn : 0 < n) : 0 ≤ x.tmod n ∧ x.tmod n < n:=by
  rw [Int.tmod_eq_emod_of_nonneg hx];exact ⟨Int.emod_nonneg _ (by omega),Int.emod_lt_of_pos _ hn⟩
theorem pick_ok {c : List Int} (hc : Code c) (a s n : Int) (h0 : 0 ≤ a) (h1 : a ≤ 4611686018427387000) : ∃ v a' s',spec_l1Cur_pick.f c a s n = some (v,a',s') ∧ a ≤ a' ∧ a' ≤ a + 2 ∧ 0 ≤ v ∧ (1 < n → v < n) ∧ (n ≤ 1 → v = 0):=by
  unfold spec_l1Cur_pick.f;by_cases hn : n ≤ 1
  · rw [if_pos hn]
    exact ⟨0,a,s,rfl,by omega,by omega,by omega,by omega,fun _ => rfl⟩
  · rw [if_neg hn]
    obtain ⟨b,s1,e1,b0,b1⟩:=next_ok hc a s h0 (by omega);rw [e1];simp only [Option.bind_some];by_cases h2 : n > 200
    · rw [if_pos h2]
      obtain ⟨b2,s2,e2,b20,b21⟩:=next_ok hc (a + 1) s1 (by omega) (by omega);rw [e2];simp only [Option.bind_some];rw [if_neg (by omega),wrap64_id (x:=b * 256) (by omega) (by omega),wrap64_id (x:=b * 256 + b2) (by omega) (by omega)];have:=tmod_in (b * 256 + b2) n (by omega) (by omega);exact ⟨_,_,_,rfl,by omega,by omega,this.1,fun _ => this.2,fun h => by omega⟩
    · rw [if_neg h2,if_neg (by omega)]
      have:=tmod_in b n b0 (by omega);exact ⟨_,_,_,rfl,by omega,by omega,this.1,fun _ => this.2,fun h => by omega⟩
theorem one_ok {c : List Int} (hc : Code c) (a s n : Int) (h0 : 0 ≤ a) (h1 : a ≤ 4611686018427387000) : ∃ b a' s',spec_l1Cur_one.f c a s n = some (b,a',s') ∧ a ≤ a' ∧ a' ≤ a + 2:=by
  obtain ⟨v,a',s',e,h2,h3,_⟩:=pick_ok hc a s n h0 h1;unfold spec_l1Cur_one.f;rw [e];exact ⟨_,_,_,rfl,h2,h3⟩
theorem among_ok {c : List Int} (hc : Code c) (a s : Int) (l : List Int) (hl : 0 < l.length) (h0 : 0 ≤ a) (h1 : a ≤ 4611686018427387000) : ∃ v a' s',spec_l1Cur_among.f c a s l = some (v,a',s') ∧ a ≤ a' ∧ a' ≤ a + 2 ∧ v ∈ l:=by
  obtain ⟨v,a',s',e,h2,h3,h4,h5,h6⟩:=pick_ok hc a s (l.length : Int) h0 h1
  have hv : v < (l.length : Int):=by
    by_cases h : (1 : Int) < l.length
    · exact h5 h
    · have:=h6 (by omega)
      omega
  unfold spec_l1Cur_among.f;rw [e];simp only [Option.bind_some];rw [if_pos h4,if_pos hv];refine ⟨_,_,_,rfl,h2,h3,?_⟩;unfold rd;exact getD_mem l _ _ (by omega)
end Go.Proofs.Ytcldlljnaijmhaa.Pure
/-
Own text: cells and ends that are drawn: there are always some,not too many.
-/
namespace Go.Proofs.Ytcldlljnaijmhaa.Pure
open Go.RowKit Go.Proofs.YtcldlljnaijmhaaW.PrintWords Go.Proofs.YtcldlljnaijmhaaW.PrintLast Go.Proofs.Ytcldlljnaijmhaa.Pr Go.Proofs.Ytcldlljnaijmhaa.EvKit

theorem extent_ok {c : List Int} (hc : Code c) (a s : Int) (h0 : 0 ≤ a) (h1 : a ≤ 1000000000) : ∃ w h a' s',spec_l1Cur_extent.f c a s = some (w,h,a',s') ∧ 0 ≤ w ∧ w ≤ 17 ∧ 0 ≤ h ∧ h ≤ 17 ∧ a ≤ a' ∧ a' ≤ a + 6:=by
  unfold spec_l1Cur_extent.f;obtain ⟨b,a1,s1,e1,p1,p2⟩:=one_ok hc a s 12 h0 (by omega);rw [e1];simp only [Option.bind_some]
  cases b with
  | true =>
    obtain ⟨w,a2,s2,e2,q1,q2,hw⟩:=among_ok hc a1 s1 [16,1,17,0] (by simp) (by omega) (by omega);obtain ⟨h,a3,s3,e3,r1,r2,hh⟩:=among_ok hc a2 s2 [16,1,0,17] (by simp) (by omega) (by omega);simp only [List.mem_cons,List.not_mem_nil,or_false] at hw hh;rw [if_pos rfl,e2];simp only [Option.bind_some];rw [e3];exact ⟨w,h,a3,s3,rfl,by omega,by omega,by omega,by omega,by omega,by omega⟩
  | false =>
    obtain ⟨w,a2,s2,e2,q1,q2,q3,q4,_⟩:=pick_ok hc a1 s1 6 (by omega) (by omega);obtain ⟨h,a3,s3,e3,r1,r2,r3,r4,_⟩:=pick_ok hc a2 s2 6 (by omega) (by omega);have:=q4 (by omega);have:=r4 (by omega);rw [if_neg (by simp),e2];simp only [Option.bind_some];rw [e3];simp only [Option.bind_some];rw [wrap64_id (x:=1 + w) (by omega) (by omega),wrap64_id (x:=1 + h) (by omega) (by omega)];exact ⟨1 + w,1 + h,a3,s3,rfl,by omega,by omega,by omega,by omega,by omega,by omega⟩

theorem cells_j1 {c : List Int} (hc : Code c) (w : Int) (x : List Int) (hx : x.length ≤ 900) (b : Bool) (hb : b = true → 0 < x.length) (a s : Int) (h0 : 0 ≤ a) (h1 : a ≤ 2000000000) :
    ∃ (m : List Int) (a' s' : Int),Ev (fun k => spec_l1Cur_cells.j1 k b c a s w x) (w,m,a',s') ∧ m.length ≤ 1000 ∧ a ≤ a' ∧ a' ≤ a + 4:=by
  cases b with
  | true =>
    have hl:=hb rfl;obtain ⟨v,a1,s1,e1,p1,p2,_⟩:=among_ok hc a s [-1,3] (by simp) h0 (by omega);obtain ⟨b2,a2,s2,e2,q1,q2⟩:=one_ok hc a1 s1 30 (by omega) (by omega);(have hlen : (x.set (0 : Int).toNat v).length = x.length:=by simp)
    cases b2 with
    | true =>
      refine ⟨x.set (0 : Int).toNat v ++ [0],a2,s2,Ev.succ ?_,by simp;omega,by omega,by omega⟩;simp only [spec_l1Cur_cells.j1];refine Ev.pos trivial (Ev.bnd0 e1 (Ev.pos (by omega) ?_));simp only [Option.bind_some];refine Ev.bnd0 e2 (Ev.pos rfl (Ev.pos (by rw [hlen];omega) (Ev.some rfl)))
    | false =>
      refine ⟨x.set (0 : Int).toNat v,a2,s2,Ev.succ ?_,by simp;omega,by omega,by omega⟩;simp only [spec_l1Cur_cells.j1];refine Ev.pos trivial (Ev.bnd0 e1 (Ev.pos (by omega) ?_));simp only [Option.bind_some];exact Ev.bnd0 e2 (Ev.neg (by simp) (Ev.some rfl))
  | false =>
    obtain ⟨b2,a2,s2,e2,q1,q2⟩:=one_ok hc a s 30 h0 (by omega)
    cases b2 with
    | true =>
      refine ⟨x ++ [0],a2,s2,Ev.succ ?_,by simp;omega,by omega,by omega⟩;simp only [spec_l1Cur_cells.j1];exact Ev.neg (by simp) (Ev.bnd0 e2 (Ev.pos rfl (Ev.pos (by omega) (Ev.some rfl))))
    | false =>
      refine ⟨x,a2,s2,Ev.succ ?_,by omega,by omega,by omega⟩;simp only [spec_l1Cur_cells.j1];exact Ev.neg (by simp) (Ev.bnd0 e2 (Ev.neg (by simp) (Ev.some rfl)))

theorem drawC_l0 {c : List Int} (hc : Code c) (w h : Int) (n : Nat) (hn : wrap64 (w * h) = (n : Int)) (hn2 : n ≤ 300) (walls W : Int) (d : Nat) : ∀ (i : Nat) (x : List Int) (a s : Int),i + d = n → x.length = i → 0 ≤ a → a + 8 * d ≤ 1000000000 →
    ∃ (m : List Int) (a' s' : Int),Ev (fun k => spec_l1Cur_cells.l0 k w h walls (i : Int) c a s W x) (W,m,a',s') ∧ m.length ≤ 1000 ∧ a ≤ a' ∧ a' ≤ a + 8 * d + 6:=by
  induction d with
  | zero =>
    intro i x a s hi hx h0 h1;obtain ⟨b,a1,s1,e1,p1,p2⟩:=one_ok hc a s 24 h0 (by omega)
    cases b with
    | true =>
      obtain ⟨m,a2,s2,e2,q1,q2,q3⟩:=cells_j1 hc W x (by omega) (decide ((x.length : Int) > 0)) (by simp) a1 s1 (by omega) (by omega);refine ⟨m,a2,s2,Ev.succ ?_,q1,by omega,by omega⟩;simp only [spec_l1Cur_cells.l0,hn];exact Ev.neg (by omega) (Ev.bnd0 e1 (Ev.pos rfl e2))
    | false =>
      obtain ⟨m,a2,s2,e2,q1,q2,q3⟩:=cells_j1 hc W x (by omega) false (by simp) a1 s1 (by omega) (by omega);refine ⟨m,a2,s2,Ev.succ ?_,q1,by omega,by omega⟩;simp only [spec_l1Cur_cells.l0,hn];exact Ev.neg (by omega) (Ev.bnd0 e1 (Ev.neg (by simp) e2))
  | succ d ih =>
    intro i x a s hi hx h0 h1;obtain ⟨v,a1,s1,e1,p1,p2,_⟩:=pick_ok hc a s 10 h0 (by omega);obtain ⟨b,a2,s2,e2,q1,q2⟩:=one_ok hc a1 s1 20 (by omega) (by omega)
    have nx : ∀ k : Int,∃ (m : List Int) (a' s' : Int),Ev (fun q => spec_l1Cur_cells.l0 q w h walls ((i + 1 : Nat) : Int) c a2 s2 W (x ++ [k])) (W,m,a',s') ∧ m.length ≤ 1000 ∧ a ≤ a' ∧ a' ≤ a + 8 * ((d + 1 : Nat) : Int) + 6:=by
      intro k;obtain ⟨m,a3,s3,e3,r1,r2,r3⟩:=ih (i + 1) (x ++ [k]) a2 s2 (by omega) (by simp;omega) (by omega) (by omega);exact ⟨m,a3,s3,e3,r1,by omega,by omega⟩
    (have hw : ((i : Int) < (n : Int)):=by omega)
    have fin : ∀ k : Int,(b = true → k = 2) → (b = false → v < walls → k = 1) → (b = false → ¬ v < walls → k = 0) → ∃ (m : List Int) (a' s' : Int),Ev (fun q => spec_l1Cur_cells.l0 q w h walls (i : Int) c a s W x) (W,m,a',s') ∧ m.length ≤ 1000 ∧ a ≤ a' ∧ a' ≤ a + 8 * ((d + 1 : Nat) : Int) + 6:=by
      intro k k1 k2 k3;obtain ⟨m,a3,s3,e3,r⟩:=nx k;refine ⟨m,a3,s3,Ev.succ ?_,r⟩;simp only [spec_l1Cur_cells.l0,hn,succ_w (show i < 35184372088833 by omega)];refine Ev.pos hw (Ev.bnd0 e1 (Ev.ite (fun hv => Ev.bnd0 e2 ?_) (fun hv => Ev.bnd0 e2 ?_)))
      · cases b with
        | true => rw [k1 rfl] at e3;exact Ev.pos rfl (Ev.pos (by omega) e3)
        | false => rw [k2 rfl hv] at e3;exact Ev.neg (by simp) (Ev.pos (by omega) e3)
      · cases b with
        | true => rw [k1 rfl] at e3;exact Ev.pos rfl (Ev.pos (by omega) e3)
        | false => rw [k3 rfl hv] at e3;exact Ev.neg (by simp) (Ev.pos (by omega) e3)
    cases b with
    | true => exact fin 2 (fun _ => rfl) (fun h => by cases h) (fun h => by cases h)
    | false =>
      by_cases hv : v < walls
      · exact fin 1 (fun h => by cases h) (fun _ _ => rfl) (fun _ h => absurd hv h)
      · exact fin 0 (fun h => by cases h) (fun _ h => absurd h hv) (fun _ _ => rfl)

theorem cells_ok {c : List Int} (hc : Code c) (a s : Int) (h0 : 0 ≤ a) (h1 : a ≤ 900000000) :
    ∃ (w : Int) (m : List Int) (a' s' : Int),Ev (fun k => spec_l1Cur_cells.f k c a s) (w,m,a',s') ∧ m.length ≤ 1000 ∧ a ≤ a' ∧ a' ≤ a + 3000:=by
  obtain ⟨w,h,a1,s1,e1,w0,w1,h2,h3,p1,p2⟩:=extent_ok hc a s h0 (by omega);obtain ⟨v,a2,s2,e2,q1,q2,_⟩:=pick_ok hc a1 s1 5 (by omega) (by omega);have m0:=Int.mul_nonneg w0 h2;have m1:=Int.mul_le_mul w1 h3 h2 (by omega : (0 : Int) ≤ 17);obtain ⟨n,hn⟩:=nat_of m0;obtain ⟨m,a3,s3,e3,r1,r2,r3⟩:=drawC_l0 hc w h n (by rw [wrap64_id (by omega) (by omega)];exact hn) (by omega) v w n 0 [] a2 s2 (by omega) rfl (by omega) (by omega);refine ⟨w,m,a3,s3,?_,r1,by omega,by omega⟩;simp only [spec_l1Cur_cells.f];exact Ev.bnd0 e1 (Ev.bnd0 e2 e3)

theorem places_l0 (w : Int) (m : List Int) (hm : m.length ≤ 1000) (d : Nat) : ∀ (i : Nat) (x : List Int),i + d = m.length → x.length ≤ i → ∃ r : List Int,Ev (fun k => spec_AllPlaces.l0 k x (m.length : Int) i w m) r ∧ r.length ≤ 1000:=by
  induction d with
  | zero =>
    intro i x hi hx;refine ⟨x,Ev.succ ?_,by omega⟩;simp only [spec_AllPlaces.l0];exact Ev.neg (by omega) (Ev.some rfl)
  | succ d ih =>
    intro i x hi hx;by_cases hz : rd m (i : Int) = 0
    · obtain ⟨r,e,hr⟩:=ih (i + 1) (x ++ [(i : Int)]) (by omega) (by simp;omega)
      refine ⟨r,Ev.succ ?_,hr⟩;simp only [spec_AllPlaces.l0,succ_w (show i < 35184372088833 by omega)];exact Ev.pos (by omega) (Ev.pos (by omega) (Ev.pos (by omega) (Ev.pos hz (Ev.pos (by omega) e))))
    · obtain ⟨r,e,hr⟩:=ih (i + 1) x (by omega) (by omega)
      refine ⟨r,Ev.succ ?_,hr⟩;simp only [spec_AllPlaces.l0,succ_w (show i < 35184372088833 by omega)];exact Ev.pos (by omega) (Ev.pos (by omega) (Ev.pos (by omega) (Ev.neg hz e)))
theorem places_ok (w : Int) (m : List Int) (hm : m.length ≤ 1000) : ∃ r : List Int,Ev (fun k => spec_AllPlaces.f k w m) r ∧ r.length ≤ 1000:=by
  simp only [spec_AllPlaces.f];by_cases h : Cl w m
  · obtain ⟨r,e,hr⟩:=places_l0 w m hm m.length 0 [] (by omega) (by simp)
    exact ⟨r,Ev.bnd (goodCells_spec w m (by omega)) (Ev.pos (by simpa using h) e),hr⟩
  · exact ⟨[],Ev.bnd (goodCells_spec w m (by omega)) (Ev.neg (by simpa using h) (Ev.some rfl)),by simp⟩

end Go.Proofs.Ytcldlljnaijmhaa.Pure
/-
Own text: yards,trips and waits that are drawn: there are always some,not too many.
-/
namespace Go.Proofs.Ytcldlljnaijmhaa.Pure
open Go.RowKit Go.Proofs.YtcldlljnaijmhaaW.PrintWords Go.Proofs.YtcldlljnaijmhaaW.PrintLast Go.Proofs.Ytcldlljnaijmhaa.Pr Go.Proofs.Ytcldlljnaijmhaa.EvKit

theorem yard_l0 {c : List Int} (hc : Code c) (w h : Int) (n : Nat) (hn : wrap64 (w * h) = (n : Int)) (hn2 : n ≤ 900) (d : Nat) : ∀ (i : Nat) (x : List Int) (a s : Int),i + d = n → x.length = i → 0 ≤ a → a + 8 * d ≤ 1000000000 →
    ∃ (m : List Int) (a' s' : Int),Ev (fun k => spec_l1Cur_yard.l0 k h i c a s w x) (w,m,a',s') ∧ m.length ≤ 900 ∧ a ≤ a' ∧ a' ≤ a + 8 * d:=by
  induction d with
  | zero =>
    intro i x a s hi hx h0 h1;refine ⟨x,a,s,Ev.succ ?_,by omega,by omega,by omega⟩;simp only [spec_l1Cur_yard.l0,hn];exact Ev.neg (by omega) (Ev.some rfl)
  | succ d ih =>
    intro i x a s hi hx h0 h1;obtain ⟨b,a1,s1,e1,p1,p2⟩:=one_ok hc a s 6 h0 (by omega)
    have fin : ∀ z : Int,(b = true → z = 1) → (b = false → z = 0) → ∃ (m : List Int) (a' s' : Int),Ev (fun k => spec_l1Cur_yard.l0 k h i c a s w x) (w,m,a',s') ∧ m.length ≤ 900 ∧ a ≤ a' ∧ a' ≤ a + 8 * ((d + 1 : Nat) : Int):=by
      intro z hz1 hz0;obtain ⟨m,a2,s2,e2,q1,q2,q3⟩:=ih (i + 1) (x ++ [z]) a1 s1 (by omega) (by simp [hx]) (by omega) (by omega);refine ⟨m,a2,s2,Ev.succ ?_,q1,by omega,by omega⟩;simp only [spec_l1Cur_yard.l0,hn,succ_w (show i < 35184372088833 by omega)];refine Ev.pos (by omega) (Ev.bnd0 e1 ?_)
      cases b with
      | true => rw [hz1 rfl] at e2;exact Ev.pos rfl (Ev.pos (by omega) e2)
      | false => rw [hz0 rfl] at e2;exact Ev.neg (by simp) (Ev.pos (by omega) e2)
    cases b with
    | true => exact fin 1 (fun _ => rfl) (fun h => by cases h)
    | false => exact fin 0 (fun h => by cases h) (fun _ => rfl)
theorem yard_ok {c : List Int} (hc : Code c) (a s : Int) (h0 : 0 ≤ a) (h1 : a ≤ 100000000) :
    ∃ (w : Int) (m : List Int) (a' s' : Int),Ev (fun k => spec_l1Cur_yard.f k c a s) (w,m,a',s') ∧ m.length ≤ 1000 ∧ a ≤ a' ∧ a' ≤ a + 10000:=by
  simp only [spec_l1Cur_yard.f];obtain ⟨b,a1,s1,e1,p1,p2⟩:=one_ok hc a s 20 h0 (by omega)
  cases b with
  | true =>
    obtain ⟨w,m,a2,s2,e2,q1,q2,q3⟩:=cells_ok hc a1 s1 (by omega) (by omega);exact ⟨w,m,a2,s2,Ev.bnd0 e1 (Ev.pos rfl (Ev.bnd e2 (Ev.some rfl))),q1,by omega,by omega⟩
  | false =>
    obtain ⟨v,a2,s2,e2,q1,q2,q3,q4,_⟩:=pick_ok hc a1 s1 4 (by omega) (by omega);obtain ⟨u,a3,s3,e3,r1,r2,r3,r4,_⟩:=pick_ok hc a2 s2 4 (by omega) (by omega);have hv:=q4 (by omega);have hu:=r4 (by omega);have w1 : wrap64 (2 + v) = 2 + v:=wrap64_id (by omega) (by omega);have w2 : wrap64 (1 + u) = 1 + u:=wrap64_id (by omega) (by omega);have m0:=Int.mul_nonneg (show 0 ≤ 2 + v by omega) (show 0 ≤ 1 + u by omega);have m1:=Int.mul_le_mul (show 2 + v ≤ 5 by omega) (show 1 + u ≤ 4 by omega) (by omega) (by omega : (0 : Int) ≤ 5);obtain ⟨n,hn⟩:=nat_of m0;obtain ⟨m,a4,s4,e4,t1,t2,t3⟩:=yard_l0 hc (2 + v) (1 + u) n (by rw [wrap64_id (by omega) (by omega)];exact hn) (by omega) n 0 [] a3 s3 (by omega) rfl (by omega) (by omega);refine ⟨2 + v,m,a4,s4,?_,by omega,by omega,by omega⟩;refine Ev.bnd0 e1 (Ev.neg (by simp) (Ev.bnd0 e2 (Ev.bnd0 e3 ?_)));rw [w1,w2];exact e4
theorem tripsD_l1 (c : List Int) (hc : Code c) (pl : List Int) (x y : Int) (l : List S49) (hl : l.length ≤ 100) (n a s : Int) (h0 : 0 ≤ a) (h1 : a ≤ 1000000000) (R : List S49 → Int → Prop)
    (hN : ∀ (l' : List S49) (a' s' : Int),l'.length ≤ l.length + 1 → a ≤ a' → a' ≤ a + 2 → ∃ (r : List S49) (a2 s2 : Int),Ev (fun k => spec_l1Cur_trips.l0 k pl l' (wrap64 (n - 1)) c a' s') (r,a2,s2) ∧ R r a2) (d : Nat) : ∀ (j : Nat) (b : Bool),j + d = l.length →
    ∃ (r : List S49) (a2 s2 : Int),Ev (fun k => spec_l1Cur_trips.l1 k pl l n b l (l.length : Int) j c a s x y) (r,a2,s2) ∧ R r a2:=by
  induction d with
  | zero =>
    intro j b hj
    cases b with
    | true =>
      obtain ⟨o,a1,s1,e1,p1,p2⟩:=one_ok hc a s 24 h0 (by omega)
      cases o with
      | true =>
        obtain ⟨r,a2,s2,e2,hr⟩:=hN (l ++ [⟨x,y⟩]) a1 s1 (by simp) p1 p2;refine ⟨r,a2,s2,Ev.succ ?_,hr⟩;simp only [spec_l1Cur_trips.l1];exact Ev.neg (by omega) (Ev.pos trivial (Ev.bnd0 e1 (Ev.pos rfl (Ev.pos (by omega) e2))))
      | false =>
        obtain ⟨r,a2,s2,e2,hr⟩:=hN l a1 s1 (by omega) p1 p2;refine ⟨r,a2,s2,Ev.succ ?_,hr⟩;simp only [spec_l1Cur_trips.l1];exact Ev.neg (by omega) (Ev.pos trivial (Ev.bnd0 e1 (Ev.neg (by simp) e2)))
    | false =>
      obtain ⟨r,a2,s2,e2,hr⟩:=hN (l ++ [⟨x,y⟩]) a s (by simp) (by omega) (by omega);refine ⟨r,a2,s2,Ev.succ ?_,hr⟩;simp only [spec_l1Cur_trips.l1];exact Ev.neg (by omega) (Ev.neg (by simp) (Ev.pos (by omega) e2))
  | succ d ih =>
    intro j b hj;have sw:=succ_w (show j < 35184372088833 by omega)
    cases b with
    | true =>
      obtain ⟨r,a2,s2,e2,hr⟩:=ih (j + 1) true (by omega);refine ⟨r,a2,s2,Ev.succ ?_,hr⟩;simp only [spec_l1Cur_trips.l1,sw];exact Ev.pos (by omega) (Ev.pos (by omega) (Ev.pos (by omega) (Ev.pos trivial e2)))
    | false =>
      by_cases hx : (rd_T49 l (j : Int)).f0 = x
      · obtain ⟨r,a2,s2,e2,hr⟩:=ih (j + 1) true (by omega)
        refine ⟨r,a2,s2,Ev.succ ?_,hr⟩;simp only [spec_l1Cur_trips.l1,sw];exact Ev.pos (by omega) (Ev.pos (by omega) (Ev.pos (by omega) (Ev.neg (by simp) (Ev.pos hx e2))))
      · obtain ⟨r,a2,s2,e2,hr⟩:=ih (j + 1) ((rd_T49 l (j : Int)).f1 == y) (by omega)
        refine ⟨r,a2,s2,Ev.succ ?_,hr⟩;simp only [spec_l1Cur_trips.l1,sw];exact Ev.pos (by omega) (Ev.pos (by omega) (Ev.pos (by omega) (Ev.neg (by simp) (Ev.neg hx e2))))
theorem trips_d (c : List Int) (hc : Code c) (pl : List Int) (hpl : pl.length ≤ 1000) (n : Nat) : ∀ (l : List S49) (a s : Int),l.length + n ≤ 50 → 0 ≤ a → a + 10 * n ≤ 1000000000 →
    ∃ (r : List S49) (a2 s2 : Int),Ev (fun k => spec_l1Cur_trips.l0 k pl l (n : Int) c a s) (r,a2,s2) ∧ r.length ≤ 50 ∧ a ≤ a2 ∧ a2 ≤ a + 10 * n:=by
  induction n with
  | zero =>
    intro l a s hl h0 h1;refine ⟨l,a,s,Ev.succ ?_,by omega,by omega,by omega⟩;simp only [spec_l1Cur_trips.l0];refine Ev.neg (by omega) (Ev.succ ?_);simp only [spec_l1Cur_trips.j2];exact Ev.neg (by simp) (Ev.some rfl)
  | succ n ih =>
    intro l a s hl h0 h1;by_cases hp : (pl.length : Int) > 0
    · obtain ⟨v,a1,s1,e1,p1,p2,p3,p4,p5⟩:=pick_ok hc a s (pl.length : Int) h0 (by omega)
      obtain ⟨u,a2,s2,e2,q1,q2,q3,q4,q5⟩:=pick_ok hc a1 s1 (pl.length : Int) (by omega) (by omega)
      have hv : v < (pl.length : Int):=by
        by_cases h : 1 < (pl.length : Int)
        · exact p4 h
        · have:=p5 (by omega);omega
      have hu : u < (pl.length : Int):=by
        by_cases h : 1 < (pl.length : Int)
        · exact q4 h
        · have:=q5 (by omega);omega
      obtain ⟨r,a3,s3,e3,hr⟩:=tripsD_l1 c hc pl (rd pl v) (rd pl u) l (by omega) ((n + 1 : Nat) : Int) a2 s2 (by omega) (by omega) (fun r a3 => r.length ≤ 50 ∧ a2 ≤ a3 ∧ a3 ≤ a2 + 2 + 10 * n) (fun l' a' s' h6 h7 h8 => by
        obtain ⟨r,a4,s4,e4,t1,t2,t3⟩:=ih l' a' s' (by omega) (by omega) (by omega);refine ⟨r,a4,s4,?_,t1,by omega,by omega⟩;rw [show wrap64 (((n + 1 : Nat) : Int) - 1) = (n : Int) by rw [wrap64_id (by omega) (by omega)];omega]
        exact e4) l.length 0 false (by omega)
      refine ⟨r,a3,s3,Ev.succ ?_,hr.1,by have:=hr.2.1;omega,by have:=hr.2.2;omega⟩;simp only [spec_l1Cur_trips.l0];refine Ev.pos (by omega) (Ev.succ ?_);simp only [spec_l1Cur_trips.j2];exact Ev.pos (by simpa using hp) (Ev.bnd0 e1 (Ev.pos p3 (Ev.pos hv (Ev.bnd0 e2 (Ev.pos q3 (Ev.pos hu e3))))))
    · refine ⟨l,a,s,Ev.succ ?_,by omega,by omega,by omega⟩
      simp only [spec_l1Cur_trips.l0];refine Ev.pos (by omega) (Ev.succ ?_);simp only [spec_l1Cur_trips.j2];exact Ev.neg (by simpa using hp) (Ev.some rfl)
theorem trips_ok {c : List Int} (hc : Code c) (w : Int) (m : List Int) (hm : m.length ≤ 1000) (a s : Int) (h0 : 0 ≤ a) (h1 : a ≤ 100000000) : ∃ (r : List S49) (a2 s2 : Int),Ev (fun k => spec_l1Cur_trips.f k c a s w m) (r,a2,s2) ∧ r.length ≤ 50:=by
  obtain ⟨pl,e0,hpl⟩:=places_ok w m hm;obtain ⟨v,a1,s1,e1,p1,p2,p3,p4,_⟩:=pick_ok hc a s 3 h0 (by omega);obtain ⟨b,a2,s2,e2,q1,q2⟩:=one_ok hc a1 s1 12 (by omega) (by omega);have hv:=p4 (by omega);simp only [spec_l1Cur_trips.f]
  cases b with
  | true =>
    obtain ⟨u,a3,s3,e3,r1,r2,r3,r4,_⟩:=pick_ok hc a2 s2 7 (by omega) (by omega);have hu:=r4 (by omega);obtain ⟨n,rfl⟩:=nat_of r3;obtain ⟨r,a4,s4,e4,t1,_⟩:=trips_d c hc pl hpl n [] a3 s3 (by simp;omega) (by omega) (by omega);refine ⟨r,a4,s4,Ev.bnd e0 (Ev.bnd0 e1 (Ev.bnd0 e2 (Ev.pos rfl (Ev.bnd0 e3 (Ev.succ ?_))))),t1⟩;simp only [spec_l1Cur_trips.j0];exact e4
  | false =>
    obtain ⟨n,hn⟩:=nat_of (show 0 ≤ 1 + v by omega);obtain ⟨r,a4,s4,e4,t1,_⟩:=trips_d c hc pl hpl n [] a2 s2 (by simp;omega) (by omega) (by omega);refine ⟨r,a4,s4,Ev.bnd e0 (Ev.bnd0 e1 (Ev.bnd0 e2 (Ev.neg (by simp) (Ev.succ ?_)))),t1⟩;simp only [spec_l1Cur_trips.j0];rw [wrap64_id (x:=1 + v) (by omega) (by omega),hn];exact e4
theorem drawPlan_ok {c : List Int} (hc : Code c) : ∃ (w : Int) (m : List Int) (l : List S49) (n : Int),Ev (fun k => spec_DrawPlanCrowd.f k c) (w,m,l,n) ∧ m.length ≤ 1000:=by
  obtain ⟨w,m,a1,s1,e1,hm,p1,p2⟩:=yard_ok hc 0 0 (by omega) (by omega);obtain ⟨v,a2,s2,e2,q1,q2,q3,q4,_⟩:=pick_ok hc a1 s1 9 (by omega) (by omega);obtain ⟨b,a3,s3,e3,r1,r2⟩:=one_ok hc a2 s2 12 (by omega) (by omega);simp only [spec_DrawPlanCrowd.f]
  cases b with
  | true =>
    obtain ⟨u,a4,s4,e4,t1,t2,_⟩:=among_ok hc a3 s3 [-1,0,1,20,21] (by simp) (by omega) (by omega);obtain ⟨l,a5,s5,e5,_⟩:=trips_ok hc w m hm a4 s4 (by omega) (by omega);exact ⟨w,m,l,u,Ev.bnd e1 (Ev.bnd0 e2 (Ev.bnd0 e3 (Ev.pos rfl (Ev.bnd0 e4 (Ev.bnd e5 (Ev.some rfl)))))),hm⟩
  | false =>
    obtain ⟨l,a5,s5,e5,_⟩:=trips_ok hc w m hm a3 s3 (by omega) (by omega);exact ⟨w,m,l,wrap64 (4 + v),Ev.bnd e1 (Ev.bnd0 e2 (Ev.bnd0 e3 (Ev.neg (by simp) (Ev.bnd e5 (Ev.some rfl))))),hm⟩
end Go.Proofs.Ytcldlljnaijmhaa.Pure
/- THE LAW FnCrowd, as a statement over numbers and lists: a plan's paths are good, none is quicker than alone, and two not quicker than jointly. No condition. -/
namespace Go.Proofs.Ytcldlljnaijmhaa.Pure
open Go.RowKit Go.Proofs.YtcldlljnaijmhaaW.PrintWords Go.Proofs.YtcldlljnaijmhaaW.PrintLast Go.Proofs.Ytcldlljnaijmhaa.Pr Go.Proofs.Ytcldlljnaijmhaa.EvKit Go.Proofs.Ytcldlljnaijmhaa.Mp Go.Proofs.Ytcldlljnaijmhaa.Bfs
open Classical

/-- From the tick m on the path stands. -/
theorem there_l0 (p : List Int) (N : Nat) (hp : p.length = N + 1) (hN : N ≤ 20) : ∀ m : Nat,m ≤ N → (∀ j,m ≤ j → j ≤ N → p.getD j 0 = p.getD N 0) →
    ∃ q : Nat,q ≤ N ∧ (∀ j,q ≤ j → j ≤ N → p.getD j 0 = p.getD N 0) ∧ Ev (fun k => spec_ThereAtLast.l0 k p m) q:=by
  intro m
  induction m with
  | zero =>
    intro _ h;refine ⟨0,Nat.zero_le _,h,Ev.succ ?_⟩;simp only [spec_ThereAtLast.l0];exact Ev.neg (by omega) (Ev.some rfl)
  | succ m ih =>
    intro hm h;(have em : wrap64 (((m + 1 : Nat) : Int) - 1) = (m : Int):=by rw [wrap64_id (by omega) (by omega)];omega);have e1 : rd p (m : Int) = p.getD m 0:=rfl;have e2 : rd p ((m + 1 : Nat) : Int) = p.getD (m + 1) 0:=rfl;by_cases he : p.getD m 0 = p.getD (m + 1) 0
    · obtain ⟨q,a,b,e⟩:=ih (by omega) (fun j h1 h2 => by
        by_cases hj : j = m
        · rw [hj,he];exact h _ (Nat.le_refl _) hm
        · exact h j (by omega) h2)
      refine ⟨q,a,b,Ev.succ ?_⟩;simp only [spec_ThereAtLast.l0,em,e1,e2];exact Ev.pos (by omega) (Ev.pos (by omega) (Ev.pos (by omega) (Ev.pos (by omega) (Ev.pos (by omega) (Ev.pos he e)))))
    · refine ⟨m + 1,hm,h,Ev.succ ?_⟩
      simp only [spec_ThereAtLast.l0,em,e1,e2];exact Ev.pos (by omega) (Ev.pos (by omega) (Ev.pos (by omega) (Ev.pos (by omega) (Ev.pos (by omega) (Ev.neg he (Ev.some rfl))))))
theorem there_ev (p : List Int) (N : Nat) (hp : p.length = N + 1) (hN : N ≤ 20) : ∃ q : Nat,q ≤ N ∧ (∀ j,q ≤ j → j ≤ N → p.getD j 0 = p.getD N 0) ∧ Ev (fun k => spec_ThereAtLast.f k p) q:=by
  obtain ⟨q,a,b,e⟩:=there_l0 p N hp hN N (Nat.le_refl N) (fun j h1 h2 => by rw [show j = N by omega]);refine ⟨q,a,b,?_⟩;simp only [spec_ThereAtLast.f];rw [show wrap64 ((p.length : Int) - 1) = (N : Int) by rw [wrap64_id (by omega) (by omega)];omega];exact e

theorem gt_one {w : Int} {c : List Int} {l : List S49} (h : Gt w c l) {i : Nat} (hi : i < l.length) : Gt w c [⟨(TR l i).f0,(TR l i).f1⟩]:=by
  refine ⟨h.1,by simp,fun j _ hj => ?_⟩;(have hj0 : j = 0:=by simp at hj;exact hj);subst hj0;have:=h.2.2 i (Nat.zero_le _) hi;exact ⟨this.1,fun m _ hm => absurd hm (Nat.not_lt_zero m)⟩
theorem alone_le {w : Int} {c : List Int} {l : List S49} {N : Nat} {Q : List (List Int)} (hg : Gt w c l) (hq : Goes w c N l Q) (hn : c.length ≤ 35184372088832) {i : Nat} (hi : i < l.length) (q : Nat) (hqN : q ≤ N)
    (hst : ∀ j,q ≤ j → j ≤ N → (Q.getD i []).getD j 0 = (Q.getD i []).getD N 0) : ∃ t : Int,impl_AloneTicks.f w c (TR l i).f0 (TR l i).f1 = some t ∧ 0 ≤ t ∧ t ≤ q:=by
  obtain ⟨h1,h2,h3,h4⟩:=hq.2 i hi
  have hf:=gt_free hg (TR l i) (by
    unfold TR;rw [List.getD_eq_getElem?_getD,List.getElem?_eq_getElem hi]
    exact List.getElem_mem hi)
  obtain ⟨g,hr⟩:=fin_run (nx:=Gos w c) (s:=(TR l i).f0) (Us c.length) (mem_Us.2 ⟨hf.1.1,hf.1.2.1⟩) Gos_in
  obtain ⟨e,a,b,d⟩:=run_short hr (fun j => (Q.getD i []).getD j 0) h2 q (fun j hj => by
    have:=(h4 (j + 1) (by omega) (by omega)).2;rw [Nat.add_sub_cancel] at this
    exact this)
  refine ⟨e,?_,b,d⟩;(have hend : (Q.getD i []).getD q 0 = (TR l i).f1:=by rw [hst q (Nat.le_refl q) hqN,h3]);simp only [hend] at a;unfold impl_AloneTicks.f;rw [if_pos hn,if_pos (gt_one hg hi),a]
  rfl
theorem joint_le {w : Int} {c : List Int} {l : List S49} {N : Nat} {Q : List (List Int)} (hg : Gt w c l) (hq : Goes w c N l Q) (hno : ∀ k,k < N + 1 → ¬ Two Q k 0) (hn : c.length ≤ 36) (h2l : l.length = 2) (q : Nat) (hqN : q ≤ N)
    (hst0 : ∀ j,q ≤ j → j ≤ N → (Q.getD 0 []).getD j 0 = (Q.getD 0 []).getD N 0) (hst1 : ∀ j,q ≤ j → j ≤ N → (Q.getD 1 []).getD j 0 = (Q.getD 1 []).getD N 0) :
    ∃ t : Int,impl_JointTicks.f w c (TR l 0).f0 (TR l 0).f1 (TR l 1).f0 (TR l 1).f1 = some t ∧ 0 ≤ t ∧ t ≤ q:=by
  obtain ⟨a1,a2,a3,a4⟩:=hq.2 0 (by omega);obtain ⟨b1,b2,b3,b4⟩:=hq.2 1 (by omega)
  have hl : l = [⟨(TR l 0).f0,(TR l 0).f1⟩,⟨(TR l 1).f0,(TR l 1).f1⟩]:=by
    match l,h2l with
    | [x,y],_ => rfl
  have hgt : Gt w c [⟨(TR l 0).f0,(TR l 0).f1⟩,⟨(TR l 1).f0,(TR l 1).f1⟩]:=hl ▸ hg;obtain ⟨fs,ft⟩:=gt_two hgt;obtain ⟨g,hr⟩:=fin_run (nx:=Jos w c) (s:=((TR l 0).f0,(TR l 1).f0)) (Us2 c.length) (Fr2_in fs) Jos_in
  obtain ⟨e,a,b,d⟩:=run_short hr (fun j => ((Q.getD 0 []).getD j 0,(Q.getD 1 []).getD j 0)) (by rw [a2,b2]) q (fun j hj => by
    have x:=(a4 (j + 1) (by omega) (by omega)).2;have y:=(b4 (j + 1) (by omega) (by omega)).2;rw [Nat.add_sub_cancel] at x y
    have hp : Pass ((Q.getD 0 []).getD j 0,(Q.getD 1 []).getD j 0) ((Q.getD 0 []).getD (j + 1) 0) ((Q.getD 1 []).getD (j + 1) 0):=fun hc => by
      refine hno (j + 1) (by omega) ⟨1,Nat.zero_le _,by have:=hq.1;omega,0,Nat.le_refl _,by omega,?_⟩;unfold Hit P_;rw [Nat.add_sub_cancel]
      rcases hc with hc | ⟨hc1,hc2⟩
      · exact .inl hc.symm
      · exact .inr ⟨by omega,hc2,hc1⟩
    unfold Jos Row
    refine List.mem_flatMap.2 ⟨_,x,List.mem_map.2 ⟨_,List.mem_filter.2 ⟨y,decide_eq_true hp⟩,rfl⟩⟩)
  refine ⟨e,?_,b,d⟩;(have h0 : (Q.getD 0 []).getD q 0 = (TR l 0).f1:=by rw [hst0 q (Nat.le_refl q) hqN,a3]);(have h1 : (Q.getD 1 []).getD q 0 = (TR l 1).f1:=by rw [hst1 q (Nat.le_refl q) hqN,b3]);simp only [h0,h1] at a;unfold impl_JointTicks.f jointV;rw [if_pos (by omega),if_pos ⟨hgt,hn⟩,a]
  rfl

theorem crowd_j2 {w : Int} {c : List Int} {l : List S49} {N : Nat} (hN : N ≤ 20) {Q : List (List Int)} (hg : Gt w c l) (hq : Goes w c N l Q) (hno : ∀ k,k < N + 1 → ¬ Two Q k 0) (b : Bool) (hb : b = true → l.length = 2 ∧ c.length ≤ 36) :
    Ev (fun k => laws_FnCrowd.j2 k l Q b w c) true:=by
  apply Ev.succ;simp only [laws_FnCrowd.j2]
  cases b with
  | false => exact Ev.neg (by simp) (Ev.some rfl)
  | true =>
    obtain ⟨h2,h36⟩:=hb rfl;have hQ:=hq.1;obtain ⟨q0,p1,p2,p3⟩:=there_ev (Q.getD 0 []) N (hq.2 0 (by omega)).1 hN;obtain ⟨q1,r1,r2,r3⟩:=there_ev (Q.getD 1 []) N (hq.2 1 (by omega)).1 hN;have e0 : rd_L1 Q 0 = Q.getD 0 []:=rfl;have e1 : rd_L1 Q 1 = Q.getD 1 []:=rfl;have t0 : rd_T49 l 0 = TR l 0:=rfl;have t1 : rd_T49 l 1 = TR l 1:=rfl;obtain ⟨t,s1,s2,s3⟩:=joint_le hg hq hno h36 h2 (max q0 q1) (by omega) (fun j h3 h4 => p2 j (by omega) h4) (fun j h3 h4 => r2 j (by omega) h4);simp only [t0,t1,e0,e1,s1,Option.bind_some];refine Ev.pos trivial (Ev.pos (by omega) (Ev.pos (by omega) (Ev.pos (by omega) (Ev.pos (by omega) (Ev.bnd p3 (Ev.ite (fun h => Ev.some rfl) (fun h => Ev.pos (by omega) (Ev.bnd r3 (Ev.some ?_)))))))));exact decide_eq_true (by omega)
theorem crowd_law_l0 {w : Int} {c : List Int} {l : List S49} {N : Nat} (hN : N ≤ 20) {Q : List (List Int)} (hn : c.length ≤ 35184372088832) (hg : Gt w c l) (hq : Goes w c N l Q) (hno : ∀ k,k < N + 1 → ¬ Two Q k 0) (d : Nat) : ∀ i : Nat,i + d = l.length →
    Ev (fun k => laws_FnCrowd.l0 k l Q l (l.length : Int) i w c) true:=by
  have h5:=hg.2.1;have hQ:=hq.1
  induction d with
  | zero =>
    intro i hi;apply Ev.succ;simp only [laws_FnCrowd.l0];refine Ev.neg (by omega) (Ev.ite (fun h2 => crowd_j2 hN hg hq hno _ (fun h => ?_)) (fun _ => crowd_j2 hN hg hq hno false (fun h => by cases h)));have:=of_decide_eq_true h;exact ⟨by omega,by omega⟩
  | succ d ih =>
    intro i hi;apply Ev.succ;have t0 : rd_T49 l (i : Int) = TR l i:=rfl;have e0 : rd_L1 Q (i : Int) = Q.getD i []:=rfl;obtain ⟨q0,p1,p2,p3⟩:=there_ev (Q.getD i []) N (hq.2 i (by omega)).1 hN;obtain ⟨t,s1,s2,s3⟩:=alone_le hg hq hn (i:=i) (by omega) q0 p1 p2;simp only [laws_FnCrowd.l0,t0,e0,s1,Option.bind_some,succ_w (show i < 35184372088833 by omega)];exact Ev.pos (by omega) (Ev.pos (by omega) (Ev.pos (by omega) (Ev.neg (by omega) (Ev.pos (by omega) (Ev.bnd p3 (Ev.neg (by omega) (ih (i + 1) (by omega))))))))

theorem FnCrowd : ∀ (l0 : List Int),(l0.length ≤ maxLen ∧ l0.length * 1 ≤ 140737488351232 ∧ ∀ y0 ∈ l0,(Lit.int .u8 y0).wf = true) → ∃ k,laws_FnCrowd.f k l0 = some true:=by
  intro c hl;apply Ev.rounds;simp only [laws_FnCrowd.f];refine Ev.ite (fun _ => Ev.some rfl) (fun h => ?_)
  have hc : Code c:=⟨by omega,fun y hy => by
    have h8:=hl.2.2 y hy
    simp [Lit.wf,IntKind.min,IntKind.max,IntKind.bits,IntKind.signed] at h8
    omega⟩
  obtain ⟨w,m,l,n,e1,hm⟩:=drawPlan_ok hc;obtain ⟨a,b⟩:=crowd_both w m l n (by omega);refine Ev.bnd e1 (Ev.bnd a (Ev.bnd b (Ev.neg (by simp) ?_)))
  cases hp : planV w m l n with
  | none => exact Ev.neg (by simp [tell]) (Ev.some rfl)
  | some Q =>
    obtain ⟨N,hN,_,hg,hq,hno,_,h3,h4⟩:=planV_good (by omega) hp;refine Ev.pos (by simp [tell]) (Ev.bnd h3 (Ev.pos rfl (Ev.bnd h4 (Ev.succ ?_))));simp only [laws_FnCrowd.j0];exact Ev.neg (by simp) (crowd_law_l0 hN (by omega) hg hq hno l.length 0 (by omega))
end Go.Proofs.Ytcldlljnaijmhaa.Pure
