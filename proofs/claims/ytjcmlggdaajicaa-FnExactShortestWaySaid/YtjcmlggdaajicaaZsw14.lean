-- Joined and pruned by wip/tools/prune.py out of this session's own texts (PureShort3, PureMarks, PureFnExactShortestWay)
import Derived.Test.YtjcmlggdaajicaaZsw13
/-
Own text: the reference's ShortestWay,to its end.
-/
namespace Go.Proofs.Ytjcmlggdaajicaa.Pure
open Go.RowKit Go.Proofs.YtjcmlggdaajicaaW.PrintWords Go.Proofs.YtjcmlggdaajicaaW.PrintLast Go.Proofs.Ytjcmlggdaajicaa.Pr Go.Proofs.Ytjcmlggdaajicaa.EvKit
open Classical
open Dij (wt sgn rel rel1 Inv cnt nxt trail)
set_option linter.unusedVariables false

section
variable {w : Int} {c : List Int}
theorem NB_q' (c_ n : Int) (q : Int × Int) (h : (n,q) ∈ NB w c c_) : q = (1,0) ∨ q = (0,1):=NB_q h
theorem back_run (hc : Cl w c) {to_ : Int} {a b : List Int} (la : a.length = c.length) (lb : b.length = c.length) (hE : Dij.End (NB w c) to_ (Us c.length) (DL a b)) (s t : Int) (f : Nat) : ∀ (at_ : Int) (p : Int × Int) (acc : List Int),acc.length + f ≤ 900 → DL a b at_ = some p → p.1 + p.2 = f → Fr c at_ →
    Ev (fun k => spec_ShortestWay.l0 k to_ a b at_ w c acc s t) (acc ++ (trail (NB w c) (DL a b) f at_).tail,s,t,true):=by
  (have hU : (Us c.length).length < 5741:=by rw [Us_length];have:=hc.n256;omega)
  induction f with
  | zero =>
    intro at_ p acc hacc hp hs hf;have e:=(hE.sum_zero hU (NB_symm hc) NB_q' hp).2 (by omega);refine Ev.succ ?_;simp only [spec_ShortestWay.l0];exact Ev.pos e (Ev.some (by simp [trail]))
  | succ f ih =>
    intro at_ p acc hacc hp hs hf
    have hne : at_ ≠ to_:=fun e => by
      have:=(hE.sum_zero hU (NB_symm hc) NB_q' hp).1 e
      omega
    obtain ⟨q,o,h1,h2,h3,h4⟩:=hE.nxt_spec hU (NB_symm hc) NB_q' hp hne
    have hfit : ∃ m,(NB w c at_).find? (fits (DL a b) at_) = some m:=by
      cases hm : (NB w c at_).find? (fits (DL a b) at_) with
      | some m => exact ⟨m,rfl⟩
      | none =>
        exfalso
        have:=List.find?_eq_none.1 hm _ h1;unfold fits at this;simp only [h2,hp,h3,h4,and_self,decide_true,not_true_eq_false] at this
    obtain ⟨m,hm⟩:=hfit;(have hn : nxt (NB w c) (DL a b) at_ = m.1:=by rw [nxt_fits,hm];rfl);rw [hn] at h1 h2
    have hsum : o.1 + o.2 = f:=by rcases NB_q h1 with e | e <;> subst e <;> simp only at h3 h4 <;> omega
    have:=ih m.1 o (acc ++ [m.1]) (by simp only [List.length_append,List.length_singleton];omega) h2 hsum (NB_free h1).2.1;refine Ev.succ ?_;simp only [spec_ShortestWay.l0];refine Ev.neg hne (Ev.bnd (around_spec hc hf.1 hf.2.1) (back_l1 hc la lb hE hf hp acc (by omega) s t _ m ?_ (AR w c at_).length 0 (by omega) (by rw [List.drop_zero];exact hm)));refine Ev.eq this ?_;simp only [trail,hn,List.tail_cons,Prod.mk.injEq,and_true,List.append_assoc,List.singleton_append];obtain ⟨l,hl⟩:=Dij.trail_head (nb:=NB w c) (D:=DL a b) f m.1;rw [hl]
    rfl
theorem short_spec (w : Int) (c : List Int) (from_ to_ : Int) (hn : c.length ≤ 35184372088832) : ∃ r,IsWay w c from_ to_ r ∧ Ev (fun k => spec_ShortestWay.f k w c from_ to_) r ∧ r.1.length ≤ 256:=by
  simp only [spec_ShortestWay.f]
  have no : Ev (fun k => spec_ShortestWay.j0 k from_ to_ true w c) ([],0,0,false):=by
    refine Ev.succ ?_;simp only [spec_ShortestWay.j0,if_true];exact Ev.some rfl
  by_cases hc : Cl w c
  · by_cases hf : Fr c from_
    · by_cases ht : Fr c to_
      · have h256:=hc.n256
        obtain ⟨a,b,e1,la,lb,hE⟩:=from_ev hc ht.1 ht.2.1
        have hjf : ∀ r,Ev (fun k => spec_ShortestWay.j0 k from_ to_ false w c) r → Ev (fun k => (spec_GoodCells.f k w c).bind fun t388 => if t388 = true then (spec_l12Free.f w c from_).bind fun t389 => if t389 = true then (spec_l12Free.f w c to_).bind fun t390 => spec_ShortestWay.j0 k from_ to_ (!t390) w c else spec_ShortestWay.j0 k from_ to_ true w c else spec_ShortestWay.j0 k from_ to_ true w c) r:=by
          intro r hr;refine Ev.bnd (goodCells_spec w c hn) (Ev.pos (by simpa using hc) (Ev.bnd0 (free_spec w c from_) (Ev.pos (by simpa using hf) (Ev.bnd0 (free_spec w c to_) ?_))));rw [decide_eq_true ht];exact hr
        (have fl : from_ < (a.length : Int):=by rw [la];exact hf.2.1);(have fl2 : from_ < (b.length : Int):=by rw [lb];exact hf.2.1);by_cases h0 : rd a from_ < 0
        · refine ⟨([],0,0,false),.inl ⟨hc,hf,ht,DL a b,hE,?_⟩,hjf _ (Ev.succ ?_),by simp⟩
          · unfold wayOf
            (have : DL a b from_ = none:=by unfold DL;rw [if_neg (fun z => by omega)]);rw [this]
          · simp only [spec_ShortestWay.j0,Bool.false_eq_true,if_false]
            exact Ev.bnd e1 (Ev.pos hf.1 (Ev.pos fl (Ev.pos h0 (Ev.some rfl))))
        · have hp:=DL_of (b:=b) hf.1 fl (by omega)
          have hw:=(hE.walk _ _ hp).2;rw [Us_length] at hw
          simp only at hw
          have hfu : ((rd a from_ + rd b from_).toNat : Int) = rd a from_ + rd b from_:=Int.toNat_of_nonneg (by omega);have:=back_run hc la lb hE (rd a from_) (rd b from_) (rd a from_ + rd b from_).toNat from_ _ [from_] (by simp only [List.length_singleton];omega) hp (by simp only;omega) hf;refine ⟨(trail (NB w c) (DL a b) (rd a from_ + rd b from_).toNat from_,rd a from_,rd b from_,true),.inl ⟨hc,hf,ht,DL a b,hE,?_⟩,hjf _ (Ev.succ ?_),?_⟩
          · unfold wayOf
            rw [hp]
          · simp only [spec_ShortestWay.j0,Bool.false_eq_true,if_false]
            refine Ev.bnd e1 (Ev.pos hf.1 (Ev.pos fl (Ev.neg h0 (Ev.pos fl2 (Ev.eq this ?_)))));obtain ⟨l,hl⟩:=Dij.trail_head (nb:=NB w c) (D:=DL a b) (rd a from_ + rd b from_).toNat from_;rw [hl]
            rfl
          · simp only [Dij.trail_length]
            omega
      · refine ⟨_,.inr ⟨fun x => ht x.2.2,rfl⟩,Ev.bnd (goodCells_spec w c hn) (Ev.pos (by simpa using hc) (Ev.bnd0 (free_spec w c from_) (Ev.pos (by simpa using hf) (Ev.bnd0 (free_spec w c to_) ?_)))),by simp⟩
        rw [decide_eq_false ht];exact no
    · exact ⟨_,.inr ⟨fun x => hf x.2.1,rfl⟩,Ev.bnd (goodCells_spec w c hn) (Ev.pos (by simpa using hc) (Ev.bnd0 (free_spec w c from_) (Ev.neg (by simpa using hf) no))),by simp⟩
  · exact ⟨_,.inr ⟨fun x => hc x.1,rfl⟩,Ev.bnd (goodCells_spec w c hn) (Ev.neg (by simpa using hc) no),by simp⟩
theorem short_both (w : Int) (c : List Int) (from_ to_ : Int) (hn : c.length ≤ 35184372088832) : ∃ r,IsWay w c from_ to_ r ∧ Ev (fun k => spec_ShortestWay.f k w c from_ to_) r ∧ impl_ShortestWay.f w c from_ to_ = some r ∧ r.1.length ≤ 256:=by
  obtain ⟨r,h1,h2,h3⟩:=short_spec w c from_ to_ hn;exact ⟨r,h1,h2,impl_ShortestWay.of hn h1,h3⟩
end
end Go.Proofs.Ytjcmlggdaajicaa.Pure
/-
Own text: marks are 1,2,..;what is held is what was marked.
-/
namespace Go.Proofs.Ytjcmlggdaajicaa.Pure
open Go.RowKit Go.Proofs.YtjcmlggdaajicaaW.PrintWords Go.Proofs.YtjcmlggdaajicaaW.PrintLast Go.Proofs.Ytjcmlggdaajicaa.Pr Go.Proofs.Ytjcmlggdaajicaa.EvKit

/-- a, a + 1, .., n of them. -/
def seqI (a : Int) (n : Nat) : List Int:=(List.range n).map fun j : Nat => a + (j : Int)
theorem seqI_length (a : Int) (n : Nat) : (seqI a n).length = n:=by simp [seqI]
theorem rd_seqI (a : Int) (n i : Nat) (h : i < n) : rd (seqI a n) (i : Int) = a + i:=by
  simp [rd,seqI,List.getD_eq_getElem?_getD,h]

theorem markIntS_l0 (n : Nat) (a : Int) (ha : 0 ≤ a) (han : a + n ≤ 9223372036854775806) (d : Nat) : ∀ (i : Nat) (l : List Int),i + d = n → l.length = n → (l.take i = seqI a i) →
    Ev (fun k => laws_markIntS.l0 k l (a + i) i) (a + n,seqI a n):=by
  induction d with
  | zero =>
    intro i l hi hl ht;apply Ev.succ;simp only [laws_markIntS.l0,show ¬ ((i : Int) < (l.length : Int)) by omega,if_false];(have : i = n:=by omega);subst this;refine Ev.some ?_;rw [← ht,List.take_of_length_le (by omega)]
  | succ d ih =>
    intro i l hi hl ht;apply Ev.succ;simp only [laws_markIntS.l0,show ((i : Int) < (l.length : Int)) by omega,show (0 : Int) ≤ (i : Int) by omega,if_true,Int.toNat_natCast];rw [show wrap64 ((i : Int) + 1) = ((i + 1 : Nat) : Int) by rw [wrap64_id (by omega) (by omega)];omega,show wrap64 (a + (i : Int) + 1) = a + ((i + 1 : Nat) : Int) by rw [wrap64_id (by omega) (by omega)];omega];refine ih (i + 1) _ (by omega) (by simpa using hl) ?_;rw [List.take_succ_eq_append_getElem (by simp;omega),List.take_set_of_le (by omega),ht]
    simp [seqI,List.range_succ]
theorem markIntS_ev (l : List Int) (a : Int) (ha : 0 ≤ a) (han : a + l.length ≤ 9223372036854775806) : Ev (fun k => laws_markIntS.f k l a) (a + l.length,seqI a l.length):=by
  simp only [laws_markIntS.f];have:=markIntS_l0 l.length a ha han l.length 0 l (by omega) rfl (by simp [seqI])
  simpa using this

theorem heldIntS_l0 (n : Nat) (a : Int) (ha : 0 ≤ a) (han : a + n ≤ 9223372036854775806) (d : Nat) : ∀ i : Nat,i + d = n → Ev (fun k => laws_heldIntS.l0 k (seqI a n) (a + i) i) (a + n):=by
  induction d with
  | zero =>
    intro i hi;apply Ev.succ;simp only [laws_heldIntS.l0,seqI_length,show ¬ ((i : Int) < (n : Int)) by omega,if_false];exact Ev.some (by omega)
  | succ d ih =>
    intro i hi;apply Ev.succ;simp only [laws_heldIntS.l0,seqI_length,rd_seqI a n i (by omega),show ((i : Int) < (n : Int)) by omega,show (0 : Int) ≤ (i : Int) by omega,if_true];rw [show wrap64 ((i : Int) + 1) = ((i + 1 : Nat) : Int) by rw [wrap64_id (by omega) (by omega)];omega,show wrap64 (a + (i : Int) + 1) = a + ((i + 1 : Nat) : Int) by rw [wrap64_id (by omega) (by omega)];omega];exact ih (i + 1) (by omega)
theorem heldIntS_ev (n : Nat) (a : Int) (ha : 0 ≤ a) (han : a + n ≤ 9223372036854775806) : Ev (fun k => laws_heldIntS.f k (seqI a n) a) (a + n):=by
  simp only [laws_heldIntS.f];have:=heldIntS_l0 n a ha han n 0 (by omega)
  simpa using this
end Go.Proofs.Ytjcmlggdaajicaa.Pure
/- THE LAW FnExactShortestWay, as a statement over numbers and lists: proved here. -/
namespace Go.Proofs.Ytjcmlggdaajicaa.Pure
open Go.RowKit Go.Proofs.YtjcmlggdaajicaaW.PrintWords Go.Proofs.YtjcmlggdaajicaaW.PrintLast Go.Proofs.Ytjcmlggdaajicaa.Pr Go.Proofs.Ytjcmlggdaajicaa.EvKit

theorem FnExactShortestWay : ∀ (a0_0 : Int) (l0_1 : List Int) (a1 : Int) (a2 : Int),((Lit.int .i64 a0_0).wf = true ∧ (l0_1.length ≤ maxLen ∧ l0_1.length * 8 ≤ 140737488351232 ∧ ∀ y0 ∈ l0_1,(Lit.int .i64 y0).wf = true)) → (Lit.int .i64 a1).wf = true → (Lit.int .i64 a2).wf = true → ∃ k,laws_FnExactShortestWay.f k a0_0 l0_1 a1 a2 = some true:=by
  intro w c x y hc _ _;(have h1 : c.length ≤ 9223372036854775807:=by have:=hc.2.1;unfold maxLen at this;omega);apply Ev.rounds;simp only [laws_FnExactShortestWay.f];obtain ⟨s,e1,e2⟩:=szCells_eq w c 1048576 h1 (by omega) (by omega);refine Ev.bnd0 e1 (Ev.ite (fun _ => Ev.some rfl) (fun h0 => ?_));obtain ⟨h3,h4⟩:=e2 h0;have tc:=toCells_ev w c (by omega);obtain ⟨⟨r,p,q,b⟩,hw,hs,hi,hl⟩:=short_both w c x y (by omega)
  simp only at hl
  (have eb : (b != b) = false:=by simp)
  have ew : Ev (fun k => laws_eqWay.f k r p q r p q) true:=by
    simp only [laws_eqWay.f];exact Ev.bnd (eqIntS_ev r (by omega)) (Ev.pos rfl (Ev.pos trivial (Ev.pos trivial (Ev.some rfl))))
  have mr : Ev (fun k => laws_markWay.f k r p q 1) (1 + (r.length : Int),seqI 1 r.length):=by
    simp only [laws_markWay.f];exact Ev.bnd (markIntS_ev r 1 (by omega) (by omega)) (Ev.some rfl)
  have hh : Ev (fun k => laws_heldWay.f k (seqI 1 r.length) p q 1) (1 + (r.length : Int)):=by
    simp only [laws_heldWay.f];exact Ev.bnd (heldIntS_ev r.length 1 (by omega) (by omega)) (Ev.neg (by omega) (Ev.some rfl))
  have mc : Ev (fun k => laws_markCells.f k w c 1) (1 + (c.length : Int),seqI 1 c.length):=by
    simp only [laws_markCells.f];exact Ev.bnd (markIntS_ev c 1 (by omega) (by omega)) (Ev.some rfl)
  refine Ev.bnd tc (Ev.bnd hs (Ev.bnd tc (Ev.bnd0 hi (Ev.bnd ew (Ev.pos rfl (Ev.succ ?_))))));simp only [laws_FnExactShortestWay.j0,eb];refine Ev.neg (by simp) (Ev.bnd tc (Ev.bnd (eqCells_ev w c (by omega)) (Ev.pos rfl (Ev.bnd mc (Ev.neg (by simp;omega) (Ev.bnd ew (Ev.pos rfl (Ev.succ ?_))))))));simp only [laws_FnExactShortestWay.j1];refine Ev.neg (by simp) (Ev.bnd mr (Ev.bnd hh (Ev.neg (by omega) (Ev.pos rfl (Ev.bnd tc (Ev.bnd0 hi (Ev.bnd ew (Ev.pos rfl (Ev.succ ?_)))))))));simp only [laws_FnExactShortestWay.j2,eb];exact Ev.neg (by simp) (Ev.bnd hh (Ev.neg (by omega) (Ev.pos rfl (Ev.some rfl))))

end Go.Proofs.Ytjcmlggdaajicaa.Pure
