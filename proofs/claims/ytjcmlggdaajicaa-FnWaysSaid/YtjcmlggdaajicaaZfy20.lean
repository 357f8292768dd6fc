-- Joined and pruned by wip/tools/prune.py out of this session's own texts (PureShort3, PureClear, PurePth, PureLeg, PureCur, PureDrawCells, PureFnClears, PureFnWays)
import Derived.Test.YtjcmlggdaajicaaZfy19
import Derived.Laws.BitsLemmas
/-
Own text: the reference's ShortestWay,to its end.
-/
namespace Go.Proofs.Ytjcmlggdaajicaa.Pure
open Go.RowKit Go.Proofs.YtjcmlggdaajicaaW.PrintWords Go.Proofs.YtjcmlggdaajicaaW.PrintLast Go.Proofs.Ytjcmlggdaajicaa.Pr Go.Proofs.Ytjcmlggdaajicaa.EvKit
open Classical
open Dij (wt sgn rel rel1 Inv cnt nxt trail)
set_option linter.unusedVariables false

section
variable {w : Int} {c : List Int}
theorem NB_q' (c_ n : Int) (q : Int × Int) (h : (n,q) ∈ NB w c c_) : q = (1,0) ∨ q = (0,1):=NB_q h
theorem back_run (hc : Cl w c) {to_ : Int} {a b : List Int} (la : a.length = c.length) (lb : b.length = c.length) (hE : Dij.End (NB w c) to_ (Us c.length) (DL a b)) (s t : Int) (f : Nat) : ∀ (at_ : Int) (p : Int × Int) (acc : List Int),acc.length + f ≤ 900 → DL a b at_ = some p → p.1 + p.2 = f → Fr c at_ →
    Ev (fun k => spec_ShortestWay.l0 k to_ a b at_ w c acc s t) (acc ++ (trail (NB w c) (DL a b) f at_).tail,s,t,true):=by
  (have hU : (Us c.length).length < 5741:=by rw [Us_length];have:=hc.n256;omega)
  induction f with
  | zero =>
    intro at_ p acc hacc hp hs hf;have e:=(hE.sum_zero hU (NB_symm hc) NB_q' hp).2 (by omega);refine Ev.succ ?_;simp only [spec_ShortestWay.l0];exact Ev.pos e (Ev.some (by simp [trail]))
  | succ f ih =>
    intro at_ p acc hacc hp hs hf
    have hne : at_ ≠ to_:=fun e => by
      have:=(hE.sum_zero hU (NB_symm hc) NB_q' hp).1 e
      omega
    obtain ⟨q,o,h1,h2,h3,h4⟩:=hE.nxt_spec hU (NB_symm hc) NB_q' hp hne
    have hfit : ∃ m,(NB w c at_).find? (fits (DL a b) at_) = some m:=by
      cases hm : (NB w c at_).find? (fits (DL a b) at_) with
      | some m => exact ⟨m,rfl⟩
      | none =>
        exfalso
        have:=List.find?_eq_none.1 hm _ h1;unfold fits at this;simp only [h2,hp,h3,h4,and_self,decide_true,not_true_eq_false] at this
    obtain ⟨m,hm⟩:=hfit;(have hn : nxt (NB w c) (DL a b) at_ = m.1:=by rw [nxt_fits,hm];rfl);rw [hn] at h1 h2
    have hsum : o.1 + o.2 = f:=by rcases NB_q h1 with e | e <;> subst e <;> simp only at h3 h4 <;> omega
    have:=ih m.1 o (acc ++ [m.1]) (by simp only [List.length_append,List.length_singleton];omega) h2 hsum (NB_free h1).2.1;refine Ev.succ ?_;simp only [spec_ShortestWay.l0];refine Ev.neg hne (Ev.bnd (around_spec hc hf.1 hf.2.1) (back_l1 hc la lb hE hf hp acc (by omega) s t _ m ?_ (AR w c at_).length 0 (by omega) (by rw [List.drop_zero];exact hm)));refine Ev.eq this ?_;simp only [trail,hn,List.tail_cons,Prod.mk.injEq,and_true,List.append_assoc,List.singleton_append];obtain ⟨l,hl⟩:=Dij.trail_head (nb:=NB w c) (D:=DL a b) f m.1;rw [hl]
    rfl
theorem short_spec (w : Int) (c : List Int) (from_ to_ : Int) (hn : c.length ≤ 35184372088832) : ∃ r,IsWay w c from_ to_ r ∧ Ev (fun k => spec_ShortestWay.f k w c from_ to_) r ∧ r.1.length ≤ 256:=by
  simp only [spec_ShortestWay.f]
  have no : Ev (fun k => spec_ShortestWay.j0 k from_ to_ true w c) ([],0,0,false):=by
    refine Ev.succ ?_;simp only [spec_ShortestWay.j0,if_true];exact Ev.some rfl
  by_cases hc : Cl w c
  · by_cases hf : Fr c from_
    · by_cases ht : Fr c to_
      · have h256:=hc.n256
        obtain ⟨a,b,e1,la,lb,hE⟩:=from_ev hc ht.1 ht.2.1
        have hjf : ∀ r,Ev (fun k => spec_ShortestWay.j0 k from_ to_ false w c) r → Ev (fun k => (spec_GoodCells.f k w c).bind fun t388 => if t388 = true then (spec_l12Free.f w c from_).bind fun t389 => if t389 = true then (spec_l12Free.f w c to_).bind fun t390 => spec_ShortestWay.j0 k from_ to_ (!t390) w c else spec_ShortestWay.j0 k from_ to_ true w c else spec_ShortestWay.j0 k from_ to_ true w c) r:=by
          intro r hr;refine Ev.bnd (goodCells_spec w c hn) (Ev.pos (by simpa using hc) (Ev.bnd0 (free_spec w c from_) (Ev.pos (by simpa using hf) (Ev.bnd0 (free_spec w c to_) ?_))));rw [dt_ ht];exact hr
        (have fl : from_ < (a.length : Int):=by rw [la];exact hf.2.1);(have fl2 : from_ < (b.length : Int):=by rw [lb];exact hf.2.1);by_cases h0 : rd a from_ < 0
        · refine ⟨([],0,0,false),.inl ⟨hc,hf,ht,DL a b,hE,?_⟩,hjf _ (Ev.succ ?_),by simp⟩
          · unfold wayOf
            (have : DL a b from_ = none:=by unfold DL;rw [if_neg (fun z => by omega)]);rw [this]
          · simp only [spec_ShortestWay.j0,Bool.false_eq_true,if_false]
            exact Ev.bnd e1 (Ev.pos hf.1 (Ev.pos fl (Ev.pos h0 (Ev.some rfl))))
        · have hp:=DL_of (b:=b) hf.1 fl (by omega)
          have hw:=(hE.walk _ _ hp).2;rw [Us_length] at hw
          simp only at hw
          have hfu : ((rd a from_ + rd b from_).toNat : Int) = rd a from_ + rd b from_:=Int.toNat_of_nonneg (by omega);have:=back_run hc la lb hE (rd a from_) (rd b from_) (rd a from_ + rd b from_).toNat from_ _ [from_] (by simp only [List.length_singleton];omega) hp (by simp only;omega) hf;refine ⟨(trail (NB w c) (DL a b) (rd a from_ + rd b from_).toNat from_,rd a from_,rd b from_,true),.inl ⟨hc,hf,ht,DL a b,hE,?_⟩,hjf _ (Ev.succ ?_),?_⟩
          · unfold wayOf
            rw [hp]
          · simp only [spec_ShortestWay.j0,Bool.false_eq_true,if_false]
            refine Ev.bnd e1 (Ev.pos hf.1 (Ev.pos fl (Ev.neg h0 (Ev.pos fl2 (Ev.eq this ?_)))));obtain ⟨l,hl⟩:=Dij.trail_head (nb:=NB w c) (D:=DL a b) (rd a from_ + rd b from_).toNat from_;rw [hl]
            rfl
          · simp only [Dij.trail_length]
            omega
      · refine ⟨_,.inr ⟨fun x => ht x.2.2,rfl⟩,Ev.bnd (goodCells_spec w c hn) (Ev.pos (by simpa using hc) (Ev.bnd0 (free_spec w c from_) (Ev.pos (by simpa using hf) (Ev.bnd0 (free_spec w c to_) ?_)))),by simp⟩
        rw [df_ ht];exact no
    · exact ⟨_,.inr ⟨fun x => hf x.2.1,rfl⟩,Ev.bnd (goodCells_spec w c hn) (Ev.pos (by simpa using hc) (Ev.bnd0 (free_spec w c from_) (Ev.neg (by simpa using hf) no))),by simp⟩
  · exact ⟨_,.inr ⟨fun x => hc x.1,rfl⟩,Ev.bnd (goodCells_spec w c hn) (Ev.neg (by simpa using hc) no),by simp⟩
theorem short_both (w : Int) (c : List Int) (from_ to_ : Int) (hn : c.length ≤ 35184372088832) : ∃ r,IsWay w c from_ to_ r ∧ Ev (fun k => spec_ShortestWay.f k w c from_ to_) r ∧ impl_ShortestWay.f w c from_ to_ = some r ∧ r.1.length ≤ 256:=by
  obtain ⟨r,h1,h2,h3⟩:=short_spec w c from_ to_ hn;exact ⟨r,h1,h2,impl_ShortestWay.of hn h1,h3⟩
end
end Go.Proofs.Ytjcmlggdaajicaa.Pure
/-
Own text: whether a straight line is clear: the program and the reference come to the same.
-/
namespace Go.Proofs.Ytjcmlggdaajicaa.Pure
open Go.RowKit Go.Proofs.YtjcmlggdaajicaaW.PrintWords Go.Proofs.YtjcmlggdaajicaaW.PrintLast Go.Proofs.Ytjcmlggdaajicaa.Pr Go.Proofs.Ytjcmlggdaajicaa.EvKit
open Classical

section
variable {x1 y1 x2 y2 x y : Int} (bx1 : 0 ≤ x1 ∧ x1 ≤ 30) (by1 : 0 ≤ y1 ∧ y1 ≤ 510) (bx2 : 0 ≤ x2 ∧ x2 ≤ 30) (by2 : 0 ≤ y2 ∧ y2 ≤ 510) (bx : 0 ≤ x ∧ x ≤ 30) (by_ : 0 ≤ y ∧ y ≤ 510)
include bx1 by1 bx2 by2 bx by_

def up (s : Int) : Int:=if s > 0 then 1 else 0
def dn (s : Int) : Int:=if s < 0 then 1 else 0
omit bx1 by1 bx2 by2 bx by_ in
theorem up_in (s : Int) : 0 ≤ up s ∧ up s ≤ 1:=by unfold up;by_cases h : s > 0 <;> simp [h]
omit bx1 by1 bx2 by2 bx by_ in
theorem dn_in (s : Int) : 0 ≤ dn s ∧ dn s ≤ 1:=by unfold dn;by_cases h : s < 0 <;> simp [h]

theorem meets_step (u v dx dy : Int) (hu : 0 ≤ u ∧ u ≤ 9) (hv : 0 ≤ v ∧ v ≤ 9) (hdx : -1 ≤ dx ∧ dx ≤ 1) (hdy : -1 ≤ dy ∧ dy ≤ 1) (xs ys : List Int) (hys : ys.length = 2) (i j : Int) (hj : j = 0 ∨ j = 1) (hy : rd ys j = y + dy) (r : Bool)
    (h : Ev (fun k => spec_l18Meets.l1 k x1 y1 (y - 1) (y + 1) (x2 - x1) (y2 - y1) (u + up ((x2 - x1) * (y + dy - y1) - (y2 - y1) * (x + dx - x1))) (v + dn ((x2 - x1) * (y + dy - y1) - (y2 - y1) * (x + dx - x1))) (x + dx) xs (xs.length : Int) i ys 2 (j + 1)) r) :
    Ev (fun k => spec_l18Meets.l1 k x1 y1 (y - 1) (y + 1) (x2 - x1) (y2 - y1) u v (x + dx) xs (xs.length : Int) i ys 2 j) r:=by
  have es:=side_eq (x1:=x1) (y1:=y1) (x2:=x2) (y2:=y2) (x:=x) (y:=y) (dx:=dx) (dy:=dy) bx1 by1 bx2 by2 bx by_ hdx hdy;apply Ev.succ;simp only [spec_l18Meets.l1,hy,wrap64_id (x:=y + dy - y1) (by omega) (by omega),wrap64_id (x:=x + dx - x1) (by omega) (by omega),es,wrap64_id (x:=u + 1) (by omega) (by omega),wrap64_id (x:=v + 1) (by omega) (by omega),wrap64_id (x:=j + 1) (by omega) (by omega)];generalize (x2 - x1) * (y + dy - y1) - (y2 - y1) * (x + dx - x1) = s at h;unfold up dn at h;refine Ev.pos (by omega) (Ev.pos (by omega) (Ev.pos (by omega) (Ev.ite (fun h1 => Ev.ite (fun h2 => by omega) (fun h2 => ?_)) (fun h1 => Ev.ite (fun h2 => ?_) (fun h2 => ?_)))))
  · rw [if_pos h1,if_neg h2,Int.add_zero] at h
    exact h
  · rw [if_neg h1,if_pos h2,Int.add_zero] at h
    exact h
  · rw [if_neg h1,if_neg h2,Int.add_zero,Int.add_zero] at h
    exact h

theorem meets_j0 (b : Bool) : Ev (fun k => spec_l18Meets.j0 k x1 y1 x2 y2 (x - 1) (x + 1) (y - 1) (y + 1) b) (!b && (lessTo x1 y1 x2 y2 x y 4 && moreTo x1 y1 x2 y2 x y 4)):=by
  cases b with
  | true =>
    apply Ev.succ;simp only [spec_l18Meets.j0];exact Ev.pos trivial (Ev.some rfl)
  | false =>
    apply Ev.succ;simp only [spec_l18Meets.j0,Option.bind_some,wrap64_id (x:=x2 - x1) (by omega) (by omega),wrap64_id (x:=y2 - y1) (by omega) (by omega)];refine Ev.neg (by simp) ?_;apply Ev.succ;simp only [spec_l18Meets.l0,Option.bind_some];refine Ev.pos (by simp) (Ev.pos (by omega) (Ev.pos (by simp) ?_));rw [show rd [x - 1,x + 1] 0 = x + (-1) from rfl];have b0:=up_in (sideOf x1 y1 x2 y2 x y 0);have b1:=up_in (sideOf x1 y1 x2 y2 x y 1);have b2:=up_in (sideOf x1 y1 x2 y2 x y 2);have b3:=up_in (sideOf x1 y1 x2 y2 x y 3);have d0:=dn_in (sideOf x1 y1 x2 y2 x y 0);have d1:=dn_in (sideOf x1 y1 x2 y2 x y 1);have d2:=dn_in (sideOf x1 y1 x2 y2 x y 2);have d3:=dn_in (sideOf x1 y1 x2 y2 x y 3);refine meets_step bx1 by1 bx2 by2 bx by_ 0 0 (-1) (-1) (by omega) (by omega) (by omega) (by omega) _ [y - 1,y + 1] rfl 0 0 (by omega) rfl _ ?_;rw [show (x2 - x1) * (y + -1 - y1) - (y2 - y1) * (x + -1 - x1) = sideOf x1 y1 x2 y2 x y 0 from rfl];refine meets_step bx1 by1 bx2 by2 bx by_ _ _ (-1) 1 (by omega) (by omega) (by omega) (by omega) _ [y - 1,y + 1] rfl 0 (0 + 1) (by omega) rfl _ ?_;rw [show (x2 - x1) * (y + 1 - y1) - (y2 - y1) * (x + -1 - x1) = sideOf x1 y1 x2 y2 x y 1 from rfl];apply Ev.succ;simp only [spec_l18Meets.l1];refine Ev.neg (by omega) ?_;rw [wrap64_id (x:=(0 : Int) + 1) (by omega) (by omega)];apply Ev.succ;simp only [spec_l18Meets.l0,Option.bind_some];refine Ev.pos (by simp) (Ev.pos (by omega) (Ev.pos (by simp) ?_));rw [show rd [x - 1,x + 1] (0 + 1) = x + 1 from rfl];refine meets_step bx1 by1 bx2 by2 bx by_ _ _ 1 (-1) (by omega) (by omega) (by omega) (by omega) _ [y - 1,y + 1] rfl _ 0 (by omega) rfl _ ?_;rw [show (x2 - x1) * (y + -1 - y1) - (y2 - y1) * (x + 1 - x1) = sideOf x1 y1 x2 y2 x y 2 from rfl];refine meets_step bx1 by1 bx2 by2 bx by_ _ _ 1 1 (by omega) (by omega) (by omega) (by omega) _ [y - 1,y + 1] rfl _ (0 + 1) (by omega) rfl _ ?_;rw [show (x2 - x1) * (y + 1 - y1) - (y2 - y1) * (x + 1 - x1) = sideOf x1 y1 x2 y2 x y 3 from rfl];apply Ev.succ;simp only [spec_l18Meets.l1];refine Ev.neg (by omega) ?_;rw [wrap64_id (x:=(0 : Int) + 1 + 1) (by omega) (by omega)];apply Ev.succ;simp only [spec_l18Meets.l0];refine Ev.neg (by simp) ?_;unfold lessTo lessTo lessTo lessTo lessTo moreTo moreTo moreTo moreTo moreTo;generalize sideOf x1 y1 x2 y2 x y 0 = s0 at *;generalize sideOf x1 y1 x2 y2 x y 1 = s1 at *;generalize sideOf x1 y1 x2 y2 x y 2 = s2 at *;generalize sideOf x1 y1 x2 y2 x y 3 = s3 at *
    have hu : (0 + up s0 + up s1 + up s2 + up s3 < 4) ↔ (s0 ≤ 0 ∨ s1 ≤ 0 ∨ s2 ≤ 0 ∨ s3 ≤ 0):=by
      unfold up
      by_cases h0 : s0 > 0 <;> by_cases h1 : s1 > 0 <;> by_cases h2 : s2 > 0 <;> by_cases h3 : s3 > 0 <;> simp only [h0,h1,h2,h3,if_true,if_false] <;> omega
    have hd : (0 + dn s0 + dn s1 + dn s2 + dn s3 < 4) ↔ (s0 ≥ 0 ∨ s1 ≥ 0 ∨ s2 ≥ 0 ∨ s3 ≥ 0):=by
      unfold dn
      by_cases h0 : s0 < 0 <;> by_cases h1 : s1 < 0 <;> by_cases h2 : s2 < 0 <;> by_cases h3 : s3 < 0 <;> simp only [h0,h1,h2,h3,if_true,if_false] <;> omega
    have e1 : (((false || decide (s0 ≤ 0)) || decide (s1 ≤ 0)) || decide (s2 ≤ 0) || decide (s3 ≤ 0)) = decide (0 + up s0 + up s1 + up s2 + up s3 < 4):=by
      rw [Bool.eq_iff_iff];simp only [Bool.or_eq_true,decide_eq_true_iff,hu,Bool.false_eq_true,false_or,or_assoc]
    have e2 : (((false || decide (s0 ≥ 0)) || decide (s1 ≥ 0)) || decide (s2 ≥ 0) || decide (s3 ≥ 0)) = decide (0 + dn s0 + dn s1 + dn s2 + dn s3 < 4):=by
      rw [Bool.eq_iff_iff];simp only [Bool.or_eq_true,decide_eq_true_iff,hd,Bool.false_eq_true,false_or,or_assoc]
    rw [e1,e2];refine Ev.ite (fun h => Ev.some ?_) (fun h => Ev.some ?_)
    · rw [dt_ h]
      rfl
    · rw [df_ h]
      rfl
end

theorem meets_ev {x1 y1 x2 y2 cx cy : Int} (bx1 : 0 ≤ x1 ∧ x1 ≤ 30) (by1 : 0 ≤ y1 ∧ y1 ≤ 510) (bx2 : 0 ≤ x2 ∧ x2 ≤ 30) (by2 : 0 ≤ y2 ∧ y2 ≤ 510) (bx : 0 ≤ cx ∧ cx ≤ 15) (by_ : 0 ≤ cy ∧ cy ≤ 255) :
    Ev (fun k => spec_l18Meets.f k x1 y1 x2 y2 cx cy) (!(farOf x1 y1 x2 y2 (2 * cx) (2 * cy)) && (lessTo x1 y1 x2 y2 (2 * cx) (2 * cy) 4 && moreTo x1 y1 x2 y2 (2 * cx) (2 * cy) 4)):=by
  (have J:=fun b => meets_j0 (x:=2 * cx) (y:=2 * cy) bx1 by1 bx2 by2 (by omega) (by omega) b);simp only [spec_l18Meets.f,wrap64_id (x:=2 * cx) (by omega) (by omega),wrap64_id (x:=2 * cy) (by omega) (by omega),wrap64_id (x:=2 * cx - 1) (by omega) (by omega),wrap64_id (x:=2 * cx + 1) (by omega) (by omega),wrap64_id (x:=2 * cy - 1) (by omega) (by omega),wrap64_id (x:=2 * cy + 1) (by omega) (by omega)];generalize 2 * cx = x at *;generalize 2 * cy = y at *
  have hF : farOf x1 y1 x2 y2 x y = decide ((x1 < x - 1 ∧ x2 < x - 1) ∨ (x1 > x + 1 ∧ x2 > x + 1) ∨ (y1 < y - 1 ∧ y2 < y - 1) ∨ (y1 > y + 1 ∧ y2 > y + 1)):=by
    have m1 : maxI x1 x2 < x - 1 ↔ (x1 < x - 1 ∧ x2 < x - 1):=by unfold maxI;by_cases h : x1 < x2 <;> simp only [h,if_true,if_false] <;> omega
    have m2 : minI x1 x2 > x + 1 ↔ (x1 > x + 1 ∧ x2 > x + 1):=by unfold minI;by_cases h : x2 < x1 <;> simp only [h,if_true,if_false] <;> omega
    have m3 : maxI y1 y2 < y - 1 ↔ (y1 < y - 1 ∧ y2 < y - 1):=by unfold maxI;by_cases h : y1 < y2 <;> simp only [h,if_true,if_false] <;> omega
    have m4 : minI y1 y2 > y + 1 ↔ (y1 > y + 1 ∧ y2 > y + 1):=by unfold minI;by_cases h : y2 < y1 <;> simp only [h,if_true,if_false] <;> omega
    unfold farOf;rw [Bool.eq_iff_iff];simp only [Bool.or_eq_true,decide_eq_true_iff,m1,m2,m3,m4,or_assoc]
  rw [hF];generalize (lessTo x1 y1 x2 y2 x y 4 && moreTo x1 y1 x2 y2 x y 4) = LM at *
  have yes : ((x1 < x - 1 ∧ x2 < x - 1) ∨ (x1 > x + 1 ∧ x2 > x + 1) ∨ (y1 < y - 1 ∧ y2 < y - 1) ∨ (y1 > y + 1 ∧ y2 > y + 1)) → ∀ r,r = (!decide ((x1 < x - 1 ∧ x2 < x - 1) ∨ (x1 > x + 1 ∧ x2 > x + 1) ∨ (y1 < y - 1 ∧ y2 < y - 1) ∨ (y1 > y + 1 ∧ y2 > y + 1)) && LM) → Ev (fun k => spec_l18Meets.j0 k x1 y1 x2 y2 (x - 1) (x + 1) (y - 1) (y + 1) true) r:=by
    intro h r hr;refine Ev.eq (J true) ?_;rw [hr,dt_ h]
  generalize hR : (!decide ((x1 < x - 1 ∧ x2 < x - 1) ∨ (x1 > x + 1 ∧ x2 > x + 1) ∨ (y1 < y - 1 ∧ y2 < y - 1) ∨ (y1 > y + 1 ∧ y2 > y + 1)) && LM) = R at *
  have t4 : ¬ (x1 < x - 1 ∧ x2 < x - 1) → ¬ (x1 > x + 1 ∧ x2 > x + 1) → ¬ (y1 < y - 1 ∧ y2 < y - 1) → Ev (fun k => if y1 > y + 1 then (spec_l18Meets.j0 k x1 y1 x2 y2 (x - 1) (x + 1) (y - 1) (y + 1) (decide (y2 > y + 1))) else (spec_l18Meets.j0 k x1 y1 x2 y2 (x - 1) (x + 1) (y - 1) (y + 1) false)) R:=by
    intro n1 n2 n3;refine Ev.ite (fun h => Ev.eq (J _) ?_) (fun h => Ev.eq (J _) ?_)
    · rw [← hR]
      congr 2
      rw [decide_eq_decide];exact ⟨fun a => Or.inr (Or.inr (Or.inr ⟨h,a⟩)),fun a => by omega⟩
    · rw [← hR,df_ (by omega)]
  have t3 : ¬ (x1 < x - 1 ∧ x2 < x - 1) → ¬ (x1 > x + 1 ∧ x2 > x + 1) → Ev (fun k => if y1 < y - 1 then (if y2 < y - 1 then (spec_l18Meets.j0 k x1 y1 x2 y2 (x - 1) (x + 1) (y - 1) (y + 1) true) else (if y1 > y + 1 then (spec_l18Meets.j0 k x1 y1 x2 y2 (x - 1) (x + 1) (y - 1) (y + 1) (decide (y2 > y + 1))) else (spec_l18Meets.j0 k x1 y1 x2 y2 (x - 1) (x + 1) (y - 1) (y + 1) false))) else (if y1 > y + 1 then (spec_l18Meets.j0 k x1 y1 x2 y2 (x - 1) (x + 1) (y - 1) (y + 1) (decide (y2 > y + 1))) else (spec_l18Meets.j0 k x1 y1 x2 y2 (x - 1) (x + 1) (y - 1) (y + 1) false))) R:=
    fun n1 n2 => Ev.ite (fun h1 => Ev.ite (fun h2 => yes (by omega) _ rfl) (fun h2 => t4 n1 n2 (by omega))) (fun h1 => t4 n1 n2 (by omega))
  have t2 : ¬ (x1 < x - 1 ∧ x2 < x - 1) → Ev (fun k => if x1 > x + 1 then (if x2 > x + 1 then (spec_l18Meets.j0 k x1 y1 x2 y2 (x - 1) (x + 1) (y - 1) (y + 1) true) else (if y1 < y - 1 then (if y2 < y - 1 then (spec_l18Meets.j0 k x1 y1 x2 y2 (x - 1) (x + 1) (y - 1) (y + 1) true) else (if y1 > y + 1 then (spec_l18Meets.j0 k x1 y1 x2 y2 (x - 1) (x + 1) (y - 1) (y + 1) (decide (y2 > y + 1))) else (spec_l18Meets.j0 k x1 y1 x2 y2 (x - 1) (x + 1) (y - 1) (y + 1) false))) else (if y1 > y + 1 then (spec_l18Meets.j0 k x1 y1 x2 y2 (x - 1) (x + 1) (y - 1) (y + 1) (decide (y2 > y + 1))) else (spec_l18Meets.j0 k x1 y1 x2 y2 (x - 1) (x + 1) (y - 1) (y + 1) false)))) else (if y1 < y - 1 then (if y2 < y - 1 then (spec_l18Meets.j0 k x1 y1 x2 y2 (x - 1) (x + 1) (y - 1) (y + 1) true) else (if y1 > y + 1 then (spec_l18Meets.j0 k x1 y1 x2 y2 (x - 1) (x + 1) (y - 1) (y + 1) (decide (y2 > y + 1))) else (spec_l18Meets.j0 k x1 y1 x2 y2 (x - 1) (x + 1) (y - 1) (y + 1) false))) else (if y1 > y + 1 then (spec_l18Meets.j0 k x1 y1 x2 y2 (x - 1) (x + 1) (y - 1) (y + 1) (decide (y2 > y + 1))) else (spec_l18Meets.j0 k x1 y1 x2 y2 (x - 1) (x + 1) (y - 1) (y + 1) false)))) R:=
    fun n1 => Ev.ite (fun h1 => Ev.ite (fun h2 => yes (by omega) _ rfl) (fun h2 => t3 n1 (by omega))) (fun h1 => t3 n1 (by omega))
  exact Ev.ite (fun h1 => Ev.ite (fun h2 => yes (by omega) _ rfl) (fun h2 => t2 (by omega))) (fun h1 => t2 (by omega))

/-- No cell stands in the way from a to b. -/
def Clr (w : Int) (c : List Int) (a b : Int) : Prop:=Fr c a ∧ Fr c b ∧ From c.length 0 fun j => blocks w c a b j = false

theorem clear_spec_l0 {w : Int} {c : List Int} (h : Cl w c) {a b : Int} (ha0 : 0 ≤ a) (ha : a < c.length) (hb0 : 0 ≤ b) (hb : b < c.length) (d : Nat) : ∀ i : Nat,i + d = c.length →
    Ev (fun k => spec_l18Clear.l0 k (X_ w a) (Y_ w a) (X_ w b) (Y_ w b) (c.length : Int) i w c) (decide (From c.length i fun j => blocks w c a b j = false)):=by
  have hw:=h.w1;have hw2:=h.w16;have hn:=h.n256;have hH:=h.h16;have xa:=X_range h a;have xb:=X_range h b;have ya:=Y_range h ha0 ha;have yb:=Y_range h hb0 hb
  induction d with
  | zero =>
    intro i hi;rw [dt_ (From.end_ (by omega))];apply Ev.succ;simp only [spec_l18Clear.l0];exact Ev.neg (by omega) (Ev.some rfl)
  | succ d ih =>
    intro i hi;have nx:=ih (i + 1) (by omega);have step:=From.step (n:=c.length) (i:=i) (C:=fun j => blocks w c a b j = false) (by omega);have xi:=X_range h (i : Int);have yi:=Y_range h (a:=(i : Int)) (by omega) (by omega);have e : rd c (i : Int) = c.getD i 0:=rfl
    have good : blocks w c a b i = false → decide (From c.length (i + 1) fun j => blocks w c a b j = false) = decide (From c.length i fun j => blocks w c a b j = false):=fun g => by
      rw [decide_eq_decide];exact ⟨fun x => step.2 ⟨g,x⟩,fun x => (step.1 x).2⟩
    apply Ev.succ;simp only [spec_l18Clear.l0,e,tmod_X (show (0 : Int) ≤ (i : Int) by omega),tdiv_Y (show (0 : Int) ≤ (i : Int) by omega),wrap64_id (x:=Y_ w (i : Int)) (by omega) (by omega),wrap64_id (x:=2 * X_ w a) (by omega) (by omega),wrap64_id (x:=2 * X_ w b) (by omega) (by omega),wrap64_id (x:=2 * Y_ w a) (by omega) (by omega),wrap64_id (x:=2 * Y_ w b) (by omega) (by omega),succ_w (show i < 35184372088833 by omega)];refine Ev.pos (by omega) (Ev.pos (by omega) (Ev.pos (by omega) (Ev.ite (fun hz => ?_) (fun hz => Ev.neg (by omega) ?_))))
    · refine Ev.eq nx (good ?_)
      unfold blocks;rw [hz]
      rfl
    · have m:=meets_ev (x1:=2 * X_ w a) (y1:=2 * Y_ w a) (x2:=2 * X_ w b) (y2:=2 * Y_ w b) (cx:=X_ w (i : Int)) (cy:=Y_ w (i : Int)) (by omega) (by omega) (by omega) (by omega) (by omega) (by omega)
      have eb : blocks w c a b i = (!(farOf (2 * X_ w a) (2 * Y_ w a) (2 * X_ w b) (2 * Y_ w b) (2 * X_ w (i : Int)) (2 * Y_ w (i : Int))) && (lessTo (2 * X_ w a) (2 * Y_ w a) (2 * X_ w b) (2 * Y_ w b) (2 * X_ w (i : Int)) (2 * Y_ w (i : Int)) 4 && moreTo (2 * X_ w a) (2 * Y_ w a) (2 * X_ w b) (2 * Y_ w b) (2 * X_ w (i : Int)) (2 * Y_ w (i : Int)) 4)):=by
        unfold blocks X_ Y_;rw [show (c.getD i 0 == 0) = false by simpa using hz]
        rfl
      rw [← eb] at m;refine Ev.bnd m (Ev.ite (fun hp => Ev.some ?_) (fun hp => Ev.eq nx (good (by simpa using hp))))
      symm
      rw [decide_eq_false_iff_not];intro x;rw [(step.1 x).1] at hp
      cases hp

theorem clear_spec {w : Int} {c : List Int} (h : Cl w c) (a b : Int) : Ev (fun k => spec_l18Clear.f k w c a b) (decide (Clr w c a b)):=by
  simp only [spec_l18Clear.f]
  have no : ¬ Clr w c a b → Ev (fun k => spec_l18Clear.j0 k a b true w c) (decide (Clr w c a b)):=by
    intro hn;rw [df_ hn];apply Ev.succ;simp only [spec_l18Clear.j0];exact Ev.pos trivial (Ev.some rfl)
  by_cases ha : Fr c a
  · by_cases hb : Fr c b
    · have ya:=Y_range h ha.1 ha.2.1
      have yb:=Y_range h hb.1 hb.2.1;have hH:=h.h16;have hw:=h.w1
      have e : decide (Clr w c a b) = decide (From c.length 0 fun j => blocks w c a b j = false):=by
        rw [decide_eq_decide];exact ⟨fun x => x.2.2,fun x => ⟨ha,hb,x⟩⟩
      rw [e];refine Ev.bnd0 (free_spec w c a) (Ev.pos (by simpa using ha) (Ev.bnd0 (free_spec w c b) ?_));rw [dt_ hb];apply Ev.succ;simp only [spec_l18Clear.j0,tmod_X ha.1,tmod_X hb.1,tdiv_Y ha.1,tdiv_Y hb.1,wrap64_id (x:=Y_ w a) (by omega) (by omega),wrap64_id (x:=Y_ w b) (by omega) (by omega)];exact Ev.neg (by simp) (Ev.neg (by omega) (clear_spec_l0 h ha.1 ha.2.1 hb.1 hb.2.1 c.length 0 (by omega)))
    · refine Ev.bnd0 (free_spec w c a) (Ev.pos (by simpa using ha) (Ev.bnd0 (free_spec w c b) ?_))
      rw [df_ hb];exact no (fun x => hb x.2.1)
  · exact Ev.bnd0 (free_spec w c a) (Ev.neg (by simpa using ha) (no (fun x => ha x.1)))

theorem clear_impl {w : Int} {c : List Int} (h : Cl w c) {a b : Int} (ha : Fr c a) (hb : Fr c b) : impl_Cells_clear.f w c a b = some (decide (Clr w c a b)):=by
  have h1:=ha.1;have h2:=ha.2.1;have h3:=hb.1;have h4:=hb.2.1;have h5:=h.w1;have h6:=h.w16;have h7:=h.n256;unfold impl_Cells_clear.f;rw [if_pos (by omega)]
  congr 1
  rw [Bool.eq_iff_iff,List.all_eq_true,decide_eq_true_iff]
  constructor
  · intro x
    exact ⟨ha,hb,fun j _ hj => by simpa using x j (List.mem_range.2 hj)⟩
  · intro x j hj
    rw [x.2.2 j (Nat.zero_le _) (List.mem_range.1 hj)]
    rfl
end Go.Proofs.Ytjcmlggdaajicaa.Pure
/-
Own text: ways as lists: what they cost;each step is clear.
-/
namespace Go.Proofs.Ytjcmlggdaajicaa.Pure
open Go.RowKit Go.Proofs.YtjcmlggdaajicaaW.PrintWords Go.Proofs.YtjcmlggdaajicaaW.PrintLast Go.Proofs.Ytjcmlggdaajicaa.Pr Go.Proofs.Ytjcmlggdaajicaa.EvKit
open Classical
open Dij (wt sgn nxt trail Wk)
set_option linter.unusedVariables false

inductive Pth (w : Int) (c : List Int) : List Int → Int → Int → Prop
  | one (x : Int) : Pth w c [x] 0 0
  | cons {x y : Int} {l : List Int} {a b : Int} {q : Int × Int} : (y,q) ∈ NB w c x → Pth w c (y :: l) a b → Pth w c (x :: y :: l) (q.1 + a) (q.2 + b)
section
variable {w : Int} {c : List Int}
theorem NB_det {x y : Int} {q q' : Int × Int} (h : (y,q) ∈ NB w c x) (h' : (y,q') ∈ NB w c x) : q = q':=by
  rcases (NB_in h).2 with ⟨e,f⟩ | ⟨e,f⟩ <;> rcases (NB_in h').2 with ⟨e',f'⟩ | ⟨e',f'⟩ <;> first | (exfalso;omega) | exact f.trans f'.symm
theorem Pth.unique {l : List Int} {a b a' b' : Int} (h : Pth w c l a b) : Pth w c l a' b' → a = a' ∧ b = b':=by
  intro h'
  induction h generalizing a' b' with
  | one x => cases h';exact ⟨rfl,rfl⟩
  | cons hn hp ih =>
    cases h' with
    | cons hn' hp' =>
      have e:=NB_det hn hn';obtain ⟨e1,e2⟩:=ih hp';rw [e,e1,e2];exact ⟨rfl,rfl⟩
theorem Pth.bound {l : List Int} {a b : Int} (h : Pth w c l a b) : 0 ≤ a ∧ 0 ≤ b ∧ a + b + 1 = l.length:=by
  induction h with
  | one x => simp
  | cons hn hp ih =>
    simp only [List.length_cons] at ih ⊢
    rcases NB_q hn with e | e <;> subst e <;> simp only <;> omega
theorem Pth.wk (hc : Cl w c) {l : List Int} {a b : Int} (h : Pth w c l a b) : ∀ src,l.getD (l.length - 1) 0 = src → Wk (NB w c) src (l.getD 0 0) (a,b):=by
  induction h with
  | one x =>
    intro src e
    simp at e
    subst e;exact Wk.base
  | @cons x y l a b q hn hp ih =>
    intro src e;have:=ih src (by simpa using e);have h2:=Wk.step this (NB_symm hc _ _ _ hn);simp only [List.getD_cons_zero] at h2 ⊢;rw [Int.add_comm q.1 a,Int.add_comm q.2 b];exact h2
theorem Pth.free {l : List Int} {a b : Int} (h : Pth w c l a b) : Fr c (l.getD 0 0) → Fr c (l.getD (l.length - 1) 0):=by
  induction h with
  | one x => intro h;simpa using h
  | cons hn hp ih =>
    intro _;have:=ih (by simpa using (NB_free hn).2.1)
    simpa using this
theorem trail_pth (hc : Cl w c) {to_ : Int} {D : Int → Option (Int × Int)} (hE : Dij.End (NB w c) to_ (Us c.length) D) (f : Nat) : ∀ (x : Int) (p : Int × Int),D x = some p → p.1 + p.2 = f → Pth w c (trail (NB w c) D f x) p.1 p.2 ∧ (trail (NB w c) D f x).getD f 0 = to_:=by
  (have hU : (Us c.length).length < 5741:=by rw [Us_length];have:=hc.n256;omega)
  induction f with
  | zero =>
    intro x p hp hs;have hw:=hE.walk x p hp;(have e1 : p.1 = 0:=by omega);(have e2 : p.2 = 0:=by omega);rw [e1,e2];have:=(hE.sum_zero hU (NB_symm hc) NB_q' hp).2 (by omega);exact ⟨Pth.one x,by simp [trail,this]⟩
  | succ f ih =>
    intro x p hp hs
    have hne : x ≠ to_:=fun e => by
      have:=(hE.sum_zero hU (NB_symm hc) NB_q' hp).1 e
      omega
    obtain ⟨q,o,h1,h2,h3,h4⟩:=hE.nxt_spec hU (NB_symm hc) NB_q' hp hne
    have hsum : o.1 + o.2 = f:=by rcases NB_q h1 with e | e <;> subst e <;> simp only at h3 h4 <;> omega
    obtain ⟨i1,i2⟩:=ih _ o h2 hsum;obtain ⟨l,hl⟩:=Dij.trail_head (nb:=NB w c) (D:=D) f (nxt (NB w c) D x);simp only [trail];rw [hl] at i1 i2 ⊢;refine ⟨?_,by simpa using i2⟩;have:=Pth.cons h1 i1;rw [show q.1 + o.1 = p.1 by omega,show q.2 + o.2 = p.2 by omega] at this;exact this
/-- A step is clear. -/
theorem stp_clr (hc : Cl w c) {a b : Int} (h : Stp w c a b ≠ 0) : Clr w c a b:=by
  obtain ⟨fa,fb,⟨d1,d2,d3,d4⟩,_⟩:=Stp_facts h;refine ⟨fa,fb,fun j _ hj => ?_⟩
  cases hb : blocks w c a b j with
  | false => exact hb
  | true =>
    exfalso
    unfold blocks at hb;simp only [Bool.and_eq_true,Bool.not_eq_true',beq_eq_false_iff_ne,ne_eq] at hb;obtain ⟨⟨h1,h2⟩,_⟩:=hb
    have hX : X_ w (j : Int) = X_ w a ∨ X_ w (j : Int) = X_ w b:=by
      unfold farOf at h2;simp only [Bool.or_eq_false_iff,decide_eq_false_iff_not] at h2;obtain ⟨⟨⟨q1,q2⟩,_⟩,_⟩:=h2;unfold maxI at q1;unfold minI at q2;unfold DX X_ at *
      split at q1 <;> split at q2 <;> omega
    have hY : Y_ w (j : Int) = Y_ w a ∨ Y_ w (j : Int) = Y_ w b:=by
      unfold farOf at h2;simp only [Bool.or_eq_false_iff,decide_eq_false_iff_not] at h2;obtain ⟨⟨_,q1⟩,q2⟩:=h2;unfold maxI at q1;unfold minI at q2;unfold DY Y_ at *
      split at q1 <;> split at q2 <;> omega
    have fr : ∀ x : Int,Fr c x → (j : Int) = x → False:=fun x hx e => by
      have:=hx.2.2;rw [← e,Int.toNat_natCast] at this;exact h1 this
    have sq : (Fr c (a + DX w a b) ∧ Fr c (a + DY w a b * w)) ∨ DX w a b = 0 ∨ DY w a b = 0:=by
      unfold Stp at h;rw [if_pos ⟨fa,fb⟩] at h;by_cases s1 : Sq2 w a b = 1
      · right
        unfold Sq2 at s1
        rcases sq_cases (DX w a b) with ⟨e,_⟩ | ⟨_,e⟩ | ⟨_,e⟩
        · exact .inl e
        · rcases sq_cases (DY w a b) with ⟨e2,_⟩ | ⟨_,e2⟩ | ⟨_,e2⟩
          · exact .inr e2
          · omega
          · omega
        · rcases sq_cases (DY w a b) with ⟨e2,_⟩ | ⟨_,e2⟩ | ⟨_,e2⟩
          · exact .inr e2
          · omega
          · omega
      · rw [if_neg s1] at h
        by_cases s2 : Sq2 w a b = 2 ∧ Fr c (a + DX w a b) ∧ Fr c (a + DY w a b * w)
        · exact .inl s2.2
        · rw [if_neg s2] at h;exact absurd rfl h
    have ea:=XY w a;have eb:=XY w b;have ej:=XY w (j : Int)
    rcases hX with eX | eX <;> rcases hY with eY | eY
    · exact fr a fa (cell_eq eX eY)
    · rcases sq with ⟨_,s⟩ | s | s
      · refine fr _ s ?_
        rw [eX,eY] at ej;unfold DY;rw [Int.sub_mul]
        omega
      · exact fr b fb (cell_eq (by unfold DX at s;omega) eY)
      · exact fr a fa (cell_eq eX (by unfold DY at s;omega))
    · rcases sq with ⟨s,_⟩ | s | s
      · refine fr _ s ?_
        rw [eX,eY] at ej;unfold DX
        omega
      · exact fr a fa (cell_eq (by unfold DX at s;omega) eY)
      · exact fr b fb (cell_eq eX (by unfold DY at s;omega))
    · exact fr b fb (cell_eq eX eY)
/-- What a way costs, in the program. -/
theorem way_run (hc : Cl w c) (l : List Int) (hn : l.length ≤ 256) (m : List Int) : ∀ (pre : List Int) (x p q : Int),l = pre ++ x :: m → 0 ≤ p → p ≤ 300 → 0 ≤ q → q ≤ 300 → p + m.length ≤ 300 → q + m.length ≤ 300 →
    (∃ a b,Pth w c (x :: m) a b ∧ Ev (fun k => impl_WayCost.l0 k l ((pre.length + 1 : Nat) : Int) w c p q) (p + a,q + b,true)) ∨ ((¬ ∃ a b,Pth w c (x :: m) a b) ∧ Ev (fun k => impl_WayCost.l0 k l ((pre.length + 1 : Nat) : Int) w c p q) (0,0,false)):=by
  induction m with
  | nil =>
    intro pre x p q hl _ _ _ _ _ _;refine .inl ⟨0,0,Pth.one x,Ev.succ ?_⟩;simp only [impl_WayCost.l0];exact Ev.neg (by rw [hl];simp) (Ev.some (by simp))
  | cons y m ih =>
    intro pre x p q hl hp hp2 hq hq2 hb1 hb2;simp only [List.length_cons] at hb1 hb2;(have hlen : l.length = pre.length + (m.length + 2):=by rw [hl];simp)
    have e0 : rd l (((pre.length + 1 : Nat) : Int) - 1) = x:=by
      unfold rd;rw [show (((pre.length + 1 : Nat) : Int) - 1).toNat = pre.length by omega,hl]
      simp
    have e1 : rd l ((pre.length + 1 : Nat) : Int) = y:=by
      unfold rd;rw [Int.toNat_natCast,hl]
      simp [List.getD_eq_getElem?_getD,List.getElem?_append_right]
    have pre1 : wrap64 (((pre.length + 1 : Nat) : Int) - 1) = ((pre.length + 1 : Nat) : Int) - 1:=wrap64_id (by omega) (by omega)
    have suc : wrap64 (((pre.length + 1 : Nat) : Int) + 1) = (((pre ++ [x]).length + 1 : Nat) : Int):=by
      rw [wrap64_id (by omega) (by omega)]
      simp
    obtain ⟨sp,sq,s1,s2,s3⟩:=step_impl hc x y;(have hl2 : l = (pre ++ [x]) ++ y :: m:=by rw [hl];simp)
    have go : ∀ r,Ev (fun k => if decide (Stp w c x y ≠ 0) = true then impl_WayCost.l0 k l (((pre ++ [x]).length + 1 : Nat) : Int) w c (wrap64 (p + sp)) (wrap64 (q + sq)) else some (0,0,false)) r → Ev (fun k => impl_WayCost.l0 k l ((pre.length + 1 : Nat) : Int) w c p q) r:=by
      intro r hr;refine Ev.succ ?_;simp only [impl_WayCost.l0,pre1,e0,e1,suc];exact Ev.pos (by omega) (Ev.pos (by omega) (Ev.pos (by omega) (Ev.pos (by omega) (Ev.bnd s1 hr))))
    rcases Stp_or w c x y with h0 | h0 | h0
    · refine .inr ⟨?_,go _ (Ev.neg (by simp [h0]) (Ev.some rfl))⟩
      rintro ⟨a,b,h⟩
      cases h with
      | cons hn' hp' => exact (NB_in hn').1 h0
    · obtain ⟨rfl,rfl⟩:=s2 h0
      have hm : (y,((1 : Int),(0 : Int))) ∈ NB w c x:=(mem_NB hc (Stp_facts (by omega : Stp w c x y ≠ 0)).1.1 (Stp_facts (by omega : Stp w c x y ≠ 0)).1.2.1).2 (.inl ⟨h0,rfl⟩)
      rcases ih (pre ++ [x]) y (p + 1) q hl2 (by omega) (by omega) (by omega) (by omega) (by omega) (by omega) with ⟨a,b,i1,i2⟩ | ⟨i1,i2⟩
      · refine .inl ⟨1 + a,0 + b,Pth.cons hm i1,go _ (Ev.pos (by simp [h0]) ?_)⟩
        rw [wrap64_id (x:=p + 1) (by omega) (by omega),wrap64_id (x:=q + 0) (by omega) (by omega),Int.add_zero];exact Ev.eq i2 (by simp only [Prod.mk.injEq,and_true];omega)
      · refine .inr ⟨?_,go _ (Ev.pos (by simp [h0]) ?_)⟩
        · rintro ⟨a,b,h⟩
          cases h with
          | cons hn' hp' => exact i1 ⟨_,_,hp'⟩
        · rw [wrap64_id (x:=p + 1) (by omega) (by omega),wrap64_id (x:=q + 0) (by omega) (by omega),Int.add_zero]
          exact i2
    · obtain ⟨rfl,rfl⟩:=s3 h0
      have hm : (y,((0 : Int),(1 : Int))) ∈ NB w c x:=(mem_NB hc (Stp_facts (by omega : Stp w c x y ≠ 0)).1.1 (Stp_facts (by omega : Stp w c x y ≠ 0)).1.2.1).2 (.inr ⟨h0,rfl⟩)
      rcases ih (pre ++ [x]) y p (q + 1) hl2 (by omega) (by omega) (by omega) (by omega) (by omega) (by omega) with ⟨a,b,i1,i2⟩ | ⟨i1,i2⟩
      · refine .inl ⟨0 + a,1 + b,Pth.cons hm i1,go _ (Ev.pos (by simp [h0]) ?_)⟩
        rw [wrap64_id (x:=p + 0) (by omega) (by omega),wrap64_id (x:=q + 1) (by omega) (by omega),Int.add_zero];exact Ev.eq i2 (by simp only [Prod.mk.injEq,and_true];omega)
      · refine .inr ⟨?_,go _ (Ev.pos (by simp [h0]) ?_)⟩
        · rintro ⟨a,b,h⟩
          cases h with
          | cons hn' hp' => exact i1 ⟨_,_,hp'⟩
        · rw [wrap64_id (x:=p + 0) (by omega) (by omega),wrap64_id (x:=q + 1) (by omega) (by omega),Int.add_zero]
          exact i2
theorem way_is (w : Int) (c l : List Int) (hn : c.length ≤ 35184372088832) (hl : l.length ≤ 256) : ∃ a b t,Ev (fun k => impl_WayCost.f k w c l) (a,b,t) ∧ (t = true → Cl w c ∧ 1 ≤ l.length ∧ Fr c (rd l 0) ∧ Pth w c l a b) ∧ (t = false → a = 0 ∧ b = 0 ∧ ¬ (Cl w c ∧ 1 ≤ l.length ∧ Fr c (rd l 0) ∧ ∃ a b,Pth w c l a b)):=by
  simp only [impl_WayCost.f]
  have no : Ev (fun k => impl_WayCost.j0 k l true w c) (0,0,false):=by
    refine Ev.succ ?_;simp only [impl_WayCost.j0,if_true];exact Ev.some rfl
  by_cases hc : Cl w c
  · have gc:=goodCells_impl w c hn
    rw [dt_ hc] at gc
    cases l with
    | nil => exact ⟨0,0,false,Ev.bnd gc (Ev.pos rfl (Ev.pos (by simp) no)),fun h => (by cases h),fun _ => ⟨rfl,rfl,fun z => absurd z.2.1 (by simp)⟩⟩
    | cons x m =>
      have e0 : rd (x :: m) 0 = x:=rfl;by_cases hf : Fr c x
      · have j0 : ∀ r,Ev (fun k => impl_WayCost.l0 k (x :: m) ((([] : List Int).length + 1 : Nat) : Int) w c 0 0) r → Ev (fun k => (impl_GoodCells.f k w c).bind fun t531 => if t531 = true then if ((x :: m).length : Int) < 1 then impl_WayCost.j0 k (x :: m) true w c else if ((x :: m).length : Int) > 256 then impl_WayCost.j0 k (x :: m) true w c else if 0 < ((x :: m).length : Int) then (impl_Cells_free.f w c (rd (x :: m) 0)).bind fun t533 => impl_WayCost.j0 k (x :: m) (!t533) w c else none else impl_WayCost.j0 k (x :: m) true w c) r:=by
          intro r hr;refine Ev.bnd gc (Ev.pos rfl (Ev.neg (by simp only [List.length_cons];omega) (Ev.neg (by omega) (Ev.pos (by simp only [List.length_cons];omega) (Ev.bnd0 (free_impl w c _) ?_)))));rw [e0,dt_ hf];refine Ev.succ ?_;simp only [impl_WayCost.j0,Bool.not_true,Bool.false_eq_true,if_false];exact hr
        rcases way_run hc (x :: m) hl m [] x 0 0 rfl (by omega) (by omega) (by omega) (by omega) (by simp only [List.length_cons] at hl;omega) (by simp only [List.length_cons] at hl;omega) with ⟨a,b,i1,i2⟩ | ⟨i1,i2⟩
        · exact ⟨a,b,true,j0 _ (Ev.eq i2 (by simp)),fun _ => ⟨hc,by simp,hf,i1⟩,fun h => (by cases h)⟩
        · exact ⟨0,0,false,j0 _ i2,fun h => (by cases h),fun _ => ⟨rfl,rfl,fun z => i1 z.2.2.2⟩⟩
      · refine ⟨0,0,false,Ev.bnd gc (Ev.pos rfl (Ev.neg (by simp only [List.length_cons];omega) (Ev.neg (by omega) (Ev.pos (by simp only [List.length_cons];omega) (Ev.bnd0 (free_impl w c _) ?_))))),fun h => (by cases h),fun _ => ⟨rfl,rfl,fun z => hf z.2.2.1⟩⟩
        rw [e0,df_ hf];exact no
  · have gc:=goodCells_impl w c hn
    rw [df_ hc] at gc;exact ⟨0,0,false,Ev.bnd gc (Ev.neg (by simp) no),fun h => (by cases h),fun _ => ⟨rfl,rfl,fun z => hc z.1⟩⟩
end
end Go.Proofs.Ytjcmlggdaajicaa.Pure
/-
Own text: a way that is pulled straight: its ends,and its legs;costs told by the program's comparing.
-/
namespace Go.Proofs.Ytjcmlggdaajicaa.Pure
open Go.RowKit Go.Proofs.YtjcmlggdaajicaaW.PrintWords Go.Proofs.YtjcmlggdaajicaaW.PrintLast Go.Proofs.Ytjcmlggdaajicaa.Pr Go.Proofs.Ytjcmlggdaajicaa.EvKit
open Classical
open Dij (wt sgn)
set_option linter.unusedVariables false

structure Leg (w : Int) (c : List Int) (x y : Int) (n : Nat) (l : List Int) : Prop where
  one : 1 ≤ l.length
  len : l.length ≤ n
  head : l.getD 0 0 = x
  last : l.getD (l.length - 1) 0 = y
  chain : ∀ j,1 ≤ j → j < l.length → Clr w c (l.getD (j - 1) 0) (l.getD j 0)
section
variable {w : Int} {c : List Int}
theorem Leg.snoc {x y z : Int} {n m : Nat} {l : List Int} (h : Leg w c x y n l) (hz : Clr w c y z) (hm : n + 1 ≤ m) : Leg w c x z m (l ++ [z]):=by
  have h1:=h.one;have h2:=h.len;(have hl : (l ++ [z]).length = l.length + 1:=by simp);(have g : ∀ j,j < l.length → (l ++ [z]).getD j 0 = l.getD j 0:=fun j hj => by simp [List.getD_eq_getElem?_getD,List.getElem?_append_left hj]);(have gl : (l ++ [z]).getD l.length 0 = z:=by simp [List.getD_eq_getElem?_getD]);refine ⟨by omega,by omega,by rw [g 0 (by omega)];exact h.head,by rw [hl,Nat.add_sub_cancel];exact gl,fun j h3 h4 => ?_⟩;rw [hl] at h4;by_cases e : j = l.length
  · subst e
    rw [gl,g (l.length - 1) (by omega),h.last];exact hz
  · rw [g j (by omega),g (j - 1) (by omega)]
    exact h.chain j h3 (by omega)

variable (h : Cl w c) {p : List Int} (hp : p.length ≤ 256) (hf : ∀ j,j < p.length → Fr c (p.getD j 0)) (hs : ∀ j,1 ≤ j → j < p.length → Clr w c (p.getD (j - 1) 0) (p.getD j 0))
include h hp hf hs
theorem leg_l2 (i : Nat) (acc : List Int) (hacc : Leg w c (p.getD 0 0) (p.getD i 0) (i + 1) acc)
    (hN : ∀ (k : Nat),i < k → k < p.length → ∀ acc : List Int,Leg w c (p.getD 0 0) (p.getD k 0) (k + 1) acc → ∃ r,Leg w c (p.getD 0 0) (p.getD (p.length - 1) 0) p.length r ∧ Ev (fun q => impl_PulledWay.l1 q p acc k w c) (r,true)) (d : Nat) : ∀ k : Nat,k = i + 1 + d → k < p.length →
    ∃ r,Leg w c (p.getD 0 0) (p.getD (p.length - 1) 0) p.length r ∧ Ev (fun q => impl_PulledWay.l2 q p acc i k w c) (r,true):=by
  have yes : ∀ k : Nat,i < k → k < p.length → Clr w c (p.getD i 0) (p.getD k 0) → ∃ r,Leg w c (p.getD 0 0) (p.getD (p.length - 1) 0) p.length r ∧ Ev (fun q => impl_PulledWay.l2 q p acc i k w c) (r,true):=by
    intro k hik hk hc;obtain ⟨r,h0,e1⟩:=hN k hik hk (acc ++ [p.getD k 0]) (hacc.snoc hc (by omega));have ei : rd p (i : Int) = p.getD i 0:=rfl;have ek : rd p (k : Int) = p.getD k 0:=rfl;have:=hacc.len;refine ⟨r,h0,Ev.succ ?_⟩;simp only [impl_PulledWay.l2,ei,ek];exact Ev.pos (by omega) (Ev.pos (by omega) (Ev.pos (by omega) (Ev.pos (by omega) (Ev.bnd0 (clear_impl h hc.1 hc.2.1) (Ev.pos (by simpa using hc) (Ev.pos (by omega) e1))))))
  induction d with
  | zero =>
    intro k hk hkp;refine yes k (by omega) hkp ?_;have:=hs k (by omega) hkp;rw [show k - 1 = i by omega] at this;exact this
  | succ d ih =>
    intro k hk hkp;by_cases hc : Clr w c (p.getD i 0) (p.getD k 0)
    · exact yes k (by omega) hkp hc
    · obtain ⟨r,h0,e1⟩:=ih (k - 1) (by omega) (by omega)
      have ei : rd p (i : Int) = p.getD i 0:=rfl;have ek : rd p (k : Int) = p.getD k 0:=rfl;(have em : wrap64 ((k : Int) - 1) = ((k - 1 : Nat) : Int):=by rw [wrap64_id (by omega) (by omega)];omega);refine ⟨r,h0,Ev.succ ?_⟩;simp only [impl_PulledWay.l2,ei,ek,em];exact Ev.pos (by omega) (Ev.pos (by omega) (Ev.pos (by omega) (Ev.pos (by omega) (Ev.bnd0 (clear_impl h (hf i (by omega)) (hf k hkp)) (Ev.neg (by simpa using hc) e1)))))
theorem leg_l1 (n : Nat) : ∀ (d : Nat),d < n → ∀ (i : Nat) (acc : List Int),i + d = p.length - 1 → i < p.length → Leg w c (p.getD 0 0) (p.getD i 0) (i + 1) acc →
    ∃ r,Leg w c (p.getD 0 0) (p.getD (p.length - 1) 0) p.length r ∧ Ev (fun q => impl_PulledWay.l1 q p acc i w c) (r,true):=by
  induction n with
  | zero => intro d hd;omega
  | succ n ih =>
    intro d hd i acc hi hip hacc;(have em : wrap64 ((p.length : Int) - 1) = ((p.length - 1 : Nat) : Int):=by rw [wrap64_id (by omega) (by omega)];omega);by_cases hlt : i < p.length - 1
    · obtain ⟨r,h0,e1⟩:=leg_l2 h hp hf hs i acc hacc (fun k hk hkp acc' ha' => ih (p.length - 1 - k) (by omega) k acc' (by omega) hkp ha') (p.length - 1 - (i + 1)) (p.length - 1) (by omega) (by omega)
      refine ⟨r,h0,Ev.succ ?_⟩;simp only [impl_PulledWay.l1,em];exact Ev.pos (by omega) e1
    · have e : i = p.length - 1:=by omega
      subst e;have hl:=hacc.len;refine ⟨acc,⟨hacc.one,by omega,hacc.head,hacc.last,hacc.chain⟩,Ev.succ ?_⟩;simp only [impl_PulledWay.l1,em];exact Ev.neg (by omega) (Ev.some rfl)
theorem leg_l0 (hp1 : 1 ≤ p.length) (d : Nat) : ∀ i : Nat,i + d = p.length →
    ∃ r,Leg w c (p.getD 0 0) (p.getD (p.length - 1) 0) p.length r ∧ Ev (fun q => impl_PulledWay.l0 q p p (p.length : Int) i w c) (r,true):=by
  induction d with
  | zero =>
    intro i hi;(have e : i = p.length:=by omega);subst e;obtain ⟨r,h0,e1⟩:=leg_l1 h hp hf hs p.length (p.length - 1) (by omega) 0 [p.getD 0 0] (by omega) (by omega) ⟨by simp,by simp,by simp,by simp,fun j h1 h2 => by simp at h2;omega⟩;have e0 : rd p 0 = p.getD 0 0:=rfl;refine ⟨r,h0,Ev.succ ?_⟩;simp only [impl_PulledWay.l0,e0];exact Ev.neg (by omega) (Ev.pos (by omega) e1)
  | succ d ih =>
    intro i hi;have ei : rd p (i : Int) = p.getD i 0:=rfl;obtain ⟨r,h0,e1⟩:=ih (i + 1) (by omega);have f1:=hf i (by omega);refine ⟨r,h0,Ev.succ ?_⟩;simp only [impl_PulledWay.l0,ei,succ_w (show i < 35184372088833 by omega)];refine Ev.pos (by omega) (Ev.pos (by omega) (Ev.pos (by omega) (Ev.bnd0 (free_impl w c _) (Ev.pos (by simpa using f1) (Ev.ite (fun hi0 => ?_) (fun _ => e1))))));(have em : wrap64 ((i : Int) - 1) = ((i - 1 : Nat) : Int):=by rw [wrap64_id (by omega) (by omega)];omega);have ek : rd p ((i - 1 : Nat) : Int) = p.getD (i - 1) 0:=rfl;have hc:=hs i (by omega) (by omega);rw [em,ek];exact Ev.pos (by omega) (Ev.pos (by omega) (Ev.bnd0 (clear_impl h (hf (i - 1) (by omega)) f1) (Ev.pos (by simpa using hc) e1)))
theorem pulled_leg (hp1 : 1 ≤ p.length) : ∃ r,Leg w c (p.getD 0 0) (p.getD (p.length - 1) 0) p.length r ∧ Ev (fun k => impl_PulledWay.f k w c p) (r,true):=by
  obtain ⟨r,h0,e1⟩:=leg_l0 h hp hf hs hp1 p.length 0 (by omega);have gc:=goodCells_impl w c (by have:=h.n256;omega);rw [dt_ h] at gc;refine ⟨r,h0,?_⟩;simp only [impl_PulledWay.f];refine Ev.bnd gc (Ev.pos rfl (Ev.neg (by omega) ?_));rw [df_ (show ¬ (p.length : Int) > 256 by omega)];refine Ev.succ ?_;simp only [impl_PulledWay.j0,Bool.false_eq_true,if_false];exact e1
omit h hp hf hs
theorem between_in {x : Int} (h : 0 ≤ x ∧ x ≤ 1000000) : impl_between.f x 0 1000000 = some true:=by
  unfold impl_between.f
  simp [h.1,h.2]
theorem cmpCost_ev {a b x y : Int} (ha : 0 ≤ a ∧ a ≤ 1000) (hb : 0 ≤ b ∧ b ≤ 1000) (hx : 0 ≤ x ∧ x ≤ 1000) (hy : 0 ≤ y ∧ y ≤ 1000) : Ev (fun k => impl_CmpCost.f k a b x y) (sgn (wt (a - x,b - y)),true):=by
  have hr : ∀ i : Int,0 ≤ i → i < 4 → impl_between.f (rd [a,b,x,y] i) 0 1000000 = some true:=by
    intro i h0 h1;refine between_in ?_;(have : i = 0 ∨ i = 1 ∨ i = 2 ∨ i = 3:=by omega)
    rcases this with e | e | e | e <;> subst e
    · exact ⟨ha.1,by have:=ha.2;show a ≤ 1000000;omega⟩
    · exact ⟨hb.1,by have:=hb.2;show b ≤ 1000000;omega⟩
    · exact ⟨hx.1,by have:=hx.2;show x ≤ 1000000;omega⟩
    · exact ⟨hy.1,by have:=hy.2;show y ≤ 1000000;omega⟩
  have last : Ev (fun k => impl_CmpCost.l0 k a b x y [a,b,x,y] 4 4) (sgn (wt (a - x,b - y)),true):=by
    refine Ev.succ ?_;simp only [impl_CmpCost.l0];refine Ev.neg (by omega) ?_;rw [wrap64_id (x:=a - x) (by omega) (by omega),wrap64_id (x:=b - y) (by omega) (by omega)];exact Ev.bnd0 (cmp_impl (by omega) (by omega)) (Ev.some rfl)
  have step : ∀ i : Int,0 ≤ i → i < 4 → Ev (fun k => impl_CmpCost.l0 k a b x y [a,b,x,y] 4 (i + 1)) (sgn (wt (a - x,b - y)),true) → Ev (fun k => impl_CmpCost.l0 k a b x y [a,b,x,y] 4 i) (sgn (wt (a - x,b - y)),true):=by
    intro i h0 h1 he;refine Ev.succ ?_;simp only [impl_CmpCost.l0,wrap64_id (x:=i + 1) (by omega) (by omega)];exact Ev.pos h1 (Ev.pos h0 (Ev.pos (by simpa using h1) (Ev.bnd0 (hr i h0 h1) (Ev.pos rfl he))))
  simp only [impl_CmpCost.f];refine Ev.bnd0 rfl ?_;exact step 0 (by omega) (by omega) (step 1 (by omega) (by omega) (step 2 (by omega) (by omega) (step 3 (by omega) (by omega) last)))
end
end Go.Proofs.Ytjcmlggdaajicaa.Pure
/-
Own text: the cursor that draws numbers out of a code: it always answers,within its bounds.
-/
namespace Go.Proofs.Ytjcmlggdaajicaa.Pure
open Go.RowKit Go.Proofs.YtjcmlggdaajicaaW.PrintWords Go.Proofs.YtjcmlggdaajicaaW.PrintLast Go.Proofs.Ytjcmlggdaajicaa.Pr Go.Proofs.Ytjcmlggdaajicaa.EvKit

/-- A code: bytes, not too many. -/
def Code (c : List Int) : Prop:=c.length ≤ 1048576 ∧ ∀ y ∈ c,0 ≤ y ∧ y ≤ 255
theorem wrap_u64 (n : Int) : IntKind.u64.wrap n = n % 18446744073709551616:=by
  simp [IntKind.wrap,IntKind.bits,IntKind.signed]
theorem mask_in (n : Int) : 0 ≤ Go.bits .and .u64 (IntKind.u64.wrap n / 1099511627776) 255 ∧ Go.bits .and .u64 (IntKind.u64.wrap n / 1099511627776) 255 ≤ 255:=by
  have h0 : 0 ≤ IntKind.u64.wrap n / 1099511627776 ∧ IntKind.u64.wrap n / 1099511627776 < 2 ^ 32:=by
    rw [wrap_u64]
    omega
  have h:=bits_mask .u64 32 (by decide) (fun m h1 h2 => by rw [wrap_u64];omega) 8 (by decide) _ h0.1 h0.2;rw [show ((2 : Int) ^ 8 - 1) = 255 by decide] at h;rw [h]
  omega
theorem code_rd {c : List Int} (hc : Code c) (i : Int) : 0 ≤ rd c i ∧ rd c i ≤ 255:=by
  unfold rd;rw [List.getD_eq_getElem?_getD];by_cases h : i.toNat < c.length
  · rw [List.getElem?_eq_getElem h]
    exact hc.2 _ (List.getElem_mem h)
  · rw [List.getElem?_eq_none (by omega)]
    exact ⟨by decide,by decide⟩
theorem next_ok {c : List Int} (hc : Code c) (a s : Int) (h0 : 0 ≤ a) (h1 : a ≤ 4611686018427387904) : ∃ b s',spec_l1Cur_next.f c a s = some (b,a + 1,s') ∧ 0 ≤ b ∧ b ≤ 255:=by
  unfold spec_l1Cur_next.f;have e : wrap64 (a + 1) = a + 1:=wrap64_id (by omega) (by omega);have hr:=code_rd hc a;rw [e];by_cases h2 : a < (c.length : Int)
  · rw [if_pos h2,if_pos h0,if_pos (by omega)]
    exact ⟨_,_,rfl,by rw [wrap64_id (by omega) (by omega)];exact hr.1,by rw [wrap64_id (by omega) (by omega)];exact hr.2⟩
  · rw [if_neg h2,if_neg (by omega)]
    have hm:=mask_in ((IntKind.u64.wrap ((IntKind.u64.wrap (s * 6364136223846793005)) + 0)) + 1442695040888963407);exact ⟨_,_,rfl,by rw [wrap64_id (by omega) (by omega)];exact hm.1,by rw [wrap64_id (by omega) (by omega)];exact hm.2⟩
theorem tmod_in (x n : Int) (hx : 0 ≤ x) (hn : 0 < n) : 0 ≤ x.tmod n ∧ x.tmod n < n:=by
  rw [Int.tmod_eq_emod_of_nonneg hx];exact ⟨Int.emod_nonneg _ (by omega),Int.emod_lt_of_pos _ hn⟩
theorem pick_ok {c : List Int} (hc : Code c) (a s n : Int) (h0 : 0 ≤ a) (h1 : a ≤ 4611686018427387000) : ∃ v a' s',spec_l1Cur_pick.f c a s n = some (v,a',s') ∧ a ≤ a' ∧ a' ≤ a + 2 ∧ 0 ≤ v ∧ (1 < n → v < n) ∧ (n ≤ 1 → v = 0):=by
  unfold spec_l1Cur_pick.f;by_cases hn : n ≤ 1
  · rw [if_pos hn]
    exact ⟨0,a,s,rfl,by omega,by omega,by omega,by omega,fun _ => rfl⟩
  · rw [if_neg hn]
    obtain ⟨b,s1,e1,b0,b1⟩:=next_ok hc a s h0 (by omega);rw [e1];simp only [Option.bind_some];by_cases h2 : n > 200
    · rw [if_pos h2]
      obtain ⟨b2,s2,e2,b20,b21⟩:=next_ok hc (a + 1) s1 (by omega) (by omega);rw [e2];simp only [Option.bind_some];rw [if_neg (by omega),wrap64_id (x:=b * 256) (by omega) (by omega),wrap64_id (x:=b * 256 + b2) (by omega) (by omega)];have:=tmod_in (b * 256 + b2) n (by omega) (by omega);exact ⟨_,_,_,rfl,by omega,by omega,this.1,fun _ => this.2,fun h => by omega⟩
    · rw [if_neg h2,if_neg (by omega)]
      have:=tmod_in b n b0 (by omega);exact ⟨_,_,_,rfl,by omega,by omega,this.1,fun _ => this.2,fun h => by omega⟩
theorem one_ok {c : List Int} (hc : Code c) (a s n : Int) (h0 : 0 ≤ a) (h1 : a ≤ 4611686018427387000) : ∃ b a' s',spec_l1Cur_one.f c a s n = some (b,a',s') ∧ a ≤ a' ∧ a' ≤ a + 2:=by
  obtain ⟨v,a',s',e,h2,h3,_⟩:=pick_ok hc a s n h0 h1;unfold spec_l1Cur_one.f;rw [e];exact ⟨_,_,_,rfl,h2,h3⟩
theorem among_ok {c : List Int} (hc : Code c) (a s : Int) (l : List Int) (hl : 0 < l.length) (h0 : 0 ≤ a) (h1 : a ≤ 4611686018427387000) : ∃ v a' s',spec_l1Cur_among.f c a s l = some (v,a',s') ∧ a ≤ a' ∧ a' ≤ a + 2 ∧ v ∈ l:=by
  obtain ⟨v,a',s',e,h2,h3,h4,h5,h6⟩:=pick_ok hc a s (l.length : Int) h0 h1
  have hv : v < (l.length : Int):=by
    by_cases h : (1 : Int) < l.length
    · exact h5 h
    · have:=h6 (by omega)
      omega
  unfold spec_l1Cur_among.f;rw [e];simp only [Option.bind_some];rw [if_pos h4,if_pos hv];refine ⟨_,_,_,rfl,h2,h3,?_⟩;unfold rd;exact getD_mem l _ _ (by omega)
end Go.Proofs.Ytjcmlggdaajicaa.Pure
/-
Own text: cells and ends that are drawn: there are always some,not too many.
-/
namespace Go.Proofs.Ytjcmlggdaajicaa.Pure
open Go.RowKit Go.Proofs.YtjcmlggdaajicaaW.PrintWords Go.Proofs.YtjcmlggdaajicaaW.PrintLast Go.Proofs.Ytjcmlggdaajicaa.Pr Go.Proofs.Ytjcmlggdaajicaa.EvKit

theorem extent_ok {c : List Int} (hc : Code c) (a s : Int) (h0 : 0 ≤ a) (h1 : a ≤ 1000000000) : ∃ w h a' s',spec_l1Cur_extent.f c a s = some (w,h,a',s') ∧ 0 ≤ w ∧ w ≤ 17 ∧ 0 ≤ h ∧ h ≤ 17 ∧ a ≤ a' ∧ a' ≤ a + 6:=by
  unfold spec_l1Cur_extent.f;obtain ⟨b,a1,s1,e1,p1,p2⟩:=one_ok hc a s 12 h0 (by omega);rw [e1];simp only [Option.bind_some]
  cases b with
  | true =>
    obtain ⟨w,a2,s2,e2,q1,q2,hw⟩:=among_ok hc a1 s1 [16,1,17,0] (by simp) (by omega) (by omega);obtain ⟨h,a3,s3,e3,r1,r2,hh⟩:=among_ok hc a2 s2 [16,1,0,17] (by simp) (by omega) (by omega);simp only [List.mem_cons,List.not_mem_nil,or_false] at hw hh;rw [if_pos rfl,e2];simp only [Option.bind_some];rw [e3];exact ⟨w,h,a3,s3,rfl,by omega,by omega,by omega,by omega,by omega,by omega⟩
  | false =>
    obtain ⟨w,a2,s2,e2,q1,q2,q3,q4,_⟩:=pick_ok hc a1 s1 6 (by omega) (by omega);obtain ⟨h,a3,s3,e3,r1,r2,r3,r4,_⟩:=pick_ok hc a2 s2 6 (by omega) (by omega);have:=q4 (by omega);have:=r4 (by omega);rw [if_neg (by simp),e2];simp only [Option.bind_some];rw [e3];simp only [Option.bind_some];rw [wrap64_id (x:=1 + w) (by omega) (by omega),wrap64_id (x:=1 + h) (by omega) (by omega)];exact ⟨1 + w,1 + h,a3,s3,rfl,by omega,by omega,by omega,by omega,by omega,by omega⟩

theorem cells_j1 {c : List Int} (hc : Code c) (w : Int) (x : List Int) (hx : x.length ≤ 900) (b : Bool) (hb : b = true → 0 < x.length) (a s : Int) (h0 : 0 ≤ a) (h1 : a ≤ 2000000000) :
    ∃ (m : List Int) (a' s' : Int),Ev (fun k => spec_l1Cur_cells.j1 k b c a s w x) (w,m,a',s') ∧ m.length ≤ 1000 ∧ a ≤ a' ∧ a' ≤ a + 4:=by
  cases b with
  | true =>
    have hl:=hb rfl;obtain ⟨v,a1,s1,e1,p1,p2,_⟩:=among_ok hc a s [-1,3] (by simp) h0 (by omega);obtain ⟨b2,a2,s2,e2,q1,q2⟩:=one_ok hc a1 s1 30 (by omega) (by omega);(have hlen : (x.set (0 : Int).toNat v).length = x.length:=by simp)
    cases b2 with
    | true =>
      refine ⟨x.set (0 : Int).toNat v ++ [0],a2,s2,Ev.succ ?_,by simp;omega,by omega,by omega⟩;simp only [spec_l1Cur_cells.j1];refine Ev.pos trivial (Ev.bnd0 e1 (Ev.pos (by omega) ?_));simp only [Option.bind_some];refine Ev.bnd0 e2 (Ev.pos rfl (Ev.pos (by rw [hlen];omega) (Ev.some rfl)))
    | false =>
      refine ⟨x.set (0 : Int).toNat v,a2,s2,Ev.succ ?_,by simp;omega,by omega,by omega⟩;simp only [spec_l1Cur_cells.j1];refine Ev.pos trivial (Ev.bnd0 e1 (Ev.pos (by omega) ?_));simp only [Option.bind_some];exact Ev.bnd0 e2 (Ev.neg (by simp) (Ev.some rfl))
  | false =>
    obtain ⟨b2,a2,s2,e2,q1,q2⟩:=one_ok hc a s 30 h0 (by omega)
    cases b2 with
    | true =>
      refine ⟨x ++ [0],a2,s2,Ev.succ ?_,by simp;omega,by omega,by omega⟩;simp only [spec_l1Cur_cells.j1];exact Ev.neg (by simp) (Ev.bnd0 e2 (Ev.pos rfl (Ev.pos (by omega) (Ev.some rfl))))
    | false =>
      refine ⟨x,a2,s2,Ev.succ ?_,by omega,by omega,by omega⟩;simp only [spec_l1Cur_cells.j1];exact Ev.neg (by simp) (Ev.bnd0 e2 (Ev.neg (by simp) (Ev.some rfl)))

theorem drawC_l0 {c : List Int} (hc : Code c) (w h : Int) (n : Nat) (hn : wrap64 (w * h) = (n : Int)) (hn2 : n ≤ 300) (walls W : Int) (d : Nat) : ∀ (i : Nat) (x : List Int) (a s : Int),i + d = n → x.length = i → 0 ≤ a → a + 8 * d ≤ 1000000000 →
    ∃ (m : List Int) (a' s' : Int),Ev (fun k => spec_l1Cur_cells.l0 k w h walls (i : Int) c a s W x) (W,m,a',s') ∧ m.length ≤ 1000 ∧ a ≤ a' ∧ a' ≤ a + 8 * d + 6:=by
  induction d with
  | zero =>
    intro i x a s hi hx h0 h1;obtain ⟨b,a1,s1,e1,p1,p2⟩:=one_ok hc a s 24 h0 (by omega)
    cases b with
    | true =>
      obtain ⟨m,a2,s2,e2,q1,q2,q3⟩:=cells_j1 hc W x (by omega) (decide ((x.length : Int) > 0)) (by simp) a1 s1 (by omega) (by omega);refine ⟨m,a2,s2,Ev.succ ?_,q1,by omega,by omega⟩;simp only [spec_l1Cur_cells.l0,hn];exact Ev.neg (by omega) (Ev.bnd0 e1 (Ev.pos rfl e2))
    | false =>
      obtain ⟨m,a2,s2,e2,q1,q2,q3⟩:=cells_j1 hc W x (by omega) false (by simp) a1 s1 (by omega) (by omega);refine ⟨m,a2,s2,Ev.succ ?_,q1,by omega,by omega⟩;simp only [spec_l1Cur_cells.l0,hn];exact Ev.neg (by omega) (Ev.bnd0 e1 (Ev.neg (by simp) e2))
  | succ d ih =>
    intro i x a s hi hx h0 h1;obtain ⟨v,a1,s1,e1,p1,p2,_⟩:=pick_ok hc a s 10 h0 (by omega);obtain ⟨b,a2,s2,e2,q1,q2⟩:=one_ok hc a1 s1 20 (by omega) (by omega)
    have nx : ∀ k : Int,∃ (m : List Int) (a' s' : Int),Ev (fun q => spec_l1Cur_cells.l0 q w h walls ((i + 1 : Nat) : Int) c a2 s2 W (x ++ [k])) (W,m,a',s') ∧ m.length ≤ 1000 ∧ a ≤ a' ∧ a' ≤ a + 8 * ((d + 1 : Nat) : Int) + 6:=by
      intro k;obtain ⟨m,a3,s3,e3,r1,r2,r3⟩:=ih (i + 1) (x ++ [k]) a2 s2 (by omega) (by simp;omega) (by omega) (by omega);exact ⟨m,a3,s3,e3,r1,by omega,by omega⟩
    (have hw : ((i : Int) < (n : Int)):=by omega)
    have fin : ∀ k : Int,(b = true → k = 2) → (b = false → v < walls → k = 1) → (b = false → ¬ v < walls → k = 0) → ∃ (m : List Int) (a' s' : Int),Ev (fun q => spec_l1Cur_cells.l0 q w h walls (i : Int) c a s W x) (W,m,a',s') ∧ m.length ≤ 1000 ∧ a ≤ a' ∧ a' ≤ a + 8 * ((d + 1 : Nat) : Int) + 6:=by
      intro k k1 k2 k3;obtain ⟨m,a3,s3,e3,r⟩:=nx k;refine ⟨m,a3,s3,Ev.succ ?_,r⟩;simp only [spec_l1Cur_cells.l0,hn,succ_w (show i < 35184372088833 by omega)];refine Ev.pos hw (Ev.bnd0 e1 (Ev.ite (fun hv => Ev.bnd0 e2 ?_) (fun hv => Ev.bnd0 e2 ?_)))
      · cases b with
        | true => rw [k1 rfl] at e3;exact Ev.pos rfl (Ev.pos (by omega) e3)
        | false => rw [k2 rfl hv] at e3;exact Ev.neg (by simp) (Ev.pos (by omega) e3)
      · cases b with
        | true => rw [k1 rfl] at e3;exact Ev.pos rfl (Ev.pos (by omega) e3)
        | false => rw [k3 rfl hv] at e3;exact Ev.neg (by simp) (Ev.pos (by omega) e3)
    cases b with
    | true => exact fin 2 (fun _ => rfl) (fun h => by cases h) (fun h => by cases h)
    | false =>
      by_cases hv : v < walls
      · exact fin 1 (fun h => by cases h) (fun _ _ => rfl) (fun _ h => absurd hv h)
      · exact fin 0 (fun h => by cases h) (fun _ h => absurd h hv) (fun _ _ => rfl)

theorem cells_ok {c : List Int} (hc : Code c) (a s : Int) (h0 : 0 ≤ a) (h1 : a ≤ 900000000) :
    ∃ (w : Int) (m : List Int) (a' s' : Int),Ev (fun k => spec_l1Cur_cells.f k c a s) (w,m,a',s') ∧ m.length ≤ 1000 ∧ a ≤ a' ∧ a' ≤ a + 3000:=by
  obtain ⟨w,h,a1,s1,e1,w0,w1,h2,h3,p1,p2⟩:=extent_ok hc a s h0 (by omega);obtain ⟨v,a2,s2,e2,q1,q2,_⟩:=pick_ok hc a1 s1 5 (by omega) (by omega);have m0:=Int.mul_nonneg w0 h2;have m1:=Int.mul_le_mul w1 h3 h2 (by omega : (0 : Int) ≤ 17);obtain ⟨n,hn⟩:=nat_of m0;obtain ⟨m,a3,s3,e3,r1,r2,r3⟩:=drawC_l0 hc w h n (by rw [wrap64_id (by omega) (by omega)];exact hn) (by omega) v w n 0 [] a2 s2 (by omega) rfl (by omega) (by omega);refine ⟨w,m,a3,s3,?_,r1,by omega,by omega⟩;simp only [spec_l1Cur_cells.f];exact Ev.bnd0 e1 (Ev.bnd0 e2 e3)

theorem places_l0 (w : Int) (m : List Int) (hm : m.length ≤ 1000) (d : Nat) : ∀ (i : Nat) (x : List Int),i + d = m.length → x.length ≤ i → ∃ r : List Int,Ev (fun k => spec_AllPlaces.l0 k x (m.length : Int) i w m) r ∧ r.length ≤ 1000:=by
  induction d with
  | zero =>
    intro i x hi hx;refine ⟨x,Ev.succ ?_,by omega⟩;simp only [spec_AllPlaces.l0];exact Ev.neg (by omega) (Ev.some rfl)
  | succ d ih =>
    intro i x hi hx;by_cases hz : rd m (i : Int) = 0
    · obtain ⟨r,e,hr⟩:=ih (i + 1) (x ++ [(i : Int)]) (by omega) (by simp;omega)
      refine ⟨r,Ev.succ ?_,hr⟩;simp only [spec_AllPlaces.l0,succ_w (show i < 35184372088833 by omega)];exact Ev.pos (by omega) (Ev.pos (by omega) (Ev.pos (by omega) (Ev.pos hz (Ev.pos (by omega) e))))
    · obtain ⟨r,e,hr⟩:=ih (i + 1) x (by omega) (by omega)
      refine ⟨r,Ev.succ ?_,hr⟩;simp only [spec_AllPlaces.l0,succ_w (show i < 35184372088833 by omega)];exact Ev.pos (by omega) (Ev.pos (by omega) (Ev.pos (by omega) (Ev.neg hz e)))
theorem places_ok (w : Int) (m : List Int) (hm : m.length ≤ 1000) : ∃ r : List Int,Ev (fun k => spec_AllPlaces.f k w m) r ∧ r.length ≤ 1000:=by
  simp only [spec_AllPlaces.f];by_cases h : Cl w m
  · obtain ⟨r,e,hr⟩:=places_l0 w m hm m.length 0 [] (by omega) (by simp)
    exact ⟨r,Ev.bnd (goodCells_spec w m (by omega)) (Ev.pos (by simpa using h) e),hr⟩
  · exact ⟨[],Ev.bnd (goodCells_spec w m (by omega)) (Ev.neg (by simpa using h) (Ev.some rfl)),by simp⟩

theorem ends_ok {c : List Int} (hc : Code c) (a s : Int) (h0 : 0 ≤ a) (h1 : a ≤ 100000000) :
    ∃ (w : Int) (m : List Int) (x y a' s' : Int),Ev (fun k => spec_l1Cur_ends.f k c a s) (w,m,x,y,a',s') ∧ m.length ≤ 1000 ∧ a ≤ a' ∧ a' ≤ a + 4000:=by
  obtain ⟨w,m,a1,s1,e1,hm,p1,p2⟩:=cells_ok hc a s h0 (by omega);obtain ⟨r,e2,hr⟩:=places_ok w m hm
  have yes : ∀ a1 s1 : Int,0 ≤ a1 → a1 ≤ 200000000 → ∃ (x y a' s' : Int),Ev (fun k => spec_l1Cur_ends.j0 k r true c a1 s1 w m) (w,m,x,y,a',s') ∧ a1 ≤ a' ∧ a' ≤ a1 + 4:=by
    intro a1 s1 g0 g1;obtain ⟨x,a2,s2,f1,t1,t2,_⟩:=pick_ok hc a1 s1 (wrap64 ((m.length : Int) + 1)) g0 (by omega);obtain ⟨y,a3,s3,f2,u1,u2,_⟩:=pick_ok hc a2 s2 (wrap64 ((m.length : Int) + 1)) (by omega) (by omega);refine ⟨x,wrap64 (y - 1),a3,s3,Ev.succ ?_,by omega,by omega⟩;simp only [spec_l1Cur_ends.j0];exact Ev.pos trivial (Ev.bnd0 f1 (Ev.bnd0 f2 (Ev.some rfl)))
  simp only [spec_l1Cur_ends.f];by_cases hz : (r.length : Int) = 0
  · obtain ⟨x,y,a2,s2,e3,q1,q2⟩:=yes a1 s1 (by omega) (by omega)
    exact ⟨w,m,x,y,a2,s2,Ev.bnd e1 (Ev.bnd e2 (Ev.pos hz e3)),hm,by omega,by omega⟩
  · obtain ⟨b,a2,s2,f1,t1,t2⟩:=one_ok hc a1 s1 16 (by omega) (by omega)
    cases b with
    | true =>
      obtain ⟨x,y,a3,s3,e3,q1,q2⟩:=yes a2 s2 (by omega) (by omega);exact ⟨w,m,x,y,a3,s3,Ev.bnd e1 (Ev.bnd e2 (Ev.neg hz (Ev.bnd0 f1 e3))),hm,by omega,by omega⟩
    | false =>
      obtain ⟨i,a3,s3,f2,u1,u2,u3,u4,u5⟩:=pick_ok hc a2 s2 (r.length : Int) (by omega) (by omega);obtain ⟨j,a4,s4,f3,v1,v2,v3,v4,v5⟩:=pick_ok hc a3 s3 (r.length : Int) (by omega) (by omega)
      have hi : i < (r.length : Int):=by
        by_cases h : (1 : Int) < r.length
        · exact u4 h
        · have:=u5 (by omega)
          omega
      have hj : j < (r.length : Int):=by
        by_cases h : (1 : Int) < r.length
        · exact v4 h
        · have:=v5 (by omega)
          omega
      refine ⟨w,m,rd r i,rd r j,a4,s4,Ev.bnd e1 (Ev.bnd e2 (Ev.neg hz (Ev.bnd0 f1 (Ev.succ ?_)))),hm,by omega,by omega⟩;simp only [spec_l1Cur_ends.j0];exact Ev.neg (by simp) (Ev.bnd0 f2 (Ev.pos u3 (Ev.pos hi (Ev.bnd0 f3 (Ev.pos v3 (Ev.pos hj (Ev.some rfl)))))))
end Go.Proofs.Ytjcmlggdaajicaa.Pure
/- THE LAW FnClears, as a statement over numbers and lists: proved here. -/
namespace Go.Proofs.Ytjcmlggdaajicaa.Pure
open Go.RowKit Go.Proofs.YtjcmlggdaajicaaW.PrintWords Go.Proofs.YtjcmlggdaajicaaW.PrintLast Go.Proofs.Ytjcmlggdaajicaa.Pr Go.Proofs.Ytjcmlggdaajicaa.EvKit
open Classical

/-! ### the line to and fro -/
theorem side_swap (x1 y1 x2 y2 x y : Int) (k : Nat) : sideOf x2 y2 x1 y1 x y k = - sideOf x1 y1 x2 y2 x y k:=by
  unfold sideOf;have c1:=Int.mul_comm x1 y1;have c2:=Int.mul_comm x1 y2;have c3:=Int.mul_comm x2 y1;have c4:=Int.mul_comm x2 y2;simp only [Int.sub_mul,Int.mul_sub,Int.mul_add]
  omega
theorem less_swap (x1 y1 x2 y2 x y : Int) (k : Nat) : lessTo x2 y2 x1 y1 x y k = moreTo x1 y1 x2 y2 x y k:=by
  induction k with
  | zero => rfl
  | succ k ih =>
    unfold lessTo moreTo;rw [ih,side_swap]
    congr 1
    rw [Bool.eq_iff_iff,decide_eq_true_iff,decide_eq_true_iff]
    omega
theorem more_swap (x1 y1 x2 y2 x y : Int) (k : Nat) : moreTo x2 y2 x1 y1 x y k = lessTo x1 y1 x2 y2 x y k:=(less_swap x2 y2 x1 y1 x y k).symm
theorem max_swap (a b : Int) : maxI a b = maxI b a:=by unfold maxI;by_cases h : a < b <;> by_cases h2 : b < a <;> simp only [h,h2,if_true,if_false] <;> omega
theorem min_swap (a b : Int) : minI a b = minI b a:=by unfold minI;by_cases h : a < b <;> by_cases h2 : b < a <;> simp only [h,h2,if_true,if_false] <;> omega
theorem blocks_swap (w : Int) (c : List Int) (a b : Int) (j : Nat) : blocks w c b a j = blocks w c a b j:=by
  unfold blocks farOf;rw [less_swap (2 * (a % w)) (2 * (a / w)) (2 * (b % w)) (2 * (b / w)),more_swap (2 * (a % w)) (2 * (a / w)) (2 * (b % w)) (2 * (b / w)),max_swap (2 * (b % w)),min_swap (2 * (b % w)),max_swap (2 * (b / w)),min_swap (2 * (b / w))]
  congr 1
  exact Bool.and_comm _ _
theorem clr_swap (w : Int) (c : List Int) (a b : Int) : Clr w c b a ↔ Clr w c a b:=by
  constructor
  · rintro ⟨h1,h2,h3⟩
    exact ⟨h2,h1,fun j q1 q2 => (blocks_swap w c a b j).symm.trans (h3 j q1 q2)⟩
  · rintro ⟨h1,h2,h3⟩
    exact ⟨h2,h1,fun j q1 q2 => (blocks_swap w c a b j).trans (h3 j q1 q2)⟩

theorem clear_is (w : Int) (c : List Int) (h : Cl w c) (a b : Int) (hn : c.length ≤ 35184372088832) : Ev (fun k => impl_Clear.f k w c a b) (decide (Clr w c a b)):=by
  simp only [impl_Clear.f];refine Ev.bnd (goodCells_impl w c hn) (Ev.pos (by simpa using h) ?_);by_cases ha : Fr c a
  · by_cases hb : Fr c b
    · exact Ev.bnd0 (free_impl w c a) (Ev.pos (by simpa using ha) (Ev.bnd0 (free_impl w c b) (Ev.pos (by simpa using hb) (Ev.bnd0 (clear_impl h ha hb) (Ev.some rfl)))))
    · rw [df_ (fun x : Clr w c a b => hb x.2.1)]
      exact Ev.bnd0 (free_impl w c a) (Ev.pos (by simpa using ha) (Ev.bnd0 (free_impl w c b) (Ev.neg (by simpa using hb) (Ev.some rfl))))
  · rw [df_ (fun x : Clr w c a b => ha x.1)]
    exact Ev.bnd0 (free_impl w c a) (Ev.neg (by simpa using ha) (Ev.some rfl))

/-! ### all places that see one -/
noncomputable def Sees (w : Int) (c : List Int) (a : Int) (i d : Nat) : List Int:=((List.range' i d).filter fun j : Nat => decide (Clr w c a (j : Int))).map fun j : Nat => (j : Int)
theorem sees_succ (w : Int) (c : List Int) (a : Int) (i d : Nat) : Sees w c a i (d + 1) = if Clr w c a (i : Int) then (i : Int) :: Sees w c a (i + 1) d else Sees w c a (i + 1) d:=by
  unfold Sees;rw [List.range'_succ,List.filter_cons];by_cases h : Clr w c a (i : Int)
  · rw [if_pos (by simpa using h),if_pos h]
    rfl
  · rw [if_neg (by simpa using h),if_neg h]
theorem sees_length (w : Int) (c : List Int) (a : Int) (i d : Nat) : (Sees w c a i d).length ≤ d:=by
  unfold Sees;rw [List.length_map];exact Nat.le_trans (List.length_filter_le _ _) (by simp)
theorem sees_mem (w : Int) (c : List Int) (a : Int) (n : Nat) (j : Nat) (hj : j < n) : (j : Int) ∈ Sees w c a 0 n ↔ Clr w c a (j : Int):=by
  unfold Sees;simp only [List.mem_map,List.mem_filter,List.mem_range'_1,decide_eq_true_iff]
  constructor
  · rintro ⟨q,⟨_,h⟩,e⟩
    rwa [e] at h
  · intro h
    exact ⟨j,⟨⟨by omega,by omega⟩,h⟩,rfl⟩
theorem sees_sorted (w : Int) (c : List Int) (a : Int) (i d : Nat) : (Sees w c a i d).Pairwise (· < ·):=by
  unfold Sees;rw [List.pairwise_map];refine List.Pairwise.filter _ ?_;exact (List.pairwise_lt_range' (s:=i) (n:=d)).imp (fun h => by omega)

theorem mostS_l0 {w : Int} {c : List Int} (h : Cl w c) {a : Int} (ha : Fr c a) (d : Nat) : ∀ (i : Nat) (acc : List Int),i + d = c.length → acc.length ≤ i →
    Ev (fun k => impl_MostClear.l0 k a acc (c.length : Int) i w c) (acc ++ Sees w c a i d) ∧ Ev (fun k => spec_MostClear.l0 k a acc (c.length : Int) i w c) (acc ++ Sees w c a i d):=by
  have hn:=h.n256
  induction d with
  | zero =>
    intro i acc hi hl;(have e : acc ++ Sees w c a i 0 = acc:=by simp [Sees]);rw [e];refine ⟨Ev.succ ?_,Ev.succ ?_⟩
    · simp only [impl_MostClear.l0]
      exact Ev.neg (by omega) (Ev.some rfl)
    · simp only [spec_MostClear.l0]
      exact Ev.neg (by omega) (Ev.some rfl)
  | succ d ih =>
    intro i acc hi hl;have s:=clear_spec h a (i : Int);rw [sees_succ];by_cases hc : Clr w c a (i : Int)
    · obtain ⟨e1,e2⟩:=ih (i + 1) (acc ++ [(i : Int)]) (by omega) (by simp;omega)
      rw [if_pos hc];rw [List.append_assoc] at e1 e2;refine ⟨Ev.succ ?_,Ev.succ ?_⟩
      · simp only [impl_MostClear.l0,succ_w (show i < 35184372088833 by omega)]
        exact Ev.pos (by omega) (Ev.bnd0 (free_impl w c _) (Ev.pos (by simpa using hc.2.1) (Ev.bnd0 (clear_impl h ha hc.2.1) (Ev.pos (by simpa using hc) (Ev.pos (by omega) e1)))))
      · simp only [spec_MostClear.l0,succ_w (show i < 35184372088833 by omega)]
        exact Ev.pos (by omega) (Ev.bnd s (Ev.pos (by simpa using hc) (Ev.pos (by omega) e2)))
    · obtain ⟨e1,e2⟩:=ih (i + 1) acc (by omega) (by omega)
      rw [if_neg hc];refine ⟨Ev.succ ?_,Ev.succ ?_⟩
      · simp only [impl_MostClear.l0,succ_w (show i < 35184372088833 by omega)]
        by_cases hf : Fr c (i : Int)
        · exact Ev.pos (by omega) (Ev.bnd0 (free_impl w c _) (Ev.pos (by simpa using hf) (Ev.bnd0 (clear_impl h ha hf) (Ev.neg (by simpa using hc) e1))))
        · exact Ev.pos (by omega) (Ev.bnd0 (free_impl w c _) (Ev.neg (by simpa using hf) e1))
      · simp only [spec_MostClear.l0,succ_w (show i < 35184372088833 by omega)]
        exact Ev.pos (by omega) (Ev.bnd s (Ev.neg (by simpa using hc) e2))

theorem mostS (w : Int) (c : List Int) (a : Int) (hn : c.length ≤ 35184372088832) : ∃ r : List Int,Ev (fun k => impl_MostClear.f k w c a) r ∧ Ev (fun k => spec_MostClear.f k w c a) r ∧ r.length ≤ c.length ∧ r.Pairwise (· < ·) ∧ (¬ Cl w c → r = []) ∧ (Cl w c → ∀ j : Nat,j < c.length → ((j : Int) ∈ r ↔ Clr w c a (j : Int))):=by
  simp only [impl_MostClear.f,spec_MostClear.f]
  have no : Ev (fun k => impl_MostClear.j0 k a true w c) [] ∧ Ev (fun k => spec_MostClear.j0 k a true w c) []:=by
    refine ⟨Ev.succ ?_,Ev.succ ?_⟩
    · simp only [impl_MostClear.j0];exact Ev.pos trivial (Ev.some rfl)
    · simp only [spec_MostClear.j0];exact Ev.pos trivial (Ev.some rfl)
  by_cases h : Cl w c
  · by_cases ha : Fr c a
    · obtain ⟨e1,e2⟩:=mostS_l0 h ha c.length 0 [] (by omega) (Nat.le_refl _)
      rw [List.nil_append] at e1 e2;refine ⟨Sees w c a 0 c.length,Ev.bnd (goodCells_impl w c hn) (Ev.pos (by simpa using h) (Ev.bnd0 (free_impl w c a) ?_)),Ev.bnd (goodCells_spec w c hn) (Ev.pos (by simpa using h) (Ev.bnd0 (free_spec w c a) ?_)),sees_length _ _ _ _ _,sees_sorted _ _ _ _ _,fun x => absurd h x,fun _ j hj => sees_mem w c a c.length j hj⟩
      · rw [dt_ ha]
        apply Ev.succ;simp only [impl_MostClear.j0,Bool.not_true];exact Ev.neg (by simp) e1
      · rw [dt_ ha]
        apply Ev.succ;simp only [spec_MostClear.j0,Bool.not_true];exact Ev.neg (by simp) e2
    · refine ⟨[],Ev.bnd (goodCells_impl w c hn) (Ev.pos (by simpa using h) (Ev.bnd0 (free_impl w c a) ?_)),Ev.bnd (goodCells_spec w c hn) (Ev.pos (by simpa using h) (Ev.bnd0 (free_spec w c a) ?_)),Nat.zero_le _,List.Pairwise.nil,fun _ => rfl,fun _ j _ => ⟨fun x => (by simp at x),fun x => absurd x.1 ha⟩⟩
      · rw [df_ ha]
        exact no.1
      · rw [df_ ha]
        exact no.2
  · exact ⟨[],Ev.bnd (goodCells_impl w c hn) (Ev.neg (by simpa using h) no.1),Ev.bnd (goodCells_spec w c hn) (Ev.neg (by simpa using h) no.2),Nat.zero_le _,List.Pairwise.nil,fun _ => rfl,fun x => absurd x h⟩

theorem rising (r : List Int) (hr : r.Pairwise (· < ·)) (hl : r.length ≤ 1000000) (d : Nat) : ∀ i : Nat,1 ≤ i → r.length ≤ i + d → Ev (fun k => laws_zRising.l0 k r i) true:=by
  induction d with
  | zero =>
    intro i h1 hi;apply Ev.succ;simp only [laws_zRising.l0];exact Ev.neg (by omega) (Ev.some rfl)
  | succ d ih =>
    intro i h1 hi;apply Ev.succ;by_cases hlt : i < r.length
    · have em : wrap64 ((i : Int) - 1) = ((i - 1 : Nat) : Int):=by rw [wrap64_id (by omega) (by omega)];omega
      have e1 : rd r (i : Int) = r[i]'hlt:=by
        unfold rd;rw [List.getD_eq_getElem?_getD,Int.toNat_natCast,List.getElem?_eq_getElem hlt]
        rfl
      have e2 : rd r ((i - 1 : Nat) : Int) = r[i - 1]'(by omega):=by
        unfold rd;rw [List.getD_eq_getElem?_getD,Int.toNat_natCast,List.getElem?_eq_getElem (show i - 1 < r.length by omega)]
        rfl
      have lt:=(List.pairwise_iff_getElem.1 hr) (i - 1) i (by omega) hlt (by omega);simp only [laws_zRising.l0,em,e1,e2,succ_w (show i < 35184372088833 by omega)];exact Ev.pos (by omega) (Ev.pos (by omega) (Ev.pos (by omega) (Ev.pos (by omega) (Ev.neg (by omega) (ih (i + 1) (by omega) (by omega))))))
    · simp only [laws_zRising.l0]
      exact Ev.neg (by omega) (Ev.some rfl)

theorem zin_l0 (r : List Int) (v : Int) (hl : r.length ≤ 1000000) (d : Nat) : ∀ i : Nat,i + d = r.length → Ev (fun k => laws_zIn.l0 k v r (r.length : Int) i) (decide (v ∈ r.drop i)):=by
  induction d with
  | zero =>
    intro i hi;rw [List.drop_eq_nil_of_le (by omega)];apply Ev.succ;simp only [laws_zIn.l0];exact Ev.neg (by omega) (Ev.some (by simp))
  | succ d ih =>
    intro i hi;(have hlt : i < r.length:=by omega)
    have e1 : rd r (i : Int) = r[i]'hlt:=by
      unfold rd;rw [List.getD_eq_getElem?_getD,Int.toNat_natCast,List.getElem?_eq_getElem hlt]
      rfl
    have a:=ih (i + 1) (by omega);rw [List.drop_eq_getElem_cons hlt];apply Ev.succ;simp only [laws_zIn.l0,e1,succ_w (show i < 35184372088833 by omega)];refine Ev.pos (by omega) (Ev.pos (by omega) (Ev.pos (by omega) (Ev.ite (fun h => Ev.some ?_) (fun h => Ev.eq a ?_))))
    · symm
      rw [decide_eq_true_iff,h];exact List.mem_cons_self
    · rw [decide_eq_decide,List.mem_cons]
      exact ⟨Or.inr,fun x => x.resolve_left (fun e => h e.symm)⟩
theorem zin_ev (r : List Int) (v : Int) (hl : r.length ≤ 1000000) : Ev (fun k => laws_zIn.f k r v) (decide (v ∈ r)):=by
  simp only [laws_zIn.f];have:=zin_l0 r v hl r.length 0 (by omega)
  rwa [List.drop_zero] at this

theorem clears_l0 (w : Int) (c : List Int) (h : Cl w c) (x : Int) (r : List Int) (hl : r.length ≤ 1000000) (hn : c.length ≤ 1000000) (hr : ∀ j : Nat,j < c.length → ((j : Int) ∈ r ↔ Clr w c x (j : Int))) (d : Nat) : ∀ i : Nat,i + d = c.length →
    Ev (fun k => laws_FnClears.l0 k x r (c.length : Int) i w c) true:=by
  induction d with
  | zero =>
    intro i hi;apply Ev.succ;simp only [laws_FnClears.l0];exact Ev.neg (by omega) (Ev.some rfl)
  | succ d ih =>
    intro i hi;have a1:=clear_is w c h x (i : Int) (by omega);have a2 : Ev (fun k => impl_Clear.f k w c (i : Int) x) (decide (Clr w c x (i : Int))):=Ev.eq (clear_is w c h (i : Int) x (by omega)) (by rw [decide_eq_decide];exact clr_swap w c x (i : Int));have z : Ev (fun k => laws_zIn.f k r (i : Int)) (decide (Clr w c x (i : Int))):=Ev.eq (zin_ev r (i : Int) hl) (by rw [decide_eq_decide];exact hr i (by omega));apply Ev.succ;simp only [laws_FnClears.l0,succ_w (show i < 35184372088833 by omega)];exact Ev.pos (by omega) (Ev.bnd a1 (Ev.bnd z (Ev.neg (by simp) (Ev.bnd a2 (Ev.bnd z (Ev.neg (by simp) (ih (i + 1) (by omega))))))))

theorem FnClears : ∀ (l0 : List Int),(l0.length ≤ maxLen ∧ l0.length * 1 ≤ 140737488351232 ∧ ∀ y0 ∈ l0,(Lit.int .u8 y0).wf = true) → ∃ k,laws_FnClears.f k l0 = some true:=by
  intro cd hcd;apply Ev.rounds;simp only [laws_FnClears.f];refine Ev.ite (fun _ => Ev.some rfl) (fun h => ?_)
  have hC : Code cd:=⟨by omega,fun y hy => by
    have:=hcd.2.2 y hy
    simp [Lit.wf,IntKind.min,IntKind.max,IntKind.bits,IntKind.signed] at this
    omega⟩
  obtain ⟨w,c,x,y,a',s',e1,hm,_,_⟩:=ends_ok hC 0 0 (by omega) (by omega)
  have e0 : Ev (fun k => spec_DrawMostClear.f k cd) (w,c,x):=by
    simp only [spec_DrawMostClear.f];exact Ev.bnd e1 (Ev.some rfl)
  obtain ⟨r,m1,m2,hl,hs,hno,hyes⟩:=mostS w c x (by omega);refine Ev.bnd e0 (Ev.bnd m1 (Ev.bnd m2 (Ev.pos rfl ?_)))
  have zr : Ev (fun k => laws_zRising.f k r) true:=by
    simp only [laws_zRising.f];exact rising r hs (by omega) r.length 1 (Nat.le_refl _) (by omega)
  refine Ev.bnd zr (Ev.succ ?_);simp only [laws_FnClears.j0,Bool.not_true];refine Ev.neg (by simp) (Ev.bnd (goodCells_spec w c (by omega)) (Ev.ite (fun hg => ?_) (fun hg => Ev.some ?_)))
  · have hg' : Cl w c:=by simpa using hg
    exact clears_l0 w c hg' x r (by omega) (by omega) (hyes hg') c.length 0 (by omega)
  · have hg' : ¬ Cl w c:=by simpa using hg
    rw [hno hg']
    rfl

end Go.Proofs.Ytjcmlggdaajicaa.Pure
/- THE LAW FnWays, as a statement over numbers and lists: proved here. -/
namespace Go.Proofs.Ytjcmlggdaajicaa.Pure
open Go.RowKit Go.Proofs.YtjcmlggdaajicaaW.PrintWords Go.Proofs.YtjcmlggdaajicaaW.PrintLast Go.Proofs.Ytjcmlggdaajicaa.Pr Go.Proofs.Ytjcmlggdaajicaa.EvKit
open Classical
open Dij (wt sgn nxt trail Wk)
set_option linter.unusedVariables false

def In (m : List Int) (x : Int) : Prop:=0 ≤ x ∧ x < m.length
theorem places2_l0 (w : Int) (m : List Int) (hm : m.length ≤ 1000) (d : Nat) : ∀ (i : Nat) (x : List Int),i + d = m.length → x.length ≤ i → (∀ y ∈ x,In m y) → ∃ r : List Int,Ev (fun k => spec_AllPlaces.l0 k x (m.length : Int) i w m) r ∧ r.length ≤ 1000 ∧ ∀ y ∈ r,In m y:=by
  induction d with
  | zero =>
    intro i x hi hx hin;refine ⟨x,Ev.succ ?_,by omega,hin⟩;simp only [spec_AllPlaces.l0];exact Ev.neg (by omega) (Ev.some rfl)
  | succ d ih =>
    intro i x hi hx hin;by_cases h : rd m (i : Int) = 0
    · obtain ⟨r,e,hr,hr2⟩:=ih (i + 1) (x ++ [(i : Int)]) (by omega) (by simp;omega) (fun y hy => (List.mem_append.1 hy).elim (hin y) (fun h => by rw [List.mem_singleton.1 h];exact ⟨by omega,by omega⟩))
      refine ⟨r,Ev.succ ?_,hr,hr2⟩;simp only [spec_AllPlaces.l0,succ_w (show i < 35184372088833 by omega)];exact Ev.pos (by omega) (Ev.pos (by omega) (Ev.pos (by omega) (Ev.pos h (Ev.pos (by omega) e))))
    · obtain ⟨r,e,hr,hr2⟩:=ih (i + 1) x (by omega) (by omega) hin
      refine ⟨r,Ev.succ ?_,hr,hr2⟩;simp only [spec_AllPlaces.l0,succ_w (show i < 35184372088833 by omega)];exact Ev.pos (by omega) (Ev.pos (by omega) (Ev.pos (by omega) (Ev.neg h e)))
theorem places2 (w : Int) (m : List Int) (hm : m.length ≤ 1000) : ∃ r : List Int,Ev (fun k => spec_AllPlaces.f k w m) r ∧ r.length ≤ 1000 ∧ (∀ y ∈ r,In m y) ∧ (r.length ≠ 0 → Cl w m):=by
  simp only [spec_AllPlaces.f];by_cases h : Cl w m
  · obtain ⟨r,e,hr,hr2⟩:=places2_l0 w m hm m.length 0 [] (by omega) (by simp) (fun y hy => by simp at hy)
    exact ⟨r,Ev.bnd (goodCells_spec w m (by omega)) (Ev.pos (by simpa using h) e),hr,hr2,fun _ => h⟩
  · exact ⟨[],Ev.bnd (goodCells_spec w m (by omega)) (Ev.neg (by simpa using h) (Ev.some rfl)),by simp,fun y hy => by simp at hy,fun h => absurd rfl h⟩
section
variable {w : Int} {m : List Int} {cd : List Int}
theorem rd_in {l : List Int} (hl : ∀ y ∈ l,In m y) {i : Int} (h0 : 0 ≤ i) (h1 : i < l.length) : In m (rd l i):=hl _ (by unfold rd;exact getD_mem l i.toNat 0 (by omega))
theorem str_l1 (hc : Cl w m) {at_ : Int} (ha : In m at_) (x7 : List Int) (x8 a s : Int) (d : Nat) : ∀ (j : Nat) (x9 : List Int),j + d = (AR w m at_).length → x9.length ≤ j → (∀ y ∈ x9,In m y) →
    ∃ nx : List Int,nx.length ≤ 9 ∧ (∀ y ∈ nx,In m y) ∧ ∀ r,Ev (fun k => spec_l1Cur_stroll.l1 k at_ x7 x8 nx (AR w m at_) ((AR w m at_).length : Int) ((AR w m at_).length : Int) cd a s w m) r → Ev (fun k => spec_l1Cur_stroll.l1 k at_ x7 x8 x9 (AR w m at_) ((AR w m at_).length : Int) (j : Int) cd a s w m) r:=by
  have h9:=(NB_length w m at_).1
  induction d with
  | zero =>
    intro j x9 hj hx hin;(have e : j = (AR w m at_).length:=by omega);subst e;exact ⟨x9,by omega,hin,fun r hr => hr⟩
  | succ d ih =>
    intro j x9 hj hx hin;have hel : In m (rd (AR w m at_) (j : Int)):=rd_in (fun y hy => by have:=(mem_AR hc ha.1 ha.2).1 hy;exact ⟨this.1,this.2.1⟩) (by omega) (by omega);have hst:=step_spec hc at_ (rd (AR w m at_) (j : Int));by_cases h : Stp w m at_ (rd (AR w m at_) (j : Int)) > 0
    · obtain ⟨nx,n1,n2,n3⟩:=ih (j + 1) (x9 ++ [rd (AR w m at_) (j : Int)]) (by omega) (by simp;omega) (fun y hy => (List.mem_append.1 hy).elim (hin y) (fun h => by rw [List.mem_singleton.1 h];exact hel))
      refine ⟨nx,n1,n2,fun r hr => Ev.succ ?_⟩;simp only [spec_l1Cur_stroll.l1,succ_w (show j < 35184372088833 by omega)];exact Ev.pos (by omega) (Ev.pos (by omega) (Ev.pos (by omega) (Ev.bnd hst (Ev.pos h (Ev.pos (by omega) (n3 r hr))))))
    · obtain ⟨nx,n1,n2,n3⟩:=ih (j + 1) x9 (by omega) (by omega) hin
      refine ⟨nx,n1,n2,fun r hr => Ev.succ ?_⟩;simp only [spec_l1Cur_stroll.l1,succ_w (show j < 35184372088833 by omega)];exact Ev.pos (by omega) (Ev.pos (by omega) (Ev.pos (by omega) (Ev.bnd hst (Ev.neg h (n3 r hr)))))
theorem pick2 (hc : Code cd) (a s n : Int) (h0 : 0 ≤ a) (h1 : a ≤ 1000000) (hn : 0 < n) : ∃ v a' s',spec_l1Cur_pick.f cd a s n = some (v,a',s') ∧ a ≤ a' ∧ a' ≤ a + 2 ∧ 0 ≤ v ∧ v < n:=by
  obtain ⟨v,a',s',e,p1,p2,p3,p4,p5⟩:=pick_ok hc a s n h0 (by omega);refine ⟨v,a',s',e,p1,p2,p3,?_⟩;by_cases h : 1 < n
  · exact p4 h
  · have:=p5 (by omega)
    omega
theorem str_j2 (hcd : Code cd) (x7 : List Int) (hx : x7.length ≤ 100) (a s : Int) (h0 : 0 ≤ a) (h1 : a ≤ 1000000) : ∃ t a' s',Ev (fun k => spec_l1Cur_stroll.j2 k x7 cd a s w m) (t,a',s') ∧ t.length ≤ x7.length + 1:=by
  obtain ⟨b,a1,s1,e1,p1,p2⟩:=one_ok hcd a s 16 h0 (by omega)
  cases b with
  | true =>
    obtain ⟨v,a2,s2,e2,_⟩:=pick_ok hcd a1 s1 (wrap64 ((m.length : Int) + 1)) (by omega) (by omega);refine ⟨x7 ++ [v],a2,s2,Ev.succ ?_,by simp⟩;simp only [spec_l1Cur_stroll.j2];exact Ev.bnd0 e1 (Ev.pos rfl (Ev.bnd0 e2 (Ev.pos (by omega) (Ev.some rfl))))
  | false =>
    refine ⟨x7,a1,s1,Ev.succ ?_,by omega⟩;simp only [spec_l1Cur_stroll.j2];exact Ev.bnd0 e1 (Ev.neg (by simp) (Ev.some rfl))
theorem str_l0 (hcd : Code cd) (hc : Cl w m) (d : Nat) : ∀ (n : Int) (at_ : Int) (x7 : List Int) (a s : Int),n ≤ d → x7.length + d ≤ 90 → In m at_ → 0 ≤ a → a + 100 * d ≤ 900000 →
    ∃ t a' s',Ev (fun k => spec_l1Cur_stroll.l0 k at_ x7 n cd a s w m) (t,a',s') ∧ t.length ≤ 100:=by
  induction d with
  | zero =>
    intro n at_ x7 a s hn hx hin h0 h1;obtain ⟨t,a',s',e,hl⟩:=str_j2 (w:=w) (m:=m) hcd x7 (by omega) a s h0 (by omega);refine ⟨t,a',s',Ev.succ ?_,by omega⟩;simp only [spec_l1Cur_stroll.l0];exact Ev.neg (by omega) e
  | succ d ih =>
    intro n at_ x7 a s hn hx hin h0 h1;by_cases hpos : n > 0
    · obtain ⟨nx,n1,n2,n3⟩:=str_l1 (cd:=cd) hc hin x7 n a s (AR w m at_).length 0 [] (by omega) (by simp) (fun y hy => by simp at hy)
      by_cases hz : (nx.length : Int) = 0
      · obtain ⟨t,a',s',e,hl⟩:=str_j2 (w:=w) (m:=m) hcd x7 (by omega) a s h0 (by omega)
        refine ⟨t,a',s',Ev.succ ?_,by omega⟩;simp only [spec_l1Cur_stroll.l0];refine Ev.pos hpos (Ev.bnd (around_spec hc hin.1 hin.2) (n3 _ (Ev.succ ?_)));simp only [spec_l1Cur_stroll.l1];exact Ev.neg (by omega) (Ev.pos hz e)
      · obtain ⟨v,a2,s2,e2,q1,q2,hv⟩:=pick2 hcd a s (nx.length : Int) h0 (by omega) (by omega)
        obtain ⟨t,a',s',e,hl⟩:=ih (n - 1) (rd nx v) (x7 ++ [rd nx v]) a2 s2 (by omega) (by simp;omega) (rd_in n2 hv.1 hv.2) (by omega) (by omega);refine ⟨t,a',s',Ev.succ ?_,hl⟩;simp only [spec_l1Cur_stroll.l0];refine Ev.pos hpos (Ev.bnd (around_spec hc hin.1 hin.2) (n3 _ (Ev.succ ?_)));simp only [spec_l1Cur_stroll.l1];refine Ev.neg (by omega) (Ev.neg hz (Ev.bnd0 e2 (Ev.pos hv.1 (Ev.pos hv.2 (Ev.pos (by omega) ?_)))));rw [wrap64_id (x:=n - 1) (by omega) (by omega)];exact e
    · obtain ⟨t,a',s',e,hl⟩:=str_j2 (w:=w) (m:=m) hcd x7 (by omega) a s h0 (by omega)
      refine ⟨t,a',s',Ev.succ ?_,by omega⟩;simp only [spec_l1Cur_stroll.l0];exact Ev.neg hpos e
theorem strolled (hcd : Code cd) (hm : m.length ≤ 1000) : ∃ t,Ev (fun k => spec_Strolled.f k cd w m) t ∧ t.length ≤ 100:=by
  obtain ⟨r,e,hr,hin,hcl⟩:=places2 w m hm;simp only [spec_Strolled.f,spec_l1Cur_stroll.f];by_cases hz : (r.length : Int) = 0
  · exact ⟨[],Ev.bnd (Ev.bnd e (Ev.pos hz (Ev.some rfl))) (Ev.some rfl),by simp⟩
  · obtain ⟨v,a2,s2,e2,q1,q2,hv⟩:=pick2 hcd 0 0 (r.length : Int) (by omega) (by omega) (by omega)
    obtain ⟨v2,a3,s3,e3,p1,p2,hv2⟩:=pick2 hcd a2 s2 12 (by omega) (by omega) (by omega);obtain ⟨t,a',s',e4,hl⟩:=str_l0 hcd (hcl (by omega)) 12 v2 (rd r v) [rd r v] a3 s3 (by omega) (by simp) (rd_in hin hv.1 hv.2) (by omega) (by omega);exact ⟨t,Ev.bnd (Ev.bnd e (Ev.neg hz (Ev.bnd0 e2 (Ev.pos hv.1 (Ev.pos hv.2 (Ev.bnd0 e3 e4)))))) (Ev.some rfl),hl⟩
theorem ways_l0 (hc : Cl w m) (r : List Int) (hr : r.length ≤ 300) (hch : ∀ j,1 ≤ j → j < r.length → Clr w m (r.getD (j - 1) 0) (r.getD j 0)) (d : Nat) : ∀ i : Nat,1 ≤ i → r.length ≤ i + d → Ev (fun k => laws_FnWays.l0 k r (i : Int) w m) true:=by
  have hn:=hc.n256
  induction d with
  | zero =>
    intro i h1 hi;refine Ev.succ ?_;simp only [laws_FnWays.l0];exact Ev.neg (by omega) (Ev.some rfl)
  | succ d ih =>
    intro i h1 hi;refine Ev.succ ?_;by_cases hlt : i < r.length
    · have em : wrap64 ((i : Int) - 1) = ((i - 1 : Nat) : Int):=by rw [wrap64_id (by omega) (by omega)];omega
      have e1 : rd r ((i - 1 : Nat) : Int) = r.getD (i - 1) 0:=rfl;have e2 : rd r (i : Int) = r.getD i 0:=rfl;have hcl:=hch i h1 hlt;have c1:=clear_is w m hc (r.getD (i - 1) 0) (r.getD i 0) (by omega);rw [dt_ hcl] at c1
      have c2 : Ev (fun k => spec_Clear.f k w m (r.getD i 0) (r.getD (i - 1) 0)) true:=by
        have:=clear_spec hc (r.getD i 0) (r.getD (i - 1) 0);rw [dt_ ((clr_swap w m _ _).2 hcl)] at this;have gc:=goodCells_spec w m (by omega);rw [dt_ hc] at gc;simp only [spec_Clear.f];exact Ev.bnd gc (Ev.pos rfl (Ev.bnd this (Ev.some rfl)))
      simp only [laws_FnWays.l0,em,e1,e2,succ_w (show i < 35184372088833 by omega)];exact Ev.pos (by omega) (Ev.pos (by omega) (Ev.pos (by omega) (Ev.pos (by omega) (Ev.bnd c1 (Ev.pos rfl (Ev.bnd c2 (Ev.pos rfl (ih (i + 1) (by omega) (by omega)))))))))
    · simp only [laws_FnWays.l0]
      exact Ev.neg (by omega) (Ev.some rfl)
theorem Pth.steps {l : List Int} {a b : Int} (h : Pth w m l a b) : ∀ j,1 ≤ j → j < l.length → Stp w m (l.getD (j - 1) 0) (l.getD j 0) ≠ 0:=by
  induction h with
  | one x => intro j h1 h2;simp at h2;omega
  | @cons x y l a b q hn hp ih =>
    intro j h1 h2;by_cases e : j = 1
    · subst e
      exact (NB_in hn).1
    · obtain ⟨j',rfl⟩ : ∃ j',j = j' + 2:=⟨j - 2,by omega⟩
      have:=ih (j' + 1) (by omega) (by simp only [List.length_cons] at h2 ⊢;omega)
      simpa using this
end
set_option maxHeartbeats 1000000 in
theorem FnWays : ∀ (l0 : List Int) (l1 : List Int),(l0.length ≤ maxLen ∧ l0.length * 1 ≤ 140737488351232 ∧ ∀ y0 ∈ l0,(Lit.int .u8 y0).wf = true) → (l1.length ≤ maxLen ∧ l1.length * 1 ≤ 140737488351232 ∧ ∀ y0 ∈ l1,(Lit.int .u8 y0).wf = true) → ∃ k,laws_FnWays.f k l0 l1 = some true:=by
  intro cd cd2 hcd hcd2;apply Ev.rounds;simp only [laws_FnWays.f]
  have jt : Ev (fun k => laws_FnWays.j0 k cd cd2 true) true:=by
    refine Ev.succ ?_;simp only [laws_FnWays.j0,if_true];exact Ev.some rfl
  refine Ev.ite (fun _ => jt) (fun h1 => ?_);by_cases h2 : (cd2.length : Int) > 1048576
  · rw [dt_ h2];exact jt
  rw [df_ h2]
  have code : ∀ l : List Int,(∀ y0 ∈ l,(Lit.int .u8 y0).wf = true) → (l.length : Int) ≤ 1048576 → Code l:=fun l h hl => ⟨by omega,fun y hy => by
    have:=h y hy
    simp [Lit.wf,IntKind.min,IntKind.max,IntKind.bits,IntKind.signed] at this
    omega⟩
  have hC:=code cd hcd.2.2 (by omega);have hC2:=code cd2 hcd2.2.2 (by omega);obtain ⟨w,m,x_,y_,a',s',e1,hm,_,_⟩:=ends_ok hC 0 0 (by omega) (by omega)
  have e0 : Ev (fun k => spec_DrawShortestWay.f k cd) (w,m,x_,y_):=by
    simp only [spec_DrawShortestWay.f];exact Ev.bnd e1 (Ev.some rfl)
  obtain ⟨t,et,ht⟩:=strolled (w:=w) (m:=m) hC2 hm;refine Ev.succ ?_;simp only [laws_FnWays.j0,Bool.false_eq_true,if_false];refine Ev.bnd e0 (Ev.bnd et (Ev.ite (fun _ => Ev.some rfl) (fun hne => ?_)));(have em : wrap64 ((t.length : Int) - 1) = ((t.length - 1 : Nat) : Int):=by rw [wrap64_id (by omega) (by omega)];omega);rw [em];refine Ev.pos (by omega) (Ev.pos (by omega) (Ev.pos (by omega) ?_));have hx : rd t 0 = t.getD 0 0:=rfl;have hy : rd t ((t.length - 1 : Nat) : Int) = t.getD (t.length - 1) 0:=rfl;obtain ⟨⟨cl,sp,dp,ok⟩,hw,hs,hi,hl⟩:=short_both w m (rd t 0) (rd t ((t.length - 1 : Nat) : Int)) (by omega)
  simp only at hl
  obtain ⟨a,b,tt,hwc,hyes,hno⟩:=way_is w m t (by omega) (by omega);(have eb : (ok != ok) = false:=by simp);refine Ev.bnd0 hi (Ev.bnd hs (Ev.neg (by simp) (Ev.bnd hwc ?_)))
  -- what is told of a table
  have table : ok = true → ∃ D p,Cl w m ∧ Fr m (rd t 0) ∧ Dij.End (NB w m) (rd t ((t.length - 1 : Nat) : Int)) (Us m.length) D ∧ D (rd t 0) = some p ∧ cl = trail (NB w m) D (p.1 + p.2).toNat (rd t 0) ∧ sp = p.1 ∧ dp = p.2:=by
    intro hok;subst hok
    rcases hw with ⟨c1,c2,c3,D,c4,c5⟩ | ⟨_,c5⟩
    · unfold wayOf at c5
      cases hp : D (rd t 0) with
      | none => rw [hp] at c5;simp at c5
      | some p =>
        rw [hp] at c5;simp only [Prod.mk.injEq,and_true] at c5;exact ⟨D,p,c1,c2,c4,hp,c5.1,c5.2.1,c5.2.2⟩
    · simp at c5
  have okT : tt = true → ok = true:=by
    intro htt;obtain ⟨c1,c2,c3,c4⟩:=hyes htt;have c5:=c4.free (by rw [← hx];exact c3);rw [← hy] at c5
    rcases hw with ⟨_,_,_,D,c6,c7⟩ | ⟨c6,_⟩
    · obtain ⟨p',d1,_⟩:=c6.least (c4.wk c1 _ hy.symm)
      rw [← hx] at d1;unfold wayOf at c7;rw [d1] at c7;simp only [Prod.mk.injEq] at c7;exact c7.2.2.2
    · exact absurd ⟨c1,c3,c5⟩ c6
  have j1 : Ev (fun k => laws_FnWays.j1 k (rd t 0) (rd t ((t.length - 1 : Nat) : Int)) ok a b tt false w m cl sp dp) true:=by
    refine Ev.succ ?_;simp only [laws_FnWays.j1,Bool.false_eq_true,if_false]
    cases hok : ok with
    | false => exact Ev.neg (by simp) (Ev.some rfl)
    | true =>
      obtain ⟨D,p,c1,c2,c4,hp,rfl,rfl,rfl⟩:=table hok;refine Ev.pos rfl ?_;have hwk:=(c4.walk _ _ hp).2;rw [Us_length] at hwk;have h256:=c1.n256;have hfu : ((p.1 + p.2).toNat : Int) = p.1 + p.2:=Int.toNat_of_nonneg (by omega);obtain ⟨pth,plast⟩:=trail_pth c1 c4 (p.1 + p.2).toNat (rd t 0) p hp hfu.symm;have plen:=Dij.trail_length (nb:=NB w m) (D:=D) (p.1 + p.2).toNat (rd t 0);obtain ⟨tl,phead⟩:=Dij.trail_head (nb:=NB w m) (D:=D) (p.1 + p.2).toNat (rd t 0);(have phd : (trail (NB w m) D (p.1 + p.2).toNat (rd t 0)).getD 0 0 = rd t 0:=by rw [phead];rfl);generalize hcl : trail (NB w m) D (p.1 + p.2).toNat (rd t 0) = cl at *;obtain ⟨a2,b2,t2,hw2,hy2,hn2⟩:=way_is w m cl (by omega) (by omega)
      have e2 : t2 = true:=by
        cases ht2 : t2 with
        | true => rfl
        | false => exact absurd ⟨c1,by omega,by rw [show rd cl 0 = cl.getD 0 0 from rfl,phd];exact c2,_,_,pth⟩ (hn2 ht2).2.2
      subst e2;obtain ⟨e3,e4⟩:=(hy2 rfl).2.2.2.unique pth;subst e3 e4;(have cm : wrap64 ((cl.length : Int) - 1) = ((cl.length - 1 : Nat) : Int):=by rw [wrap64_id (by omega) (by omega)];omega)
      have hlast : rd cl ((cl.length - 1 : Nat) : Int) = rd t ((t.length - 1 : Nat) : Int):=by
        show cl.getD (cl.length - 1) 0 = _
        rw [show cl.length - 1 = (p.1 + p.2).toNat by omega];exact plast
      have hfirst : rd cl 0 = rd t 0:=phd;refine Ev.bnd hw2 (Ev.pos rfl (Ev.pos rfl (Ev.pos rfl (Ev.pos (by omega) (Ev.pos hfirst ?_)))));rw [cm,hlast];refine Ev.pos (by omega) (Ev.pos (by omega) ?_);rw [bne_self_eq_false]
      have hab : 0 ≤ a ∧ a ≤ 1000 ∧ 0 ≤ b ∧ b ≤ 1000:=by
        cases htt : tt with
        | true => have:=(hyes htt).2.2.2.bound;omega
        | false => have:=hno htt;omega
      have hcmp:=cmpCost_ev (a:=p.1) (b:=p.2) (x:=a) (y:=b) (by omega) (by omega) (by omega) (by omega)
      -- the pulled way
      have hsteps:=pth.steps
      have hfr : ∀ j,j < cl.length → Fr m (cl.getD j 0):=by
        intro j hj;by_cases e : j = 0
        · subst e;rw [phd];exact c2
        · exact (Stp_facts (hsteps j (by omega) hj)).2.1
      obtain ⟨r,leg,hpl⟩:=pulled_leg c1 (p:=cl) (by omega) hfr (fun j q1 q2 => stp_clr c1 (hsteps j q1 q2)) (by omega)
      have j3 : Ev (fun k => laws_FnWays.j3 k (rd t 0) (rd t ((t.length - 1 : Nat) : Int)) false w m cl p.1 p.2) true:=by
        refine Ev.succ ?_;simp only [laws_FnWays.j3,Bool.false_eq_true,if_false];have g1:=leg.one;have g2:=leg.len;(have rm : wrap64 ((r.length : Int) - 1) = ((r.length - 1 : Nat) : Int):=by rw [wrap64_id (by omega) (by omega)];omega);have g3 : rd r 0 = rd t 0:=leg.head.trans phd;have g4 : rd r ((r.length - 1 : Nat) : Int) = rd t ((t.length - 1 : Nat) : Int):=leg.last.trans hlast;refine Ev.bnd hpl (Ev.pos rfl ?_);dsimp only;refine Ev.neg (by omega) (Ev.neg (by omega) (Ev.pos (by omega) (Ev.pos g3 ?_)));rw [rm,g4,bne_self_eq_false];refine Ev.pos (by omega) (Ev.pos (by omega) (Ev.succ ?_));simp only [laws_FnWays.j4,Bool.false_eq_true,if_false];exact ways_l0 c1 r (by omega) leg.chain r.length 1 (Nat.le_refl _) (by omega)
      refine Ev.succ ?_;simp only [laws_FnWays.j2,Bool.false_eq_true,if_false];refine Ev.bnd hcmp (Ev.ite (fun htt => ?_) (fun _ => j3));obtain ⟨_,_,d3,d4⟩:=hyes htt;obtain ⟨p',d5,d6⟩:=c4.least (d4.wk c1 _ hy.symm);rw [← hx,hp] at d5
      cases d5
      rw [df_]
      · exact j3
      · intro hgt
        have:=sgn_ppos.1 hgt;(have e : wt (p.1 - a,p.2 - b) = wt p - wt (a,b):=by simp only [wt];omega)
        omega
  cases htt : tt with
  | true =>
    have:=okT htt;rw [htt] at j1;refine Ev.pos rfl ?_;rw [this] at j1 ⊢;exact j1
  | false =>
    rw [htt] at j1;exact Ev.neg (by simp) j1
end Go.Proofs.Ytjcmlggdaajicaa.Pure
