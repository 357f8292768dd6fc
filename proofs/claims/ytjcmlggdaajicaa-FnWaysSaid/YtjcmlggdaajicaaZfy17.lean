-- Joined and pruned by wip/tools/prune.py out of this session's own texts (PureFrom, PureShort, PureShort2, Pr21)
import Derived.Test.YtjcmlggdaajicaaZfy16
/-
Own text: the reference's costs of all cells to one: they end as a table of least costs.
-/
namespace Go.Proofs.Ytjcmlggdaajicaa.Pure
open Go.RowKit Go.Proofs.YtjcmlggdaajicaaW.PrintWords Go.Proofs.YtjcmlggdaajicaaW.PrintLast Go.Proofs.Ytjcmlggdaajicaa.Pr Go.Proofs.Ytjcmlggdaajicaa.EvKit
open Classical
open Dij (wt sgn rel rel1 Inv End cnt)
set_option linter.unusedVariables false

/-- The table that two lists tell. -/
def DL (a b : List Int) (x : Int) : Option (Int × Int):=if 0 ≤ x ∧ x < a.length ∧ 0 ≤ rd a x then some (rd a x,rd b x) else none
def DN (dn : List Bool) (x : Int) : Bool:=if 0 ≤ x then rdOf false dn x else false
theorem rd_set (a : List Int) {n y : Int} (u : Int) (hn : 0 ≤ n) (hy : 0 ≤ y) (hl : n < a.length) : rd (a.set n.toNat u) y = if y = n then u else rd a y:=by
  unfold rd;rw [List.getD_eq_getElem?_getD,List.getD_eq_getElem?_getD,List.getElem?_set];by_cases h : y = n
  · subst h
    rw [if_pos rfl,if_pos rfl,if_pos (by omega)]
    rfl
  · rw [if_neg (by omega),if_neg h]
theorem rdB_set (a : List Bool) {n y : Int} (u : Bool) (hn : 0 ≤ n) (hy : 0 ≤ y) (hl : n < a.length) : rdOf false (a.set n.toNat u) y = if y = n then u else rdOf false a y:=by
  unfold rdOf;rw [List.getD_eq_getElem?_getD,List.getD_eq_getElem?_getD,List.getElem?_set];by_cases h : y = n
  · subst h
    rw [if_pos rfl,if_pos rfl,if_pos (by omega)]
    rfl
  · rw [if_neg (by omega),if_neg h]
theorem DL_set {a b : List Int} {n : Int} (hl : b.length = a.length) (h0 : 0 ≤ n) (h1 : n < a.length) {u v : Int} (hu : 0 ≤ u) (y : Int) : DL (a.set n.toNat u) (b.set n.toNat v) y = if y = n then some (u,v) else DL a b y:=by
  unfold DL;rw [List.length_set];by_cases hy : 0 ≤ y
  · rw [rd_set a u h0 hy h1,rd_set b v h0 hy (by omega)]
    by_cases e : y = n
    · subst e
      simp only [if_true];rw [if_pos ⟨h0,h1,hu⟩]
    · simp only [if_neg e]
  · rw [if_neg (fun z => hy z.1),if_neg (fun e => hy (by omega)),if_neg (fun z => hy z.1)]
theorem DN_set {dn : List Bool} {n : Int} (h0 : 0 ≤ n) (h1 : n < dn.length) (y : Int) : DN (dn.set n.toNat true) y = if y = n then true else DN dn y:=by
  unfold DN;by_cases hy : 0 ≤ y
  · rw [if_pos hy,if_pos hy,rdB_set dn true h0 hy h1]
  · rw [if_neg hy,if_neg hy,if_neg (fun e => hy (by omega))]
theorem DL_some {a b : List Int} {x : Int} {p : Int × Int} (h : DL a b x = some p) : 0 ≤ x ∧ x < a.length ∧ 0 ≤ rd a x ∧ p = (rd a x,rd b x):=by
  unfold DL at h
  split at h
  · rename_i hh
    cases h
    exact ⟨hh.1,hh.2.1,hh.2.2,rfl⟩
  · cases h
theorem DL_of {a b : List Int} {x : Int} (h0 : 0 ≤ x) (h1 : x < a.length) (h2 : 0 ≤ rd a x) : DL a b x = some (rd a x,rd b x):=if_pos ⟨h0,h1,h2⟩

section
variable {w : Int} {c : List Int}
/-- The lists in the search. -/
structure Rl (w : Int) (c : List Int) (src : Int) (a b : List Int) (dn : List Bool) : Prop where
  la : a.length = c.length
  lb : b.length = c.length
  ld : dn.length = c.length
  inv : Inv (NB w c) src (Us c.length) (DL a b) (DN dn)
theorem Rl.bd {src : Int} {a b : List Int} {dn : List Bool} (h : Rl w c src a b dn) (hc : Cl w c) {x : Int} (h0 : 0 ≤ x) (h1 : x < c.length) (h2 : 0 ≤ rd a x) : DL a b x = some (rd a x,rd b x) ∧ rd a x ≤ 256 ∧ 0 ≤ rd b x ∧ rd b x ≤ 256:=by
  have e:=DL_of (b:=b) h0 (by rw [h.la];exact h1) h2;have:=(h.inv.walk x _ e).2;have hn:=hc.n256;rw [Us_length] at this
  simp only at this
  have h3 : (0 : Int) ≤ if DN dn x = true then 1 else 0:=by split <;> omega
  exact ⟨e,by omega,this.2.1,by omega⟩
/-- The least of the open ones so far. -/
def Best (a b : List Int) (dn : List Bool) (best : Int) (i : Nat) : Prop:=
  (best = -1 ∧ ∀ j : Nat,j < i → ¬ (0 ≤ rd a (j : Int) ∧ rdOf false dn (j : Int) = false)) ∨
  (0 ≤ best ∧ best < i ∧ 0 ≤ rd a best ∧ rdOf false dn best = false ∧ ∀ j : Nat,j < i → 0 ≤ rd a (j : Int) → rdOf false dn (j : Int) = false → wt (rd a best,rd b best) ≤ wt (rd a (j : Int),rd b (j : Int)))
theorem Best.skip {a b : List Int} {dn : List Bool} {best : Int} {i : Nat} (h : Best a b dn best i) (hs : ¬ (0 ≤ rd a (i : Int) ∧ rdOf false dn (i : Int) = false)) : Best a b dn best (i + 1):=by
  rcases h with ⟨e,h⟩ | ⟨e1,e2,e3,e4,h⟩
  · refine .inl ⟨e,fun j hj => ?_⟩
    by_cases hji : j = i
    · subst hji;exact hs
    · exact h j (by omega)
  · refine .inr ⟨e1,by omega,e3,e4,fun j hj g1 g2 => ?_⟩
    by_cases hji : j = i
    · subst hji;exact absurd ⟨g1,g2⟩ hs
    · exact h j (by omega) g1 g2
theorem l2_run {src : Int} {a b : List Int} {dn : List Bool} (h : Rl w c src a b dn) (hc : Cl w c) (d : Nat) : ∀ (i : Nat) (best : Int),i + d = c.length → Best a b dn best i →
    ∃ best',Best a b dn best' c.length ∧ ∀ r,Ev (fun k => spec_l18From.l2 k a b dn best' (c.length : Int) (c.length : Int) w c) r → Ev (fun k => spec_l18From.l2 k a b dn best (c.length : Int) (i : Int) w c) r:=by
  induction d with
  | zero =>
    intro i best hi hb;(have e : i = c.length:=by omega);subst e;exact ⟨best,hb,fun r hr => hr⟩
  | succ d ih =>
    intro i best hi hb;have hn:=hc.n256;have la:=h.la;have lb:=h.lb;have ld:=h.ld;have hw : wrap64 ((i : Int) + 1) = ((i + 1 : Nat) : Int):=succ_w (by omega);by_cases c1 : 0 ≤ rd a (i : Int)
    · cases c2 : rdOf false dn (i : Int) with
      | true =>
        obtain ⟨best',h1,h2⟩:=ih (i + 1) best (by omega) (hb.skip (fun z => by rw [c2] at z;exact absurd z.2 (by decide)));refine ⟨best',h1,fun r hr => Ev.succ ?_⟩;simp only [spec_l18From.l2,hw];exact Ev.pos (by omega) (Ev.pos (by omega) (Ev.pos (by omega) (Ev.pos c1 (Ev.pos (by omega) (Ev.pos c2 (h2 r hr))))))
      | false =>
        have hbi:=h.bd hc (x:=(i : Int)) (by omega) (by omega) c1
        rcases hb with ⟨e,hb⟩ | ⟨e1,e2,e3,e4,hb⟩
        · obtain ⟨best',h1,h2⟩:=ih (i + 1) i (by omega) (.inr ⟨by omega,by omega,c1,c2,fun j hj g1 g2 => by
            by_cases hji : j = i
            · subst hji;exact Int.le_refl _
            · exact absurd ⟨g1,g2⟩ (hb j (by omega))⟩)
          refine ⟨best',h1,fun r hr => Ev.succ ?_⟩;simp only [spec_l18From.l2,hw];exact Ev.pos (by omega) (Ev.pos (by omega) (Ev.pos (by omega) (Ev.pos c1 (Ev.pos (by omega) (Ev.neg (by rw [c2];decide) (Ev.pos (by omega) (h2 r hr)))))))
        · have hbb:=h.bd hc (x:=best) e1 (by omega) e3
          have hcmp:=cmp_spec (a:=rd a (i : Int) - rd a best) (b:=rd b (i : Int) - rd b best) (by omega) (by omega);(have hwt : wt (rd a (i : Int) - rd a best,rd b (i : Int) - rd b best) = wt (rd a (i : Int),rd b (i : Int)) - wt (rd a best,rd b best):=by simp only [wt];omega);by_cases c3 : wt (rd a (i : Int),rd b (i : Int)) < wt (rd a best,rd b best)
          · obtain ⟨best',h1,h2⟩:=ih (i + 1) i (by omega) (.inr ⟨by omega,by omega,c1,c2,fun j hj g1 g2 => by
              by_cases hji : j = i
              · subst hji;exact Int.le_refl _
              · have:=hb j (by omega) g1 g2
                omega⟩)
            refine ⟨best',h1,fun r hr => Ev.succ ?_⟩;simp only [spec_l18From.l2,hw,wrap64_id (x:=rd a (i : Int) - rd a best) (by omega) (by omega),wrap64_id (x:=rd b (i : Int) - rd b best) (by omega) (by omega)];exact Ev.pos (by omega) (Ev.pos (by omega) (Ev.pos (by omega) (Ev.pos c1 (Ev.pos (by omega) (Ev.neg (by rw [c2];decide) (Ev.neg (by omega) (Ev.pos e1 (Ev.pos (by omega) (Ev.pos (by omega) (Ev.pos (by omega) (Ev.bnd hcmp (Ev.pos (sgn_lt.2 (by omega)) (h2 r hr)))))))))))))
          · obtain ⟨best',h1,h2⟩:=ih (i + 1) best (by omega) (.inr ⟨e1,by omega,e3,e4,fun j hj g1 g2 => by
              by_cases hji : j = i
              · subst hji;omega
              · exact hb j (by omega) g1 g2⟩)
            refine ⟨best',h1,fun r hr => Ev.succ ?_⟩;simp only [spec_l18From.l2,hw,wrap64_id (x:=rd a (i : Int) - rd a best) (by omega) (by omega),wrap64_id (x:=rd b (i : Int) - rd b best) (by omega) (by omega)];exact Ev.pos (by omega) (Ev.pos (by omega) (Ev.pos (by omega) (Ev.pos c1 (Ev.pos (by omega) (Ev.neg (by rw [c2];decide) (Ev.neg (by omega) (Ev.pos e1 (Ev.pos (by omega) (Ev.pos (by omega) (Ev.pos (by omega) (Ev.bnd hcmp (Ev.neg (fun z => by have:=sgn_lt.1 z;omega) (h2 r hr)))))))))))))
    · obtain ⟨best',h1,h2⟩:=ih (i + 1) best (by omega) (hb.skip (fun z => c1 z.1))
      refine ⟨best',h1,fun r hr => Ev.succ ?_⟩;simp only [spec_l18From.l2,hw];exact Ev.pos (by omega) (Ev.pos (by omega) (Ev.pos (by omega) (Ev.neg c1 (h2 r hr))))
/-- In the round of 'best': its cost, and what is done costs no more. -/
structure Mid (c : List Int) (p : Int × Int) (best : Int) (a b : List Int) (dn : List Bool) : Prop where
  la : a.length = c.length
  lb : b.length = c.length
  ld : dn.length = c.length
  cur : DL a b best = some p
  p0 : 0 ≤ p.1 ∧ p.1 ≤ 300 ∧ 0 ≤ p.2 ∧ p.2 ≤ 300
  all : ∀ x o,DL a b x = some o → 0 ≤ o.1 ∧ o.1 ≤ 301 ∧ 0 ≤ o.2 ∧ o.2 ≤ 301
  shut : ∀ x,DN dn x = true → ∃ o,DL a b x = some o ∧ wt o ≤ wt p
theorem rel_cons (p : Int × Int) (D : Int → Option (Int × Int)) (x : Int × Int × Int) (l : List (Int × Int × Int)) : rel p D (x :: l) = rel p (rel1 p D x) l:=rfl
theorem l3_run {p : Int × Int} {best : Int} {dn : List Bool} (hc : Cl w c) (hbf : 0 ≤ best ∧ best < c.length) (hbd : DN dn best = true) (l : List Int) (hl : l.length ≤ 9) (hls : ∀ n ∈ l,0 ≤ n ∧ n < c.length) (d : Nat) : ∀ (j : Nat) (a b : List Int),j + d = l.length → Mid c p best a b dn →
    ∃ a' b',a'.length = c.length ∧ b'.length = c.length ∧ DL a' b' = rel p (DL a b) ((l.drop j).filterMap (st1 w c best)) ∧ ∀ r,Ev (fun k => spec_l18From.l1 k a' b' dn w c) r → Ev (fun k => spec_l18From.l3 k a b dn best l (l.length : Int) (j : Int) w c) r:=by
  induction d with
  | zero =>
    intro j a b hj hm;refine ⟨a,b,hm.la,hm.lb,by rw [List.drop_eq_nil_of_le (by omega)];rfl,fun r hr => Ev.succ ?_⟩;simp only [spec_l18From.l3];exact Ev.neg (by omega) hr
  | succ d ih =>
    intro j a b hj hm;have la:=hm.la;have lb:=hm.lb;have ld:=hm.ld;have hn:=hc.n256;have hw : wrap64 ((j : Int) + 1) = ((j + 1 : Nat) : Int):=succ_w (by omega)
    have hdr : l.drop j = rd l (j : Int) :: l.drop (j + 1):=by
      rw [List.drop_eq_getElem_cons (by omega)]
      congr 1
      unfold rd
      simp [List.getD_eq_getElem?_getD,List.getElem?_eq_getElem (show j < l.length by omega)]
    have hm2:=hls (rd l (j : Int)) (by unfold rd;exact getD_mem l j 0 (by omega));have hstep:=step_spec hc best (rd l (j : Int));rw [hdr];obtain ⟨n,hrd⟩ : ∃ n,rd l (j : Int) = n:=⟨_,rfl⟩;rw [hrd] at hm2 hstep ⊢
    -- the way into the round, past the step
    have enter : ∀ (x : Bool) r,(Stp w c best n = 0 → x = true) → (Stp w c best n ≠ 0 → x = DN dn n) → Ev (fun k => spec_l18From.j4 k a b dn best n (Stp w c best n) l (l.length : Int) (j : Int) x w c) r → Ev (fun k => spec_l18From.l3 k a b dn best l (l.length : Int) (j : Int) w c) r:=by
      intro x r hx1 hx2 hr;refine Ev.succ ?_;simp only [spec_l18From.l3,hrd];refine Ev.pos (by omega) (Ev.pos (by omega) (Ev.pos (by omega) (Ev.bnd hstep (Ev.ite (fun e => ?_) (fun e => Ev.pos hm2.1 (Ev.pos (by omega) ?_))))))
      · rw [hx1 e] at hr;exact hr
      · rw [hx2 e] at hr
        unfold DN at hr;rw [if_pos hm2.1] at hr;exact hr
    have jt : ∀ r,Ev (fun k => spec_l18From.l3 k a b dn best l (l.length : Int) ((j + 1 : Nat) : Int) w c) r → Ev (fun k => spec_l18From.j4 k a b dn best n (Stp w c best n) l (l.length : Int) (j : Int) true w c) r:=by
      intro r hr;refine Ev.succ ?_;simp only [spec_l18From.j4,if_true,hw];exact hr
    by_cases e0 : Stp w c best n = 0
    · obtain ⟨a',b',g1,g2,g3,g4⟩:=ih (j + 1) a b (by omega) hm
      (have e1 : st1 w c best n = none:=by unfold st1;rw [if_neg (by omega),if_neg (by omega)]);refine ⟨a',b',g1,g2,?_,fun r hr => enter true r (fun _ => rfl) (fun x => absurd e0 x) (jt r (g4 r hr))⟩;rw [g3,List.filterMap_cons_none e1]
    · obtain ⟨f1,f2,_,f4⟩:=Stp_facts e0
      obtain ⟨q,hq,hst,hsq⟩ : ∃ q : Int × Int,((Stp w c best n = 1 ∧ q = (1,0)) ∨ (Stp w c best n = 2 ∧ q = (0,1))) ∧ st1 w c best n = some (n,q.1,q.2) ∧ 0 < wt q:=by
        rcases Stp_or w c best n with e | e | e
        · exact absurd e e0
        · exact ⟨(1,0),.inl ⟨e,rfl⟩,by unfold st1;rw [if_pos e],by decide⟩
        · exact ⟨(0,1),.inr ⟨e,rfl⟩,by unfold st1;rw [if_neg (by omega),if_pos e],by decide⟩
      have hq01 : 0 ≤ q.1 ∧ q.1 ≤ 1 ∧ 0 ≤ q.2 ∧ q.2 ≤ 1:=by rcases hq with ⟨_,e⟩ | ⟨_,e⟩ <;> subst e <;> simp
      rw [List.filterMap_cons_some hst,rel_cons]
      cases hdn : DN dn n with
      | true =>
        obtain ⟨o,ho,hle⟩:=hm.shut n hdn;obtain ⟨a',b',g1,g2,g3,g4⟩:=ih (j + 1) a b (by omega) hm;refine ⟨a',b',g1,g2,?_,fun r hr => enter true r (fun _ => rfl) (fun _ => hdn.symm) (jt r (g4 r hr))⟩
        have e1 : rel1 p (DL a b) (n,q.1,q.2) = DL a b:=by
          unfold rel1;simp only [ho];rw [if_neg];have:=Dij.wt_add p q
          omega
        rw [g3,e1]
      | false =>
        obtain ⟨_,hb1,hb2,hb3⟩:=DL_some hm.cur;(have hne : best ≠ n:=fun e => by rw [← e,hbd] at hdn;cases hdn);(have hp1 : p.1 = rd a best:=by rw [hb3]);(have hp2 : p.2 = rd b best:=by rw [hb3]);have hp0:=hm.p0
        have hmid : Mid c p best (a.set n.toNat (p.1 + q.1)) (b.set n.toNat (p.2 + q.2)) dn:=by
          (have key:=fun y => DL_set (a:=a) (b:=b) (n:=n) (by omega) hm2.1 (by omega) (u:=p.1 + q.1) (v:=p.2 + q.2) (by omega) y);refine ⟨by simpa using la,by simpa using lb,ld,?_,hp0,fun x o ho => ?_,fun x hx => ?_⟩
          · rw [key,if_neg hne];exact hm.cur
          · rw [key] at ho
            split at ho
            · cases ho;simp only;omega
            · exact hm.all x o ho
          · rw [key,if_neg (fun e => by rw [e,hdn] at hx;cases hx)]
            exact hm.shut x hx
        have hD : DL (a.set n.toNat (p.1 + q.1)) (b.set n.toNat (p.2 + q.2)) = fun y => if y = n then some (p.1 + q.1,p.2 + q.2) else DL a b y:=
          funext fun y => DL_set (by omega) hm2.1 (by omega) (by omega) y
        obtain ⟨a',b',g1,g2,g3,g4⟩:=ih (j + 1) _ _ (by omega) hmid;rw [hD] at g3;by_cases c1 : rd a n < 0
        · have e1 : rel1 p (DL a b) (n,q.1,q.2) = fun y => if y = n then some (p.1 + q.1,p.2 + q.2) else DL a b y:=by
            (have : DL a b n = none:=by unfold DL;rw [if_neg (fun z => by omega)]);unfold rel1;simp only [this]
          refine ⟨a',b',g1,g2,by rw [g3,e1],fun r hr => enter false r (fun x => absurd x e0) (fun _ => hdn.symm) (Ev.succ ?_)⟩;simp only [spec_l18From.j4,Bool.false_eq_true,if_false,hw,← hp1,← hp2];have:=g4 r hr;refine Ev.pos hbf.1 (Ev.pos hb1 (Ev.pos (by omega) ?_))
          rcases hq with ⟨e,e2⟩ | ⟨e,e2⟩
          · subst e2
            rw [wrap64_id (x:=p.1 + 1) (by omega) (by omega)];refine Ev.pos e (Ev.pos hm2.1 (Ev.pos (by omega) (Ev.pos c1 (Ev.pos (by omega) ?_))))
            simpa using this
          · subst e2
            rw [wrap64_id (x:=p.2 + 1) (by omega) (by omega)];refine Ev.neg (by omega) (Ev.pos hm2.1 (Ev.pos (by omega) (Ev.pos c1 (Ev.pos (by omega) ?_))))
            simpa using this
        · have ho:=DL_of (b:=b) hm2.1 (by omega) (show 0 ≤ rd a n by omega)
          have hob:=hm.all n _ ho
          simp only at hob
          (have hwt : wt (p.1 + q.1 - rd a n,p.2 + q.2 - rd b n) = wt (p.1 + q.1,p.2 + q.2) - wt (rd a n,rd b n):=by simp only [wt];omega);have hcmp:=cmp_spec (a:=p.1 + q.1 - rd a n) (b:=p.2 + q.2 - rd b n) (by omega) (by omega)
          have e1 : rel1 p (DL a b) (n,q.1,q.2) = if wt (p.1 + q.1,p.2 + q.2) < wt (rd a n,rd b n) then (fun y => if y = n then some (p.1 + q.1,p.2 + q.2) else DL a b y) else DL a b:=by
            unfold rel1;simp only [ho]
          by_cases c2 : wt (p.1 + q.1,p.2 + q.2) < wt (rd a n,rd b n)
          · rw [if_pos c2] at e1
            refine ⟨a',b',g1,g2,by rw [g3,e1],fun r hr => enter false r (fun x => absurd x e0) (fun _ => hdn.symm) (Ev.succ ?_)⟩;simp only [spec_l18From.j4,Bool.false_eq_true,if_false,hw,← hp1,← hp2];have:=g4 r hr;refine Ev.pos hbf.1 (Ev.pos hb1 (Ev.pos (by omega) ?_))
            rcases hq with ⟨e,e2⟩ | ⟨e,e2⟩
            · subst e2
              simp only [Int.add_zero] at hcmp hwt this c2;rw [wrap64_id (x:=p.1 + 1) (by omega) (by omega),wrap64_id (x:=p.1 + 1 - rd a n) (by omega) (by omega),wrap64_id (x:=p.2 - rd b n) (by omega) (by omega)];exact Ev.pos e (Ev.pos hm2.1 (Ev.pos (by omega) (Ev.neg c1 (Ev.pos (by omega) (Ev.bnd hcmp (Ev.pos (sgn_lt.2 (by omega)) this))))))
            · subst e2
              simp only [Int.add_zero] at hcmp hwt this c2;rw [wrap64_id (x:=p.2 + 1) (by omega) (by omega),wrap64_id (x:=p.1 - rd a n) (by omega) (by omega),wrap64_id (x:=p.2 + 1 - rd b n) (by omega) (by omega)];exact Ev.neg (by omega) (Ev.pos hm2.1 (Ev.pos (by omega) (Ev.neg c1 (Ev.pos (by omega) (Ev.bnd hcmp (Ev.pos (sgn_lt.2 (by omega)) this))))))
          · rw [if_neg c2] at e1
            obtain ⟨a',b',g1,g2,g3,g4⟩:=ih (j + 1) a b (by omega) hm;refine ⟨a',b',g1,g2,by rw [g3,e1],fun r hr => enter false r (fun x => absurd x e0) (fun _ => hdn.symm) (Ev.succ ?_)⟩;simp only [spec_l18From.j4,Bool.false_eq_true,if_false,hw,← hp1,← hp2];have:=g4 r hr;refine Ev.pos hbf.1 (Ev.pos hb1 (Ev.pos (by omega) ?_))
            rcases hq with ⟨e,e2⟩ | ⟨e,e2⟩
            · subst e2
              simp only [Int.add_zero] at hcmp hwt c2;rw [wrap64_id (x:=p.1 + 1) (by omega) (by omega),wrap64_id (x:=p.1 + 1 - rd a n) (by omega) (by omega),wrap64_id (x:=p.2 - rd b n) (by omega) (by omega)];exact Ev.pos e (Ev.pos hm2.1 (Ev.pos (by omega) (Ev.neg c1 (Ev.pos (by omega) (Ev.bnd hcmp (Ev.neg (fun z => by have:=sgn_lt.1 z;omega) this))))))
            · subst e2
              simp only [Int.add_zero] at hcmp hwt c2;rw [wrap64_id (x:=p.2 + 1) (by omega) (by omega),wrap64_id (x:=p.1 - rd a n) (by omega) (by omega),wrap64_id (x:=p.2 + 1 - rd b n) (by omega) (by omega)];exact Ev.neg (by omega) (Ev.pos hm2.1 (Ev.pos (by omega) (Ev.neg c1 (Ev.pos (by omega) (Ev.bnd hcmp (Ev.neg (fun z => by have:=sgn_lt.1 z;omega) this))))))
end
end Go.Proofs.Ytjcmlggdaajicaa.Pure
/-
Own text: the reference's shortest way,by the table of least costs.
-/
namespace Go.Proofs.Ytjcmlggdaajicaa.Pure
open Go.RowKit Go.Proofs.YtjcmlggdaajicaaW.PrintWords Go.Proofs.YtjcmlggdaajicaaW.PrintLast Go.Proofs.Ytjcmlggdaajicaa.Pr Go.Proofs.Ytjcmlggdaajicaa.EvKit
open Classical
open Dij (wt sgn rel rel1 Inv cnt nxt trail)
set_option linter.unusedVariables false

section
variable {w : Int} {c : List Int}
/-- The rounds come to an end. -/
theorem l1_run {src : Int} (hc : Cl w c) (m : Nat) : ∀ (a b : List Int) (dn : List Bool),cnt (DN dn) (Us c.length) ≤ m → Rl w c src a b dn →
    ∃ a' b',Ev (fun k => spec_l18From.l1 k a b dn w c) (a',b') ∧ a'.length = c.length ∧ b'.length = c.length ∧ Dij.End (NB w c) src (Us c.length) (DL a' b'):=by
  induction m with
  | zero =>
    intro a b dn hm h;obtain ⟨best,h1,h2⟩:=l2_run h hc c.length 0 (-1) (by omega) (.inl ⟨rfl,fun j hj => by omega⟩);have la:=h.la
    rcases h1 with ⟨e,h1⟩ | ⟨e1,e2,e3,e4,h1⟩
    · refine ⟨a,b,Ev.succ ?_,la,h.lb,h.inv.end fun x p hx => ?_⟩
      · simp only [spec_l18From.l1,la]
        refine h2 _ (Ev.succ ?_);simp only [spec_l18From.l2];exact Ev.neg (by omega) (Ev.pos (by omega) (Ev.some rfl))
      · obtain ⟨g0,g1,g2,g3⟩:=DL_some hx
        have:=h1 x.toNat (by omega);rw [Int.toNat_of_nonneg g0] at this;unfold DN;rw [if_pos g0]
        cases hd : rdOf false dn x with
        | true => rfl
        | false => exact absurd ⟨g2,hd⟩ this
    · exfalso
      have hu : best ∈ Us c.length:=mem_Us.2 ⟨e1,e2⟩;(have hd : DN dn best = false:=by unfold DN;rw [if_pos e1];exact e4);have:=Dij.cnt_mark (done':=fun y => if y = best then true else DN dn y) hu hd (fun y => rfl)
      omega
  | succ m ih =>
    intro a b dn hm h;obtain ⟨best,h1,h2⟩:=l2_run h hc c.length 0 (-1) (by omega) (.inl ⟨rfl,fun j hj => by omega⟩);have la:=h.la;have lb:=h.lb;have ld:=h.ld;have hn:=hc.n256
    rcases h1 with ⟨e,h1⟩ | ⟨e1,e2,e3,e4,h1⟩
    · refine ⟨a,b,Ev.succ ?_,la,h.lb,h.inv.end fun x p hx => ?_⟩
      · simp only [spec_l18From.l1,la]
        refine h2 _ (Ev.succ ?_);simp only [spec_l18From.l2];exact Ev.neg (by omega) (Ev.pos (by omega) (Ev.some rfl))
      · obtain ⟨g0,g1,g2,g3⟩:=DL_some hx
        have:=h1 x.toNat (by omega);rw [Int.toNat_of_nonneg g0] at this;unfold DN;rw [if_pos g0]
        cases hd : rdOf false dn x with
        | true => rfl
        | false => exact absurd ⟨g2,hd⟩ this
    · have hu : best ∈ Us c.length:=mem_Us.2 ⟨e1,e2⟩
      (have hd : DN dn best = false:=by unfold DN;rw [if_pos e1];exact e4);have hb:=h.bd hc e1 (by omega) e3
      have hmin : ∀ x o,DL a b x = some o → DN dn x = false → wt (rd a best,rd b best) ≤ wt o:=by
        intro x o hx hdx;obtain ⟨g0,g1,g2,g3⟩:=DL_some hx;have:=h1 x.toNat (by omega);rw [Int.toNat_of_nonneg g0] at this;unfold DN at hdx;rw [if_pos g0] at hdx;rw [g3];exact this g2 hdx
      have hnbs : ∀ n q,(n,q) ∈ NB w c best → n ∈ Us c.length ∧ n ≠ best ∧ (q = (1,0) ∨ q = (0,1)):=by
        intro n q hq;obtain ⟨f1,f2,f3⟩:=NB_free hq;exact ⟨mem_Us.2 ⟨f2.1,f2.2.1⟩,f3,NB_q hq⟩
      (have hdone : ∀ y,DN (dn.set best.toNat true) y = if y = best then true else DN dn y:=fun y => DN_set e1 (by omega) y);have hround:=h.inv.round hb.1 hd hmin hnbs (DN (dn.set best.toNat true)) hdone;have hcnt:=Dij.cnt_mark hu hd hdone;have har:=around_spec hc e1 e2
      -- a free cell, or the source alone: where there is no step, nothing is told
      have hmid : Mid c (rd a best,rd b best) best a b (dn.set best.toNat true):=by
        refine ⟨la,lb,by simpa using ld,hb.1,by simp only;omega,fun x o ho => ?_,fun x hx => ?_⟩
        · obtain ⟨g0,g1,g2,g3⟩:=DL_some ho
          have:=h.bd hc g0 (by omega) g2;rw [g3]
          simp only
          omega
        · rw [hdone] at hx
          split at hx
          · rename_i e
            subst e;exact ⟨_,hb.1,Int.le_refl _⟩
          · obtain ⟨o,ho⟩:=h.inv.has x hx
            exact ⟨o,ho,h.inv.low x o best _ hx ho hd hb.1⟩
      (have hbd : DN (dn.set best.toNat true) best = true:=by rw [hdone,if_pos rfl])
      obtain ⟨a',b',g1,g2,g3,g4⟩:=l3_run hc ⟨e1,by omega⟩ hbd (AR w c best) (NB_length w c best).1 (fun n hn => by
        have:=(mem_AR hc e1 (by omega)).1 hn
        exact ⟨this.1,this.2.1⟩) (AR w c best).length 0 a b (by omega) hmid
      rw [List.drop_zero,show (AR w c best).filterMap (st1 w c best) = NB w c best from rfl] at g3;rw [← g3] at hround;obtain ⟨a2,b2,i1,i2,i3,i4⟩:=ih a' b' (dn.set best.toNat true) (by omega) ⟨g1,g2,by simpa using ld,hround⟩;refine ⟨a2,b2,Ev.succ ?_,i2,i3,i4⟩;simp only [spec_l18From.l1,la];refine h2 _ (Ev.succ ?_);simp only [spec_l18From.l2];exact Ev.neg (by omega) (Ev.neg (by omega) (Ev.pos e1 (Ev.pos (by omega) (Ev.bnd har (g4 _ i1)))))
end
end Go.Proofs.Ytjcmlggdaajicaa.Pure
/-
Own text: the reference's shortest way is the way that the table of least costs tells.
-/
namespace Go.Proofs.Ytjcmlggdaajicaa.Pure
open Go.RowKit Go.Proofs.YtjcmlggdaajicaaW.PrintWords Go.Proofs.YtjcmlggdaajicaaW.PrintLast Go.Proofs.Ytjcmlggdaajicaa.Pr Go.Proofs.Ytjcmlggdaajicaa.EvKit
open Classical
open Dij (wt sgn rel rel1 Inv cnt nxt trail)
set_option linter.unusedVariables false

section
variable {w : Int} {c : List Int}
theorem fill_run {src : Int} (n : Nat) (hn : n ≤ 300) (dn : List Bool) (d : Nat) : ∀ (i : Nat) (a b : List Int),i + d = n → a.length = n → b.length = n → (∀ j : Nat,j < i → rd a (j : Int) = -1) →
    ∃ a' b',a'.length = n ∧ b'.length = n ∧ (∀ j : Nat,j < n → rd a' (j : Int) = -1) ∧ ∀ r,Ev (fun k => spec_l18From.l0 k src a' b' dn (n : Int) (n : Int) w c) r → Ev (fun k => spec_l18From.l0 k src a b dn (n : Int) (i : Int) w c) r:=by
  induction d with
  | zero =>
    intro i a b hi la lb h;(have e : i = n:=by omega);subst e;exact ⟨a,b,la,lb,h,fun r hr => hr⟩
  | succ d ih =>
    intro i a b hi la lb h
    obtain ⟨a',b',g1,g2,g3,g4⟩:=ih (i + 1) (a.set i (-1)) (b.set i (-1)) (by omega) (by simpa using la) (by simpa using lb) (fun j hj => by
      have:=rd_set a (n:=(i : Int)) (y:=(j : Int)) (-1) (by omega) (by omega) (by omega);rw [Int.toNat_natCast] at this;rw [this]
      split
      (rfl)
      · exact h j (by omega))
    refine ⟨a',b',g1,g2,g3,fun r hr => Ev.succ ?_⟩;simp only [spec_l18From.l0,Int.toNat_natCast,succ_w (show i < 35184372088833 by omega)];exact Ev.pos (by omega) (Ev.pos (by omega) (Ev.pos (by omega) (Ev.pos (by omega) (g4 r hr))))
theorem from_ev (hc : Cl w c) {src : Int} (h0 : 0 ≤ src) (h1 : src < c.length) : ∃ a b,Ev (fun k => spec_l18From.f k w c src) (a,b) ∧ a.length = c.length ∧ b.length = c.length ∧ Dij.End (NB w c) src (Us c.length) (DL a b):=by
  have hn:=hc.n256;obtain ⟨a,b,g1,g2,g3,g4⟩:=fill_run (w:=w) (c:=c) (src:=src) c.length (by omega) (List.replicate c.length false) c.length 0 (List.replicate c.length 0) (List.replicate c.length 0) (by omega) (by simp) (by simp) (fun j hj => by omega)
  have hdl : ∀ y,DL (a.set src.toNat 0) (b.set src.toNat 0) y = if y = src then some (0,0) else none:=by
    intro y;rw [DL_set (by omega) h0 (by omega) (Int.le_refl _)]
    split
    (rfl)
    · unfold DL
      by_cases hy : 0 ≤ y ∧ y < a.length
      · have:=g3 y.toNat (by omega)
        rw [Int.toNat_of_nonneg hy.1] at this;rw [if_neg (fun z => by omega)]
      · rw [if_neg (fun z => hy ⟨z.1,z.2.1⟩)]
  have hdn : ∀ y,DN (List.replicate c.length false) y = false:=by
    intro y;unfold DN rdOf
    split
    · rw [List.getD_eq_getElem?_getD,List.getElem?_replicate]
      split <;> rfl
    (rfl)
  have hrl : Rl w c src (a.set src.toNat 0) (b.set src.toNat 0) (List.replicate c.length false):=⟨by simpa using g1,by simpa using g2,by simp,Dij.inv0 (mem_Us.2 ⟨h0,h1⟩) _ hdl _ hdn⟩;obtain ⟨a',b',i1,i2,i3,i4⟩:=l1_run hc _ _ _ _ (Nat.le_refl _) hrl;refine ⟨a',b',?_,i2,i3,i4⟩;(have e1 : (0 : Int) ≤ (c.length : Int):=by omega);(have e2 : c.length ≤ 35184372088832:=by omega);(have e3 : c.length ≤ 281474976710656:=by omega);simp only [spec_l18From.f,Int.toNat_natCast,if_pos e1,if_pos e2,if_pos e3,Option.bind_some,List.length_replicate];refine g4 _ (Ev.succ ?_);simp only [spec_l18From.l0];exact Ev.neg (by omega) (Ev.pos h0 (Ev.pos (by omega) (Ev.pos (by omega) i1)))
/-- Whether a way back goes over a neighbour. -/
def fits (D : Int → Option (Int × Int)) (at_ : Int) (x : Int × Int × Int) : Bool:=match D x.1,D at_ with
  | some o,some p => decide (o.1 + x.2.1 = p.1 ∧ o.2 + x.2.2 = p.2)
  | _,_ => false
theorem nxt_fits (nb : Int → List (Int × Int × Int)) (D : Int → Option (Int × Int)) (at_ : Int) : nxt nb D at_ = (((nb at_).find? (fits D at_)).map fun x => x.1).getD at_:=rfl
theorem back_l1 (hc : Cl w c) {to_ : Int} {a b : List Int} (la : a.length = c.length) (lb : b.length = c.length) (hE : Dij.End (NB w c) to_ (Us c.length) (DL a b)) {at_ : Int} (hf : Fr c at_) {p : Int × Int} (hp : DL a b at_ = some p)
    (acc : List Int) (hacc : acc.length ≤ 1000) (s t : Int) (r : List Int × Int × Int × Bool) (m : Int × Int × Int) (hr : Ev (fun k => spec_ShortestWay.l0 k to_ a b m.1 w c (acc ++ [m.1]) s t) r) (d : Nat) : ∀ (j : Nat),j + d = (AR w c at_).length →
    (((AR w c at_).drop j).filterMap (st1 w c at_)).find? (fits (DL a b) at_) = some m → Ev (fun k => spec_ShortestWay.l1 k to_ a b at_ (AR w c at_) ((AR w c at_).length : Int) (j : Int) w c acc s t) r:=by
  induction d with
  | zero =>
    intro j hj hm;rw [List.drop_eq_nil_of_le (by omega)] at hm
    cases hm
  | succ d ih =>
    intro j hj hm;(have hj1 : (j : Int) < ((AR w c at_).length : Int):=by clear hm hr hE;omega);have hj0 : (0 : Int) ≤ (j : Int):=Int.natCast_nonneg j;have hn:=hc.n256;have hl9:=(NB_length w c at_).1
    have hdr : (AR w c at_).drop j = rd (AR w c at_) (j : Int) :: (AR w c at_).drop (j + 1):=by
      rw [List.drop_eq_getElem_cons (by omega)]
      congr 1
      unfold rd
      simp [List.getD_eq_getElem?_getD,List.getElem?_eq_getElem (show j < (AR w c at_).length by omega)]
    obtain ⟨n,hrd⟩ : ∃ n,rd (AR w c at_) (j : Int) = n:=⟨_,rfl⟩;(have hnm : n ∈ AR w c at_:=by rw [← hrd];unfold rd;exact getD_mem _ j 0 (by omega));have hstep:=step_spec hc at_ n;obtain ⟨g0,g1,_⟩:=(mem_AR hc hf.1 hf.2.1).1 hnm;rw [hdr,hrd] at hm;have hw : wrap64 ((j : Int) + 1) = ((j + 1 : Nat) : Int):=succ_w (by omega);refine Ev.succ ?_;simp only [spec_ShortestWay.l1,hrd,hw];refine Ev.pos hj1 (Ev.pos hj0 (Ev.pos hj1 (Ev.bnd hstep ?_)));obtain ⟨k0,k1,k2,k3⟩:=DL_some hp;have hpw:=(hE.walk _ _ hp).2;rw [Us_length] at hpw
    rcases Stp_or w c at_ n with e | e | e
    · have e1 : st1 w c at_ n = none:=by unfold st1;rw [if_neg (by omega),if_neg (by omega)]
      rw [List.filterMap_cons_none e1] at hm;exact Ev.neg (by omega) (Ev.neg (by omega) (ih (j + 1) (by omega) hm))
    · have e1 : st1 w c at_ n = some (n,1,0):=by unfold st1;rw [if_pos e]
      obtain ⟨o,ho,_⟩:=hE.shut at_ p hp n (1,0) ((mem_NB hc hf.1 hf.2.1).2 (.inl ⟨e,rfl⟩));obtain ⟨m0,m1,m2,m3⟩:=DL_some ho;have how:=(hE.walk _ _ ho).2;rw [Us_length] at how;rw [m3] at how;rw [k3] at hpw
      simp only at how hpw
      rw [List.filterMap_cons_some e1,List.find?_cons] at hm
      have hfit : fits (DL a b) at_ (n,1,0) = decide (rd a n + 1 = rd a at_ ∧ rd b n + 0 = rd b at_):=by
        unfold fits;simp only [ho,hp,m3,k3]
      rw [hfit] at hm;have hcmp:=cmp_spec (a:=rd a n + 1 - rd a at_) (b:=rd b n - rd b at_) (by omega) (by omega);rw [wrap64_id (x:=rd a n + 1) (by omega) (by omega),wrap64_id (x:=rd a n + 1 - rd a at_) (by omega) (by omega),wrap64_id (x:=rd b n - rd b at_) (by omega) (by omega)];refine Ev.pos e (Ev.pos g0 (Ev.pos (by omega) (Ev.pos hf.1 (Ev.pos (by omega) (Ev.pos (by omega) (Ev.pos (by omega) (Ev.bnd hcmp (Ev.ite (fun h => ?_) (fun h => Ev.neg (by omega) ?_)))))))))
      · have h2:=Dij.wt_zero (sgn_eq0.1 h) (by omega) (by omega)
        rw [dt_ (⟨by omega,by omega⟩ : rd a n + 1 = rd a at_ ∧ rd b n + 0 = rd b at_)] at hm;simp only [Option.some.injEq] at hm;subst hm;exact Ev.pos (by omega) hr
      · have h2 : ¬ (rd a n + 1 = rd a at_ ∧ rd b n + 0 = rd b at_):=fun z => h (by
          rw [show rd a n + 1 - rd a at_ = 0 by omega,show rd b n - rd b at_ = 0 by omega];rfl)
        rw [df_ h2] at hm;exact ih (j + 1) (by omega) hm
    · have e1 : st1 w c at_ n = some (n,0,1):=by unfold st1;rw [if_neg (by omega),if_pos e]
      obtain ⟨o,ho,_⟩:=hE.shut at_ p hp n (0,1) ((mem_NB hc hf.1 hf.2.1).2 (.inr ⟨e,rfl⟩));obtain ⟨m0,m1,m2,m3⟩:=DL_some ho;have how:=(hE.walk _ _ ho).2;rw [Us_length] at how;rw [m3] at how;rw [k3] at hpw
      simp only at how hpw
      rw [List.filterMap_cons_some e1,List.find?_cons] at hm
      have hfit : fits (DL a b) at_ (n,0,1) = decide (rd a n + 0 = rd a at_ ∧ rd b n + 1 = rd b at_):=by
        unfold fits;simp only [ho,hp,m3,k3]
      rw [hfit] at hm;have hcmp:=cmp_spec (a:=rd a n - rd a at_) (b:=rd b n + 1 - rd b at_) (by omega) (by omega);rw [wrap64_id (x:=rd b n + 1) (by omega) (by omega),wrap64_id (x:=rd a n - rd a at_) (by omega) (by omega),wrap64_id (x:=rd b n + 1 - rd b at_) (by omega) (by omega)];refine Ev.neg (by omega) (Ev.pos e (Ev.pos g0 (Ev.pos (by omega) (Ev.pos hf.1 (Ev.pos (by omega) (Ev.pos (by omega) (Ev.pos (by omega) (Ev.bnd hcmp (Ev.ite (fun h => ?_) (fun h => ?_))))))))))
      · have h2:=Dij.wt_zero (sgn_eq0.1 h) (by omega) (by omega)
        rw [dt_ (⟨by omega,by omega⟩ : rd a n + 0 = rd a at_ ∧ rd b n + 1 = rd b at_)] at hm;simp only [Option.some.injEq] at hm;subst hm;exact Ev.pos (by omega) hr
      · have h2 : ¬ (rd a n + 0 = rd a at_ ∧ rd b n + 1 = rd b at_):=fun z => h (by
          rw [show rd a n - rd a at_ = 0 by omega,show rd b n + 1 - rd b at_ = 0 by omega];rfl)
        rw [df_ h2] at hm;exact ih (j + 1) (by omega) hm
end
end Go.Proofs.Ytjcmlggdaajicaa.Pure
namespace Go.Proofs.Ytjcmlggdaajicaa.Pr
open Go.RowKit Go.Proofs.YtjcmlggdaajicaaW.PrintWords Go.Proofs.YtjcmlggdaajicaaW.PrintLast Go.Proofs.YtjcmlggdaajicaaW.PrintMore
attribute [local go_sem] max2_int min2_int max_two min_two max_three min_three max_four min_four
set_option linter.unusedVariables false
set_option linter.unusedSimpArgs false

def impl_Cells_around.T13 : Bool × List (List Nat × List Nat):=(true,[([],[]),([],[]),([1],[1]),([0,2],[0,2]),([],[]),([],[]),([5],[5]),([4,6,3],[4,6]),([3,7,0,1,2,3],[0,3]),([7,8,0,1,2,3,4,5,6,7,8],[4,7])])
def impl_Cells_around.B13 : List Nat:=[0,0,2,7,0,0,32,127,255,511]
theorem impl_Cells_around.tab13 : rtab .any (opsOf Try.f52 13) = impl_Cells_around.T13:=by kernel_rfl
theorem impl_Cells_around.bits13 : waitsOk impl_Cells_around.T13.2 impl_Cells_around.B13 = true:=by kernel_rfl
set_option maxHeartbeats 8000000 in
set_option maxRecDepth 100000 in
theorem impl_Cells_around.calls (k : Nat) (a0_0 : Int) (j3 : Option Addr) (c0_1 : Nat) (z7 : List Int) (a1 : Int) (r1 : List Int) (r2 : List (S66)) (w : World) (hr0_1 : Kd.C (Kd.int .i64) w j3 z7.length z7) (hc0_1 : z7.length ≤ c0_1) (h : impl_Cells_around.f k a0_0 z7 a1 = some (r1,r2)) :
   Calls Try.prog 52 #[.agg #[.int .i64 a0_0,.slice j3 z7.length c0_1],.int .i64 a1] w fun e w' => ∃ v0_ v1_ : Value,e = .returned (.tuple #[v0_,v1_]) ∧ Kd.R (Kd.int .i64) 3 w' w.heap.size (fun _ => True) v0_ r1 ∧ Kd.R k66 66 w' w.heap.size (fun _ => True) v1_ r2 ∧ Below w.heap.size w w':=by
  have zf8:=Try.underlying27;have zf9:=Try.underlying66;have za5:=ak hr0_1;have za6:=ak hc0_1;clear hr0_1 hc0_1;have HB:=ak (Below.refl w.heap.size w);have H : (impl_Cells_around.l0 k a1 ([] : List Int) ([] : List (S66)) (-1) a0_0 z7) = some (r1,r2):=h;clear h;have H':=ak H;clear H;go_enter Try.func52,Try.ntmps52;go_wp2_with (first | ((with_reducible refine gate_dst (N:=2) rfl ?_);refine box_event ?hg (N:=2) ?hd (cs:=#[.int .i64 a0_0,.slice j3 z7.length c0_1]) (t:=27) ?hr ?_;(case hd => rfl);(case hg => rfl);(case hr => first | (go_simp;done) | (go_simp;rfl));intro z8 hg w3 hbox hb;have z0:=ak (hbox);have zf2 : Aside0 (w.heap.size ≤ z8):=gz_;have zf3 : Aside0 (w.heap.size ≤ z8):=gz_;replace HB:=bq_ hb;clear hb hbox hg))
  go_loopg [6,7,8] k (fun kq v6 v7 v8 w' => ∃ (za7 : List Int) (za8 : List (S66)) (j6 : Int),v8 = .int .i64 j6 ∧ Aside0 (impl_Cells_around.l0 kq a1 za7 za8 j6 a0_0 z7 = some (r1,r2)) ∧ Aside0 (kq ≤ k) ∧ Aside0 (Kd.R (Kd.int .i64) 3 w' w.heap.size (fun _ => True) v6 za7) ∧ Aside0 (Kd.R k66 66 w' w.heap.size (fun _ => True) v7 za8) ∧ Aside0 (w'.heap[z8]? = some (.cells #[.int .i64 a0_0,(.slice j3 z7.length c0_1)] 27 (0,0))) ∧ Aside0 (Below w.heap.size w w'))
  case atStart => exact ⟨(([] : List Int)),(([] : List (S66))),((-1)),es_,H',⟨Nat.le_refl _⟩,⟨by first | exact Kd.R_nil _ _ _ _ _ | exact Kd.N_nil _ _ _ _ _ | exact Kd.V_nil _ _ _ _ _ | exact Kd.Q_nil _ _ _ _ _ | exact Kd.S_nil _ _ _ _ _⟩,⟨by first | exact Kd.R_nil _ _ _ _ _ | exact Kd.N_nil _ _ _ _ _ | exact Kd.V_nil _ _ _ _ _ | exact Kd.Q_nil _ _ _ _ _ | exact Kd.S_nil _ _ _ _ _⟩,⟨bk_ z0.out⟩,⟨hb_⟩⟩
  case round =>
   clear H';obtain ⟨za7,za8,j6,rfl,HA,HK1,z4,z3,z0,HB⟩:=hrel
   cases gk with
   | zero => exact absurd HA.out (by simp [impl_Cells_around.l0])
   | succ k1 =>
    have H:=HA.out;clear HA;simp only [impl_Cells_around.l0] at H;by_cases c4 : j6 ≤ 1
    ·rw [if_pos c4] at H
     have zc6 : decide (j6 ≤ 1) = true:=dt_ c4;clear c4;have H':=ak H;clear H;go_wp2
     go_loopg [6,7,9] k1 (fun kq v6 v7 v9 w' => ∃ (j1 : List Int) (j0 : List (S66)) (j5 : Int),v9 = .int .i64 j5 ∧ Aside0 (impl_Cells_around.l1 kq a1 j1 j0 j6 j5 a0_0 z7 = some (r1,r2)) ∧ Aside0 (kq ≤ k1) ∧ Aside0 (Kd.R (Kd.int .i64) 3 w' w.heap.size (fun _ => True) v6 j1) ∧ Aside0 (Kd.R k66 66 w' w.heap.size (fun _ => True) v7 j0) ∧ Aside0 (w'.heap[z8]? = some (.cells #[.int .i64 a0_0,(.slice j3 z7.length c0_1)] 27 (0,0))) ∧ Aside0 (Below w.heap.size w w'))
     case atStart => exact ⟨(za7),(za8),((-1)),es_,H',⟨Nat.le_refl _⟩,⟨ra_ z4.out⟩,⟨ra_ z3.out⟩,⟨bk_ z0.out⟩,⟨hb_⟩⟩
     case round =>
      clear H';obtain ⟨j1,j0,j5,rfl,HA,HK2,z4,z3,z0,HB⟩:=hrel
      cases gk with
      | zero => exact absurd HA.out (by simp [impl_Cells_around.l1])
      | succ k2 =>
       have H:=HA.out;clear HA;simp only [impl_Cells_around.l1] at H;by_cases c5 : j5 ≤ 1
       ·rw [if_pos c5] at H
        have zc7 : decide (j5 ≤ 1) = true:=dt_ c5;clear c5;replace H:=Option.bind_eq_some_iff.mp H;obtain ⟨j2,A60,H⟩:=H;replace H : (if j2 < 0 then (impl_Cells_around.j2 k2 a1 j1 j0 j6 j5 j2 true a0_0 z7) else (impl_Cells_around.j2 k2 a1 j1 j0 j6 j5 j2 (j2 == a1) a0_0 z7)) = some (r1,r2):=H;have A6:=ak A60;clear A60;have HC7:=ak H;clear H;have ze8:=b20 z0;have ze9:=b21 z0;have zf0:=bf_ z0 0;have zf1:=bf_ z0 1
        go_upto_region 10 with (first | ((with_reducible refine gate_callee (f:=58) rfl ?_);refine goesL_ (some 25) rfl rfl Try.func58 (by kernel_rfl) rfl #[.agg #[.int .i64 a0_0,.slice j3 z7.length c0_1],.int .i64 a1,.int .i64 j5,.int .i64 j6] rfl ls_ ?_;(with_reducible refine (impl_Cells_next.calls a0_0 _ _ z7 a1 j5 j6 j2 _ ?r9 ?m0 A6.out).mono ?_);(case r9 => exact cb_ za5.out);(case m0 => exact za6.out);rintro e w9 ⟨rfl,hb⟩;refine ⟨_,rfl,?_⟩;replace z4:=ak (Kd.R_below (ra_ z4.out) hb);replace z3:=ak (Kd.R_below (ra_ z3.out) hb);replace z0:=bb_ z0 hb;replace HB:=bq_ hb;(try clear hb);(try clear hb2);(try clear hk);(try clear hi)))
        (try simp only [Act.put,aS,aZ,aN])
        go_cut [32] (fun v32 wc => ∃ (kq : Nat) (za0 : Bool),v32 = .bool za0 ∧ Aside0 (impl_Cells_around.j2 kq a1 j1 j0 j6 j5 j2 za0 a0_0 z7 = some (r1,r2)) ∧ Aside0 (kq ≤ k2) ∧ Aside0 (Kd.R (Kd.int .i64) 3 wc w.heap.size (fun _ => True) u6 j1) ∧ Aside0 (Kd.R k66 66 wc w.heap.size (fun _ => True) u7 j0) ∧ Aside0 (wc.heap[z8]? = some (.cells #[.int .i64 a0_0,(.slice j3 z7.length c0_1)] 27 (0,0))) ∧ Aside0 (Below w.heap.size w wc))
        case first =>
         have H:=HC7.out;clear HC7;by_cases c10 : j2 < 0
         ·rw [if_pos c10] at H
          have m1 : decide (j2 < 0) = true:=dt_ c10;clear c10;(first | rw [m1] | (simp only [i64_w,i32_w];rw [m1]) | skip);have H':=ak H;clear H;go_wp2;go_meet
          case rel => exact ⟨_,(true),es_,H',⟨by have:=HK1.out;have:=HK2.out;first | omega | exact Nat.le_refl _⟩,⟨ra_ z4.out⟩,⟨ra_ z3.out⟩,⟨bk_ z0.out⟩,⟨hb_⟩⟩
         ·rw [if_neg c10] at H
          have m1 : decide (j2 < 0) = false:=df_ c10;clear c10;(first | rw [m1] | (simp only [i64_w,i32_w];rw [m1]) | skip);have H':=ak H;clear H;go_wp2;go_meet
          case rel => exact ⟨_,((j2 == a1)),es_,H',⟨by have:=HK1.out;have:=HK2.out;first | omega | exact Nat.le_refl _⟩,⟨ra_ z4.out⟩,⟨ra_ z3.out⟩,⟨bk_ z0.out⟩,⟨hb_⟩⟩
        case rest =>
         clear HC7;obtain ⟨kq,za0,rfl,HA,HJ6,z4,z3,z0,HB⟩:=hcut
         cases kq with
         | zero => exact absurd HA.out (by simp [impl_Cells_around.j2])
         | succ kj6 =>
          have H:=HA.out;clear HA;simp only [impl_Cells_around.j2] at H;by_cases c11 : za0 = true
          ·subst c11
           rw [if_pos rfl] at H;have H':=ak H;clear H;go_wp2;go_roundg kj6
           case measure => have:=HK1.out;have:=HK2.out;have:=HJ6.out;omega
           case rel => exact ⟨(j1),(j0),(wrap64 (j5 + 1)),es_,H',⟨by have:=HK1.out;have:=HK2.out;have:=HJ6.out;omega⟩,⟨ra_ z4.out⟩,⟨ra_ z3.out⟩,⟨bk_ z0.out⟩,⟨hb_⟩⟩
          ·replace c11:=Bool.eq_false_iff.mpr c11
           subst c11;rw [if_neg (show ¬ (false = true) by decide)] at H;replace H:=Option.bind_eq_some_iff.mp H;obtain ⟨⟨z5,z6,zb4⟩,zb5,H⟩:=H;replace H : (if zb4 = true then ((some (([j2] : List Int) : List Int)).bind fun j7 => (if j1.length + j7.length < 17592186044416 then ((some (([(⟨z5,z6⟩ : S66)] : List (S66)) : List (S66))).bind fun j8 => (if j0.length + j8.length < 8796093022208 then (impl_Cells_around.l1 kj6 a1 (j1 ++ j7) (j0 ++ j8) j6 (wrap64 (j5 + 1)) a0_0 z7) else (none))) else (none))) else (impl_Cells_around.l1 kj6 a1 j1 j0 j6 (wrap64 (j5 + 1)) a0_0 z7)) = some (r1,r2):=H;have A12:=ak zb5;clear zb5;by_cases c13 : zb4 = true
           ·subst c13
            rw [if_pos rfl] at H;obtain ⟨j7,m2⟩ : ∃ y_ : List Int,y_ = (([j2] : List Int)):=⟨_,rfl⟩;(replace H : (if j1.length + j7.length < 17592186044416 then ((some (([(⟨z5,z6⟩ : S66)] : List (S66)) : List (S66))).bind fun j8 => (if j0.length + j8.length < 8796093022208 then (impl_Cells_around.l1 kj6 a1 (j1 ++ j7) (j0 ++ j8) j6 (wrap64 (j5 + 1)) a0_0 z7) else (none))) else (none)) = some (r1,r2):=by first|(rw [m2];with_reducible first|exact H|exact bs_ H)|with_reducible exact bs_ H|with_reducible exact H|(rw [m2];exact H)|exact H);have za1:=ak m2;clear m2;by_cases c14 : j1.length + j7.length < 17592186044416
            ·rw [if_pos c14] at H
             have za9:=ak c14;clear c14;obtain ⟨m6,m3⟩ : ∃ y_ : List Int,y_ = (j1 ++ j7):=⟨_,rfl⟩;(replace H : ((some (([(⟨z5,z6⟩ : S66)] : List (S66)) : List (S66))).bind fun j8 => (if j0.length + j8.length < 8796093022208 then (impl_Cells_around.l1 kj6 a1 m6 (j0 ++ j8) j6 (wrap64 (j5 + 1)) a0_0 z7) else (none))) = some (r1,r2):=by first|(rw [m3];with_reducible first|exact H|exact bs_ H)|with_reducible exact bs_ H|with_reducible exact H|(rw [m3];exact H)|exact H);have zb0:=ak m3;clear m3;obtain ⟨j8,m4⟩ : ∃ y_ : List (S66),y_ = (([(⟨z5,z6⟩ : S66)] : List (S66))):=⟨_,rfl⟩;(replace H : (if j0.length + j8.length < 8796093022208 then (impl_Cells_around.l1 kj6 a1 m6 (j0 ++ j8) j6 (wrap64 (j5 + 1)) a0_0 z7) else (none)) = some (r1,r2):=by first|(rw [m4];with_reducible first|exact H|exact bs_ H)|with_reducible exact bs_ H|with_reducible exact H|(rw [m4];exact H)|exact H);have r8:=ak m4;clear m4;by_cases c15 : j0.length + j8.length < 8796093022208
             ·rw [if_pos c15] at H
              have zc1:=ak c15;clear c15;obtain ⟨zb6,m5⟩ : ∃ y_ : List (S66),y_ = (j0 ++ j8):=⟨_,rfl⟩;(replace H : (impl_Cells_around.l1 kj6 a1 m6 zb6 j6 (wrap64 (j5 + 1)) a0_0 z7) = some (r1,r2):=by first|(rw [m5];with_reducible first|exact H|exact bs_ H)|with_reducible exact bs_ H|with_reducible exact H|(rw [m5];exact H)|exact H);have zc2:=ak m5;clear m5;have H':=ak H;clear H;have zd2:=b20 z0;have zd3:=b21 z0;have zd4:=bf_ z0 0;have zd5:=bf_ z0 1;(try go_wp2_with (first | ((with_reducible refine gate_callee (f:=45) rfl ?_);refine goesL_ (some 37) rfl rfl Try.func45 (by kernel_rfl) rfl #[.agg #[.int .i64 a0_0,.slice j3 z7.length c0_1],.int .i64 a1,.int .i64 j2] rfl ls_ ?_;(with_reducible refine (impl_Cells_step.calls kj6 a0_0 _ _ z7 a1 j2 z5 z6 true _ ?r9 ?m0 A12.out).mono ?_);(case r9 => exact cb_ za5.out);(case m0 => exact za6.out);rintro e w17 ⟨rfl,hb⟩;refine ⟨_,rfl,?_⟩;replace z4:=ak (Kd.R_below (ra_ z4.out) hb);replace z3:=ak (Kd.R_below (ra_ z3.out) hb);replace z0:=bb_ z0 hb;replace HB:=bq_ hb;(try clear hb);(try clear hb2);(try clear hk);(try clear hi)) | ((with_reducible refine gate_dst (N:=11) rfl ?_);refine box_event ?hg (N:=11) ?hd (cs:=#[.int .i64 0,.int .i64 0]) (t:=66) ?hr ?_;(case hd => rfl);(case hg => rfl);(case hr => first | (go_simp;done) | (go_simp;rfl));intro z2 hg w18 hbox hb;replace z4:=ak (Kd.R_below (ra_ z4.out) hb);replace z3:=ak (Kd.R_below (Kd.R_elderB (ra_ z3.out) z2 (Nat.le_of_eq hg.symm)) hb);have z1:=ak (hbox);have zc3 : Aside0 (w.heap.size ≤ z2):=gz_;have zc4 : Aside0 (w.heap.size ≤ z2):=gz_;have j9:=ak ((by rw [hg];exact Nat.ne_of_lt (blk_lt (g:=z8) (o:=.cells #[.int .i64 a0_0,.slice j3 z7.length c0_1] 27 (0,0)) (bk_ z0.out)) : z8 ≠ z2));have r5:=ak ((by rw [hg];exact Nat.ne_of_gt (blk_lt (g:=z8) (o:=.cells #[.int .i64 a0_0,.slice j3 z7.length c0_1] 27 (0,0)) (bk_ z0.out)) : z2 ≠ z8));replace z0:=bb_ z0 hb;replace HB:=bq_ hb;clear hb hbox hg;have zf4:=r5.out;have zf5:=j9.out;have zd6:=b20 z1;have zd7:=b21 z1;have zd8:=bf_ z1 0;have zd9:=bf_ z1 1;obtain ⟨zb1,zb2,zc8⟩:=Kd.R_slice z4.out;subst zc8;obtain ⟨m7,m8,zc9⟩:=Kd.R_slice z3.out;subst zc9)));have n0_ : Aside0 (Kd.R (Kd.int .i64) 3 ((w18.setCell ⟨z2,0,none⟩ (.int .i64 z5)).setCell ⟨z2,1,none⟩ (.int .i64 z6)) w.heap.size (fun _ => True) (.slice zb1 j1.length zb2) j1):=⟨by (with_reducible repeat (first | apply Kd.R_alloc | apply Kd.R_drewN | apply Kd.R_drew));exact Kd.R_mono (Kd.R_far (p:=⟨z2,1,none⟩) (Kd.R_far (p:=⟨z2,0,none⟩) (Kd.R_types z4.out z1.out (by decide)) (fun _ hk => hk.2) (.int .i64 z5)) (fun _ hk => hk.2) (.int .i64 z6)) (fun _ hk => trivial)⟩;have n1_ : Aside0 (Kd.R k66 66 ((w18.setCell ⟨z2,0,none⟩ (.int .i64 z5)).setCell ⟨z2,1,none⟩ (.int .i64 z6)) w.heap.size (fun k_ => k_ ≠ z2) (.slice m7 j0.length m8) j0):=⟨by (with_reducible repeat (first | apply Kd.R_alloc | apply Kd.R_drewN | apply Kd.R_drew));exact Kd.R_mono (Kd.R_far (p:=⟨z2,1,none⟩) (Kd.R_far (p:=⟨z2,0,none⟩) (Kd.R_mono z3.out (fun k_ hk => (⟨hk,hk.2⟩ : _ ∧ k_ ≠ z2))) (fun _ hk => hk.2) (.int .i64 z5)) (fun _ hk => hk.2) (.int .i64 z6)) (fun _ hk => hk.1.2)⟩
              have n2_ : Aside0 (((w18.setCell ⟨z2,0,none⟩ (.int .i64 z5)).setCell ⟨z2,1,none⟩ (.int .i64 z6)).heap[z8]? = some (.cells #[.int .i64 a0_0,.slice j3 z7.length c0_1] 27 (0,0))):=⟨by (with_reducible repeat (first | refine blk_drewN ?_ _ | refine blk_drew ?_ | refine blk_alloc ?_ _));refine blk_far ?_ j9.out _;(with_reducible repeat (first | refine blk_drewN ?_ _ | refine blk_drew ?_ | refine blk_alloc ?_ _));refine blk_far ?_ j9.out _;exact bk_ z0.out⟩;have n3_ : Aside0 (((w18.setCell ⟨z2,0,none⟩ (.int .i64 z5)).setCell ⟨z2,1,none⟩ (.int .i64 z6)).heap[z2]? = some (.cells #[.int .i64 z5,.int .i64 z6] 66 (0,0))):=⟨by (with_reducible repeat (first | refine blk_drewN ?_ _ | refine blk_drew ?_ | refine blk_alloc ?_ _));refine blk_put (cs:=#[.int .i64 z5,.int .i64 0]) ?_ 1 _ rfl;(with_reducible repeat (first | refine blk_drewN ?_ _ | refine blk_drew ?_ | refine blk_alloc ?_ _));refine blk_put (cs:=#[.int .i64 0,.int .i64 0]) ?_ 0 _ rfl;exact bk_ z1.out⟩;have n4_ : Aside0 (Below w.heap.size w ((w18.setCell ⟨z2,0,none⟩ (.int .i64 z5)).setCell ⟨z2,1,none⟩ (.int .i64 z6))):=⟨hb_⟩;generalize ((w18.setCell ⟨z2,0,none⟩ (.int .i64 z5)).setCell ⟨z2,1,none⟩ (.int .i64 z6)) = w23 at n0_ n1_ n2_ n3_ n4_ ⊢;have z4:=n0_;have z3:=n1_;have z0:=n2_;have z1:=n3_;have HB:=n4_;clear n0_ n1_ n2_ n3_ n4_;replace z4:=ak (Kd.R_drew z4.out);replace z3:=ak (Kd.R_drew z3.out);replace z0:=ak (blk_drew z0.out);replace z1:=ak (blk_drew z1.out);replace HB:=ak (below_drew1 HB.out);refine start_ (n:=10) (S:=fun w' => w'.cell? ⟨z2,0,none⟩ = some (.int .i64 z5) ∧ w'.cell? ⟨z2,1,none⟩ = some (.int .i64 z6)) (ds:=[]) (bm 10 0) (by kernel_rfl) rfl rfl ⟨(blk_cell z1.out 0).trans rfl,(blk_cell z1.out 1).trans rfl⟩ (fun hHeld => ?_);refine with_tabW impl_Cells_around.tab13 impl_Cells_around.bits13 (fun HT_ HW_ => ?_);generalize w23.drew = w24 at z4 z3 z0 z1 HB hHeld ⊢;refine pz 0 41 HT_ ?_;refine pz 1 42 HT_ ?_;refine pz 4 45 HT_ ?_;refine tz 5 46 rfl HT_ HW_ hHeld (by rintro w' ⟨s0,s1⟩;go_simp;with_reducible rfl) ?_
              refine join_ (σ:=Value × Value × Value) 3 (bm 10 127) (fun s_ => [(43,s_.1),(44,s_.2.1),(47,s_.2.2)]) (fun s_ w' => (w'.cell? ⟨z2,0,none⟩ = some (.int .i64 z5) ∧ w'.cell? ⟨z2,1,none⟩ = some (.int .i64 z6)) ∧ (Kd.R (Kd.int .i64) 3 w' w.heap.size (fun k_ => some k_ ≠ (s_.2.1 : Value).ownBlock) s_.1 j7) ∧ (Kd.R (Kd.int .i64) 3 w' w.heap.size (fun k_ => some k_ ≠ (s_.1 : Value).ownBlock) s_.2.1 m6) ∧ (Kd.R k66 66 w' w.heap.size (fun k_ => some k_ ≠ (.slice m7 j0.length m8 : Value).ownBlock ∧ k_ ≠ z2) s_.2.2 j8) ∧ (Kd.R k66 66 w' w.heap.size (fun k_ => some k_ ≠ (s_.2.2 : Value).ownBlock ∧ k_ ≠ z2) (.slice m7 j0.length m8) j0) ∧ (w'.heap[z8]? = some (.cells #[.int .i64 a0_0,.slice j3 z7.length c0_1] 27 (0,0))) ∧ (w'.heap[z2]? = some (.cells #[.int .i64 z5,.int .i64 z6] 66 (0,0))) ∧ (Below w.heap.size w w')) ?_ ?_;rotate_left
              ·intro hCont
               refine two_ (i:=2) (j:=6) (Ni:=some 43) (Nj:=some 47) (bm 10 55) (bm 10 115) rfl rfl rfl rfl (two_of HT_.out (by kernel_rfl)) (by decide) (by decide) (fun K hK => ?_) (fun K hK => ?_)
               ·skip
                refine Kd.R_lit_step (Kd.int .i64) _ 3 ?hg (N:=43) ?hd (xs:=([j2] : List Int)) (inner:=[.int .i64 j2]) (ok:=fun _ => True) (okp:=fun _ => True) ?hr ?hp (fun _ hk => hk) trivial (Below.refl _ _) (Nat.le_refl _) (by simp) ?_;(case hd => rfl);(case hg => rfl);(case hr => first | (go_simp;done) | (go_simp;rfl));(case hp => exact (Reps.one (show Kd.M (Kd.int .i64) _ _ _ j2 [.int .i64 j2] from rfl) (Reps.none _ _)));intro zb3 w25 r3 hb hg_ hnew_;clear hg_ hnew_;(first | rw [← za1.out] at r3 | (simp only [Int.reduceToNat] at r3;rw [← za1.out] at r3));replace z3:=ak (Kd.R_below (ra_ z3.out) hb);have z9:=ak (Kd.R_lower (Kd.R_new' r3 (Kd.R_lt (ra_ z4.out))) (below_size hb_));replace z4:=ak (Kd.R_elder' (ra_ z4.out) (Kd.R_base r3) hb);replace z0:=bb_ z0 hb;replace z1:=bb_ z1 hb;replace HB:=bq_ hb;clear hb r3;obtain ⟨zb7,zb8,zb9⟩:=Kd.R_slice z9.out;(first | subst zb9 | (injection zb9 with f1_ f2_ f3_;have f4_:=f1_.symm;have f5_:=f3_.symm;clear f1_ f2_ f3_;subst f4_;subst f5_));refine hK.out _ _ ⟨(blk_cell z1.out 0).trans rfl,(blk_cell z1.out 1).trans rfl⟩ (fun hHeld => ?_);clear hK K;refine nz 43 ?_
                refine two_ (i:=3) (j:=6) (Ni:=some 44) (Nj:=some 47) (bm 10 63) (bm 10 119) rfl rfl rfl rfl (two_of HT_.out (by kernel_rfl)) (by decide) (by decide) (fun K hK => ?_) (fun K hK => ?_)
                ·skip
                 refine Kd.R_append_rows_step (Kd.int .i64) (w0:=w) w.heap.size (by rfl) (.tmp 41) (.tmp 43) 22 3 (.int .i64 0) 8 rfl Try.underlying22 info3 rfl (by decide) (by omega) (.slice zb1 j1.length zb2) j1 j7 _ _ _ (fun k_ => some k_ ≠ (.slice zb7 j7.length zb8 : Value).ownBlock) (fun _ => False) rfl rfl ?aO ?aR (fun _ _ h => h) (fun _ h => h.elim) ?aF ?aB ?aS ?aL ?_;(case aR => exact ca_ (Kd.R_reads' z9.out).2.2);(case aB => exact hb_);(case aF => exact (fun k_ hk => Kd.fresh' (Kd.R_lt (ra_ z9.out)) k_ hk));(case aO => exact (by (with_reducible repeat (first | apply Kd.R_alloc | apply Kd.R_drewN | apply Kd.R_drew));exact Kd.R_mono z4.out (fun _ hk => hk.2)));(case aS => exact (below_size hb_));(case aL => have:=za9.out;omega);intro r6 w27 ho hb hg hat;rw [← zb0.out] at ho;replace z3:=ak (Kd.R_over' (ra_ z3.out) (Kd.R_typed (ra_ z4.out)) (by decide) hg);replace z0:=ak (blk_grown (g:=z8) (o:=.cells #[.int .i64 a0_0,.slice j3 z7.length c0_1] 27 (0,0)) (bk_ z0.out) hg (Kd.R_ne z4.out z0.out (by decide)));replace z1:=ak (blk_grown (g:=z2) (o:=.cells #[.int .i64 z5,.int .i64 z6] 66 (0,0)) (bk_ z1.out) hg (Kd.R_ne z4.out z1.out (by decide)));replace z9:=ak (Kd.R_after (ok:=(fun _ => True)) (ra_ z9.out) hg hat);have r0:=ak (ho);replace HB:=ak (hb);clear z4;clear ho hb hg hat;refine hK.out _ _ ⟨(blk_cell z1.out 0).trans rfl,(blk_cell z1.out 1).trans rfl⟩ (fun hHeld => ?_);clear hK K;refine nz 44 ?_
                 refine one_ (i:=6) (N:=some 47) (bm 10 127) rfl rfl (one_of HT_.out (by kernel_rfl)) (by decide) (fun K hK => ?_);refine Kd.R_lit_step k66 _ 66 ?hg (N:=47) ?hd (xs:=([(⟨z5,z6⟩ : S66)] : List (S66))) (inner:=[.int .i64 z5,.int .i64 z6]) (ok:=fun _ => True) (okp:=fun _ => True) ?hr ?hp (fun _ hk => hk) trivial (Below.refl _ _) (Nat.le_refl _) (by simp) ?_;(case hd => rfl);(case hg => rfl);(case hr => first | (go_simp;done) | (go_simp;rfl));(case hp => exact (Reps.c2 (show Kd.M k66 _ _ _ (⟨z5,z6⟩ : S66) [.int .i64 z5,.int .i64 z6] from (k66_mkM _ _ _ (⟨z5,z6⟩ : S66) )) (Reps.none _ _)));intro r7 w29 m9 hb hg_ hnew_;clear hg_ hnew_;(first | rw [← r8.out] at m9 | (simp only [Int.reduceToNat] at m9;rw [← r8.out] at m9));replace z9:=ak (Kd.R_below (ra_ z9.out) hb);replace r0:=ak (Kd.R_below (ra_ r0.out) hb);have j4:=ak (Kd.R_lower (Kd.R_newB (Kd.R_new' m9 (Kd.R_lt (ra_ z3.out))) (g:=z2) (o:=.cells #[.int .i64 z5,.int .i64 z6] 66 (0,0)) (bk_ z1.out)) (below_size hb_));replace z3:=ak (Kd.R_elder' (ra_ z3.out) (Kd.R_base m9) hb);replace z0:=bb_ z0 hb;replace z1:=bb_ z1 hb;replace HB:=bq_ hb;clear hb m9;refine hK.out _ _ ⟨(blk_cell z1.out 0).trans rfl,(blk_cell z1.out 1).trans rfl⟩ (fun hHeld => ?_);clear hK K;refine nz 47 ?_
                 exact norm_ (by simp only [putAll,Act.put,aS,aZ,aN]) (hCont (.slice zb7 j7.length zb8,r6,r7) _ ⟨hHeld,(by (with_reducible repeat (first | apply Kd.R_alloc | apply Kd.R_drewN | apply Kd.R_drew));exact Kd.R_mono z9.out (fun _ hk => hk.2)),(ra_ r0.out),(by (with_reducible repeat (first | apply Kd.R_alloc | apply Kd.R_drewN | apply Kd.R_drew));exact Kd.R_mono j4.out (fun _ hk => ⟨hk.1.2,hk.2⟩)),(by (with_reducible repeat (first | apply Kd.R_alloc | apply Kd.R_drewN | apply Kd.R_drew));exact Kd.R_mono z3.out (fun _ hk => ⟨hk.2,hk.1⟩)),(bk_ z0.out),(bk_ z1.out),hb_⟩)
                ·skip
                 refine Kd.R_lit_step k66 _ 66 ?hg (N:=47) ?hd (xs:=([(⟨z5,z6⟩ : S66)] : List (S66))) (inner:=[.int .i64 z5,.int .i64 z6]) (ok:=fun _ => True) (okp:=fun _ => True) ?hr ?hp (fun _ hk => hk) trivial (Below.refl _ _) (Nat.le_refl _) (by simp) ?_;(case hd => rfl);(case hg => rfl);(case hr => first | (go_simp;done) | (go_simp;rfl));(case hp => exact (Reps.c2 (show Kd.M k66 _ _ _ (⟨z5,z6⟩ : S66) [.int .i64 z5,.int .i64 z6] from (k66_mkM _ _ _ (⟨z5,z6⟩ : S66) )) (Reps.none _ _)));intro r7 w27 r4 hb hg_ hnew_;clear hg_ hnew_;(first | rw [← r8.out] at r4 | (simp only [Int.reduceToNat] at r4;rw [← r8.out] at r4));replace z4:=ak (Kd.R_below (ra_ z4.out) hb);replace z9:=ak (Kd.R_below (ra_ z9.out) hb);have j4:=ak (Kd.R_lower (Kd.R_newB (Kd.R_new' r4 (Kd.R_lt (ra_ z3.out))) (g:=z2) (o:=.cells #[.int .i64 z5,.int .i64 z6] 66 (0,0)) (bk_ z1.out)) (below_size hb_));replace z3:=ak (Kd.R_elder' (ra_ z3.out) (Kd.R_base r4) hb);replace z0:=bb_ z0 hb;replace z1:=bb_ z1 hb;replace HB:=bq_ hb;clear hb r4;obtain ⟨za2,za3,za4⟩:=Kd.R_slice z9.out;(first | subst za4 | (injection za4 with f1_ f2_ f3_;have f4_:=f1_.symm;have f5_:=f3_.symm;clear f1_ f2_ f3_;subst f4_;subst f5_));refine hK.out _ _ ⟨(blk_cell z1.out 0).trans rfl,(blk_cell z1.out 1).trans rfl⟩ (fun hHeld => ?_);clear hK K;refine nz 47 ?_
                 refine one_ (i:=3) (N:=some 44) (bm 10 127) rfl rfl (one_of HT_.out (by kernel_rfl)) (by decide) (fun K hK => ?_);refine Kd.R_append_rows_step (Kd.int .i64) (w0:=w) w.heap.size (by rfl) (.tmp 41) (.tmp 43) 22 3 (.int .i64 0) 8 rfl Try.underlying22 info3 rfl (by decide) (by omega) (.slice zb1 j1.length zb2) j1 j7 _ _ _ (fun k_ => some k_ ≠ (.slice za2 j7.length za3 : Value).ownBlock) (fun _ => False) rfl rfl ?aO ?aR (fun _ _ h => h) (fun _ h => h.elim) ?aF ?aB ?aS ?aL ?_;(case aR => exact ca_ (Kd.R_reads' z9.out).2.2);(case aB => exact hb_);(case aF => exact (fun k_ hk => Kd.fresh' (Kd.R_lt (ra_ z9.out)) k_ hk));(case aO => exact (by (with_reducible repeat (first | apply Kd.R_alloc | apply Kd.R_drewN | apply Kd.R_drew));exact Kd.R_mono z4.out (fun _ hk => hk.2)));(case aS => exact (below_size hb_));(case aL => have:=za9.out;omega);intro r6 w29 ho hb hg hat;rw [← zb0.out] at ho;replace z3:=ak (Kd.R_over' (ra_ z3.out) (Kd.R_typed (ra_ z4.out)) (by decide) hg);replace z0:=ak (blk_grown (g:=z8) (o:=.cells #[.int .i64 a0_0,.slice j3 z7.length c0_1] 27 (0,0)) (bk_ z0.out) hg (Kd.R_ne z4.out z0.out (by decide)));replace z1:=ak (blk_grown (g:=z2) (o:=.cells #[.int .i64 z5,.int .i64 z6] 66 (0,0)) (bk_ z1.out) hg (Kd.R_ne z4.out z1.out (by decide)));replace z9:=ak (Kd.R_after (ok:=(fun _ => True)) (ra_ z9.out) hg hat);replace j4:=ak (Kd.R_over' (ra_ j4.out) (Kd.R_typed (ra_ z4.out)) (by decide) hg);have r0:=ak (ho);replace HB:=ak (hb);clear z4;clear ho hb hg hat;refine hK.out _ _ ⟨(blk_cell z1.out 0).trans rfl,(blk_cell z1.out 1).trans rfl⟩ (fun hHeld => ?_);clear hK K;refine nz 44 ?_
                 exact norm_ (by simp only [putAll,Act.put,aS,aZ,aN]) (hCont (.slice za2 j7.length za3,r6,r7) _ ⟨hHeld,(by (with_reducible repeat (first | apply Kd.R_alloc | apply Kd.R_drewN | apply Kd.R_drew));exact Kd.R_mono z9.out (fun _ hk => hk.2)),(ra_ r0.out),(by (with_reducible repeat (first | apply Kd.R_alloc | apply Kd.R_drewN | apply Kd.R_drew));exact Kd.R_mono j4.out (fun _ hk => ⟨hk.1.2,hk.2⟩)),(by (with_reducible repeat (first | apply Kd.R_alloc | apply Kd.R_drewN | apply Kd.R_drew));exact Kd.R_mono z3.out (fun _ hk => ⟨hk.2,hk.1⟩)),(bk_ z0.out),(bk_ z1.out),hb_⟩)
               ·skip
                refine Kd.R_lit_step k66 _ 66 ?hg (N:=47) ?hd (xs:=([(⟨z5,z6⟩ : S66)] : List (S66))) (inner:=[.int .i64 z5,.int .i64 z6]) (ok:=fun _ => True) (okp:=fun _ => True) ?hr ?hp (fun _ hk => hk) trivial (Below.refl _ _) (Nat.le_refl _) (by simp) ?_;(case hd => rfl);(case hg => rfl);(case hr => first | (go_simp;done) | (go_simp;rfl));(case hp => exact (Reps.c2 (show Kd.M k66 _ _ _ (⟨z5,z6⟩ : S66) [.int .i64 z5,.int .i64 z6] from (k66_mkM _ _ _ (⟨z5,z6⟩ : S66) )) (Reps.none _ _)));intro r7 w25 r3 hb hg_ hnew_;clear hg_ hnew_;(first | rw [← r8.out] at r3 | (simp only [Int.reduceToNat] at r3;rw [← r8.out] at r3));replace z4:=ak (Kd.R_below (ra_ z4.out) hb);have j4:=ak (Kd.R_lower (Kd.R_newB (Kd.R_new' r3 (Kd.R_lt (ra_ z3.out))) (g:=z2) (o:=.cells #[.int .i64 z5,.int .i64 z6] 66 (0,0)) (bk_ z1.out)) (below_size hb_));replace z3:=ak (Kd.R_elder' (ra_ z3.out) (Kd.R_base r3) hb);replace z0:=bb_ z0 hb;replace z1:=bb_ z1 hb;replace HB:=bq_ hb;clear hb r3;refine hK.out _ _ ⟨(blk_cell z1.out 0).trans rfl,(blk_cell z1.out 1).trans rfl⟩ (fun hHeld => ?_);clear hK K;refine nz 47 ?_
                refine one_ (i:=2) (N:=some 43) (bm 10 119) rfl rfl (one_of HT_.out (by kernel_rfl)) (by decide) (fun K hK => ?_);refine Kd.R_lit_step (Kd.int .i64) _ 3 ?hg (N:=43) ?hd (xs:=([j2] : List Int)) (inner:=[.int .i64 j2]) (ok:=fun _ => True) (okp:=fun _ => True) ?hr ?hp (fun _ hk => hk) trivial (Below.refl _ _) (Nat.le_refl _) (by simp) ?_;(case hd => rfl);(case hg => rfl);(case hr => first | (go_simp;done) | (go_simp;rfl));(case hp => exact (Reps.one (show Kd.M (Kd.int .i64) _ _ _ j2 [.int .i64 j2] from rfl) (Reps.none _ _)));intro zb3 w27 r4 hb hg_ hnew_;clear hg_ hnew_;(first | rw [← za1.out] at r4 | (simp only [Int.reduceToNat] at r4;rw [← za1.out] at r4));replace z3:=ak (Kd.R_below (ra_ z3.out) hb);replace j4:=ak (Kd.R_below (ra_ j4.out) hb);have z9:=ak (Kd.R_lower (Kd.R_new' r4 (Kd.R_lt (ra_ z4.out))) (below_size hb_));replace z4:=ak (Kd.R_elder' (ra_ z4.out) (Kd.R_base r4) hb);replace z0:=bb_ z0 hb;replace z1:=bb_ z1 hb;replace HB:=bq_ hb;clear hb r4;obtain ⟨za2,za3,za4⟩:=Kd.R_slice z9.out;(first | subst za4 | (injection za4 with f1_ f2_ f3_;have f4_:=f1_.symm;have f5_:=f3_.symm;clear f1_ f2_ f3_;subst f4_;subst f5_));refine hK.out _ _ ⟨(blk_cell z1.out 0).trans rfl,(blk_cell z1.out 1).trans rfl⟩ (fun hHeld => ?_);clear hK K;refine nz 43 ?_
                refine one_ (i:=3) (N:=some 44) (bm 10 127) rfl rfl (one_of HT_.out (by kernel_rfl)) (by decide) (fun K hK => ?_);refine Kd.R_append_rows_step (Kd.int .i64) (w0:=w) w.heap.size (by rfl) (.tmp 41) (.tmp 43) 22 3 (.int .i64 0) 8 rfl Try.underlying22 info3 rfl (by decide) (by omega) (.slice zb1 j1.length zb2) j1 j7 _ _ _ (fun k_ => some k_ ≠ (.slice za2 j7.length za3 : Value).ownBlock) (fun _ => False) rfl rfl ?aO ?aR (fun _ _ h => h) (fun _ h => h.elim) ?aF ?aB ?aS ?aL ?_;(case aR => exact ca_ (Kd.R_reads' z9.out).2.2);(case aB => exact hb_);(case aF => exact (fun k_ hk => Kd.fresh' (Kd.R_lt (ra_ z9.out)) k_ hk));(case aO => exact (by (with_reducible repeat (first | apply Kd.R_alloc | apply Kd.R_drewN | apply Kd.R_drew));exact Kd.R_mono z4.out (fun _ hk => hk.2)));(case aS => exact (below_size hb_));(case aL => have:=za9.out;omega);intro r6 w29 ho hb hg hat;rw [← zb0.out] at ho;replace z3:=ak (Kd.R_over' (ra_ z3.out) (Kd.R_typed (ra_ z4.out)) (by decide) hg);replace z0:=ak (blk_grown (g:=z8) (o:=.cells #[.int .i64 a0_0,.slice j3 z7.length c0_1] 27 (0,0)) (bk_ z0.out) hg (Kd.R_ne z4.out z0.out (by decide)));replace z1:=ak (blk_grown (g:=z2) (o:=.cells #[.int .i64 z5,.int .i64 z6] 66 (0,0)) (bk_ z1.out) hg (Kd.R_ne z4.out z1.out (by decide)));replace j4:=ak (Kd.R_over' (ra_ j4.out) (Kd.R_typed (ra_ z4.out)) (by decide) hg);replace z9:=ak (Kd.R_after (ok:=(fun _ => True)) (ra_ z9.out) hg hat);have r0:=ak (ho);replace HB:=ak (hb);clear z4;clear ho hb hg hat;refine hK.out _ _ ⟨(blk_cell z1.out 0).trans rfl,(blk_cell z1.out 1).trans rfl⟩ (fun hHeld => ?_);clear hK K;refine nz 44 ?_
                exact norm_ (by simp only [putAll,Act.put,aS,aZ,aN]) (hCont (.slice za2 j7.length za3,r6,r7) _ ⟨hHeld,(by (with_reducible repeat (first | apply Kd.R_alloc | apply Kd.R_drewN | apply Kd.R_drew));exact Kd.R_mono z9.out (fun _ hk => hk.2)),(ra_ r0.out),(by (with_reducible repeat (first | apply Kd.R_alloc | apply Kd.R_drewN | apply Kd.R_drew));exact Kd.R_mono j4.out (fun _ hk => ⟨hk.1.2,hk.2⟩)),(by (with_reducible repeat (first | apply Kd.R_alloc | apply Kd.R_drewN | apply Kd.R_drew));exact Kd.R_mono z3.out (fun _ hk => ⟨hk.2,hk.1⟩)),(bk_ z0.out),(bk_ z1.out),hb_⟩)
              rintro ⟨zb3,r6,r7⟩ w31 ⟨hS_,h0_,h1_,h2_,h3_,h4_,h5_,h6_⟩;have z9 : Aside0 (Kd.R (Kd.int .i64) 3 w31 w.heap.size (fun k_ => some k_ ≠ (r6 : Value).ownBlock) zb3 j7):=⟨h0_⟩;have r0 : Aside0 (Kd.R (Kd.int .i64) 3 w31 w.heap.size (fun k_ => some k_ ≠ (zb3 : Value).ownBlock) r6 m6):=⟨h1_⟩;have j4 : Aside0 (Kd.R k66 66 w31 w.heap.size (fun k_ => some k_ ≠ (.slice m7 j0.length m8 : Value).ownBlock ∧ k_ ≠ z2) r7 j8):=⟨h2_⟩;replace z3 : Aside0 (Kd.R k66 66 w31 w.heap.size (fun k_ => some k_ ≠ (r7 : Value).ownBlock ∧ k_ ≠ z2) (.slice m7 j0.length m8) j0):=⟨h3_⟩;replace z0 : Aside0 (w31.heap[z8]? = some (.cells #[.int .i64 a0_0,.slice j3 z7.length c0_1] 27 (0,0))):=⟨h4_⟩;replace z1 : Aside0 (w31.heap[z2]? = some (.cells #[.int .i64 z5,.int .i64 z6] 66 (0,0))):=⟨h5_⟩;replace HB : Aside0 (Below w.heap.size w w31):=⟨h6_⟩;clear z4 h0_ h1_ h2_ h3_ h4_ h5_ h6_;have hHeld : w31.cell? ⟨z2,0,none⟩ = some (.int .i64 z5) ∧ w31.cell? ⟨z2,1,none⟩ = some (.int .i64 z6):=hS_;obtain ⟨zd0,zd1,zc0⟩:=Kd.R_slice j4.out;(first | subst zc0 | (injection zc0 with f1_ f2_ f3_;have f4_:=f1_.symm;have f5_:=f3_.symm;clear f1_ f2_ f3_;subst f4_;subst f5_));refine norm_ (a':=?_) ?_ ?_;rotate_left
              ·simp only [putAll,Act.put,aS,aZ,aN]
               rfl
              refine one_ (i:=7) (N:=some 48) (bm 10 255) rfl rfl (one_of HT_.out (by kernel_rfl)) (by decide) (fun K hK => ?_);refine Kd.R_append_rows_step k66 (w0:=w) w.heap.size (by rfl) (.tmp 45) (.tmp 47) 79 66 (.agg #[(.int .i64 0),(.int .i64 0)]) 16 rfl Try.underlying79 info66 rfl (by decide) (by omega) (.slice m7 j0.length m8) j0 j8 _ _ _ (fun k_ => some k_ ≠ (.slice zd0 j8.length zd1 : Value).ownBlock ∧ k_ ≠ z2) (fun _ => False) rfl rfl ?aO ?aR (fun _ _ h => h) (fun _ h => h.elim) ?aF ?aB ?aS ?aL ?_;(case aR => exact ca_ (Kd.R_reads' j4.out).2.2);(case aB => exact hb_);(case aF => exact (fun k_ hk => ⟨Kd.fresh' (Kd.R_lt (ra_ j4.out)) k_ hk,Kd.freshB (g:=z2) (o:=.cells #[.int .i64 z5,.int .i64 z6] 66 (0,0)) (bk_ z1.out) k_ hk⟩));(case aO => exact (ra_ z3.out));(case aS => exact (below_size hb_));(case aL => have:=zc1.out;omega);intro zg0 w32 ho hb hg hat;rw [← zc2.out] at ho;replace z0:=ak (blk_grown (g:=z8) (o:=.cells #[.int .i64 a0_0,.slice j3 z7.length c0_1] 27 (0,0)) (bk_ z0.out) hg (Kd.R_ne z3.out z0.out (by decide)));replace z1:=ak (blk_grown (g:=z2) (o:=.cells #[.int .i64 z5,.int .i64 z6] 66 (0,0)) (bk_ z1.out) hg (Kd.R_away z3.out (fun _ hk => hk.2)));replace z9:=ak (Kd.R_over' (ra_ z9.out) (Kd.R_typed (ra_ z3.out)) (by decide) hg);replace r0:=ak (Kd.R_over' (ra_ r0.out) (Kd.R_typed (ra_ z3.out)) (by decide) hg);replace j4:=ak (Kd.R_after (ok:=(fun k_ => k_ ≠ z2)) (by (with_reducible repeat (first | apply Kd.R_alloc | apply Kd.R_drewN | apply Kd.R_drew));exact Kd.R_mono j4.out (fun _ hk => ⟨hk.2,hk.1⟩)) hg hat);have zc5:=ak (ho);replace HB:=ak (hb);clear z3;clear ho hb hg hat;refine hK.out _ _ ⟨(blk_cell z1.out 0).trans rfl,(blk_cell z1.out 1).trans rfl⟩ (fun hHeld => ?_);clear hK K;refine nz 48 ?_;refine pz 8 6 HT_ ?_;refine pz 9 7 HT_ ?_
              refine done_ (done_of HT_.out (by kernel_rfl)) ?_;(try go_wp2);go_roundg kj6
              case measure => have:=HK1.out;have:=HK2.out;have:=HJ6.out;omega
              case rel => exact ⟨(m6),(zb6),(wrap64 (j5 + 1)),es_,H',⟨by have:=HK1.out;have:=HK2.out;have:=HJ6.out;omega⟩,⟨by (with_reducible repeat (first | apply Kd.R_alloc | apply Kd.R_drewN | apply Kd.R_drew));exact Kd.R_mono r0.out (fun _ hk => trivial)⟩,⟨by (with_reducible repeat (first | apply Kd.R_alloc | apply Kd.R_drewN | apply Kd.R_drew));exact Kd.R_mono zc5.out (fun _ hk => trivial)⟩,⟨bk_ z0.out⟩,⟨hb_⟩⟩
             ·rw [if_neg c15] at H
              exact absurd H (by simp)
            ·rw [if_neg c14] at H
             exact absurd H (by simp)
           ·replace c13:=Bool.eq_false_iff.mpr c13
            subst c13;rw [if_neg (show ¬ (false = true) by decide)] at H;have H':=ak H;clear H;have ze0:=b20 z0;have ze1:=b21 z0;have ze2:=bf_ z0 0;have ze3:=bf_ z0 1;go_wp2_with (first | ((with_reducible refine gate_callee (f:=45) rfl ?_);refine goesL_ (some 37) rfl rfl Try.func45 (by kernel_rfl) rfl #[.agg #[.int .i64 a0_0,.slice j3 z7.length c0_1],.int .i64 a1,.int .i64 j2] rfl ls_ ?_;(with_reducible refine (impl_Cells_step.calls kj6 a0_0 _ _ z7 a1 j2 z5 z6 false _ ?r9 ?m0 A12.out).mono ?_);(case r9 => exact cb_ za5.out);(case m0 => exact za6.out);rintro e w35 ⟨rfl,hb⟩;refine ⟨_,rfl,?_⟩;replace z4:=ak (Kd.R_below (ra_ z4.out) hb);replace z3:=ak (Kd.R_below (ra_ z3.out) hb);replace z0:=bb_ z0 hb;replace HB:=bq_ hb;(try clear hb);(try clear hb2);(try clear hk);(try clear hi)) | ((with_reducible refine gate_dst (N:=11) rfl ?_);refine box_event ?hg (N:=11) ?hd (cs:=#[.int .i64 0,.int .i64 0]) (t:=66) ?hr ?_;(case hd => rfl);(case hg => rfl);(case hr => first | (go_simp;done) | (go_simp;rfl));intro z2 hg w36 hbox hb;replace z4:=ak (Kd.R_below (ra_ z4.out) hb);replace z3:=ak (Kd.R_below (Kd.R_elderB (ra_ z3.out) z2 (Nat.le_of_eq hg.symm)) hb);have z1:=ak (hbox);have zc3 : Aside0 (w.heap.size ≤ z2):=gz_;have zc4 : Aside0 (w.heap.size ≤ z2):=gz_;have j9:=ak ((by rw [hg];exact Nat.ne_of_lt (blk_lt (g:=z8) (o:=.cells #[.int .i64 a0_0,.slice j3 z7.length c0_1] 27 (0,0)) (bk_ z0.out)) : z8 ≠ z2));have r5:=ak ((by rw [hg];exact Nat.ne_of_gt (blk_lt (g:=z8) (o:=.cells #[.int .i64 a0_0,.slice j3 z7.length c0_1] 27 (0,0)) (bk_ z0.out)) : z2 ≠ z8));replace z0:=bb_ z0 hb;replace HB:=bq_ hb;clear hb hbox hg;have zf6:=r5.out;have zf7:=j9.out;have ze4:=b20 z1;have ze5:=b21 z1;have ze6:=bf_ z1 0;have ze7:=bf_ z1 1));go_roundg kj6
            case measure => have:=HK1.out;have:=HK2.out;have:=HJ6.out;omega
            case rel => exact ⟨(j1),(j0),(wrap64 (j5 + 1)),es_,H',⟨by have:=HK1.out;have:=HK2.out;have:=HJ6.out;omega⟩,⟨by (with_reducible repeat (first | apply Kd.R_alloc | apply Kd.R_drewN | apply Kd.R_drew));exact Kd.R_mono (Kd.R_far (p:=⟨z2,1,none⟩) (Kd.R_far (p:=⟨z2,0,none⟩) (Kd.R_types z4.out z1.out (by decide)) (fun _ hk => hk.2) (.int .i64 z5)) (fun _ hk => hk.2) (.int .i64 z6)) (fun _ hk => trivial)⟩,⟨by (with_reducible repeat (first | apply Kd.R_alloc | apply Kd.R_drewN | apply Kd.R_drew));exact Kd.R_mono (Kd.R_far (p:=⟨z2,1,none⟩) (Kd.R_far (p:=⟨z2,0,none⟩) (Kd.R_mono z3.out (fun k_ hk => (⟨hk,hk.2⟩ : _ ∧ k_ ≠ z2))) (fun _ hk => hk.2) (.int .i64 z5)) (fun _ hk => hk.2) (.int .i64 z6)) (fun _ hk => trivial)⟩,⟨by (with_reducible repeat (first | refine blk_drewN ?_ _ | refine blk_drew ?_ | refine blk_alloc ?_ _));refine blk_far ?_ j9.out _;(with_reducible repeat (first | refine blk_drewN ?_ _ | refine blk_drew ?_ | refine blk_alloc ?_ _));refine blk_far ?_ j9.out _;exact bk_ z0.out⟩,⟨hb_⟩⟩
       ·rw [if_neg c5] at H
        have zc7 : decide (j5 ≤ 1) = false:=df_ c5;clear c5;have H':=ak H;clear H;go_wp2;go_roundg k2
        case measure => have:=HK1.out;have:=HK2.out;omega
        case rel => exact ⟨(j1),(j0),(wrap64 (j6 + 1)),es_,H',⟨by have:=HK1.out;have:=HK2.out;omega⟩,⟨ra_ z4.out⟩,⟨ra_ z3.out⟩,⟨bk_ z0.out⟩,⟨hb_⟩⟩
    ·rw [if_neg c4] at H
     have zc6 : decide (j6 ≤ 1) = false:=df_ c4;clear c4;simp only [Option.some.injEq,Prod.mk.injEq] at H;obtain ⟨rfl,rfl⟩:=H;go_wp2
     go_ret2
     exact ⟨_,_,er_,by (with_reducible repeat (first | apply Kd.R_alloc | apply Kd.R_drewN | apply Kd.R_drew));exact z4.out,by (with_reducible repeat (first | apply Kd.R_alloc | apply Kd.R_drewN | apply Kd.R_drew));exact z3.out,hb_⟩

end Go.Proofs.Ytjcmlggdaajicaa.Pr
