-- Joined and pruned by wip/tools/prune.py out of this session's own texts (MinM, PureFrom, PureShort, PureShort2, Pr19)
import Derived.Test.YtjcmlggdaajicaaZsw8
/-
Own text: the least open entry of a map,whatever the order;a map's table.
-/
namespace Go.Proofs.Ytjcmlggdaajicaa.Mp
open Dij (wt rel1)
set_option linter.unusedVariables false
/-- No key twice. -/
def Nd {β : Type} (L : List (Int × β)) : Prop:=(L.map Prod.fst).Nodup
theorem Nd.lk {β : Type} {L : List (Int × β)} (h : Nd L) {i : Nat} {x : Int} {y : β} (hi : L[i]? = some (x,y)) : lk L x = some y:=by
  induction L generalizing i with
  | nil => cases hi
  | cons p l ih =>
    obtain ⟨a,b⟩:=p;unfold Nd at h;simp only [List.map_cons,List.nodup_cons] at h;simp only [Mp.lk]
    cases i with
    | zero =>
      simp only [List.getElem?_cons_zero,Option.some.injEq,Prod.mk.injEq] at hi;rw [if_pos hi.1.symm,hi.2]
    | succ i =>
      simp only [List.getElem?_cons_succ] at hi;rw [if_neg]
      · exact ih h.2 hi
      · intro e
        subst e;exact h.1 (List.mem_map.2 ⟨(x,y),List.mem_of_getElem? hi,rfl⟩)
theorem get_lk {β : Type} {L : List (Int × β)} {x : Int} {y : β} (h : lk L x = some y) : ∃ i : Nat,L[i]? = some (x,y):=by
  induction L with
  | nil => cases h
  | cons p l ih =>
    obtain ⟨a,b⟩:=p;simp only [lk] at h
    split at h
    · rename_i e
      injection h with h
      exact ⟨0,by simp [e,h]⟩
    · obtain ⟨i,hi⟩:=ih h
      exact ⟨i + 1,by simpa using hi⟩
theorem put_keys {β : Type} (L : List (Int × β)) (x : Int) (v : β) : (put L x v).map Prod.fst = if x ∈ L.map Prod.fst then L.map Prod.fst else L.map Prod.fst ++ [x]:=by
  induction L with
  | nil => simp [put]
  | cons p l ih =>
    obtain ⟨a,b⟩:=p;simp only [put]
    split
    · rename_i e
      subst e
      simp
    · rename_i e
      simp only [List.map_cons,ih,List.mem_cons];by_cases h : x ∈ l.map Prod.fst
      · rw [if_pos h,if_pos (.inr h)]
      · rw [if_neg h,if_neg (by rintro (e2 | e2);exact e e2;exact h e2)]
        rfl
theorem Nd.put {β : Type} {L : List (Int × β)} (h : Nd L) (x : Int) (v : β) : Nd (put L x v):=by
  unfold Nd at *;rw [put_keys]
  split
  · exact h
  · rename_i hx
    rw [List.nodup_append];refine ⟨h,by simp,?_⟩;intro a ha b hb e;rw [List.mem_singleton] at hb;subst hb;subst e;exact hx ha
theorem Nd.one {β : Type} (x : Int) (v : β) : Nd [(x,v)]:=by simp [Nd]
/-- How many have not been. -/
def uns (n : Nat) (seen : Array Nat) : Nat:=((List.range n).filter fun i => !seen.contains i).length
theorem push_contains (seen : Array Nat) (i j : Nat) : (seen.push i).contains j = (seen.contains j || j == i):=by
  rw [Bool.eq_iff_iff]
  simp [Array.mem_push,or_comm]
theorem uns_le (seen : Array Nat) (i : Nat) (l : List Nat) : (l.filter fun j => !(seen.push i).contains j).length ≤ (l.filter fun j => !seen.contains j).length:=by
  induction l with
  | nil => exact Nat.le_refl _
  | cons a l ih =>
    simp only [List.filter_cons,push_contains] at ih ⊢
    cases h1 : seen.contains a with
    | true => simpa using ih
    | false =>
      simp only [Bool.false_or,Bool.not_false,if_true,List.length_cons]
      split
      · simp only [List.length_cons];omega
      · omega
theorem uns_push {n : Nat} {seen : Array Nat} {i : Nat} (hi : i < n) (hs : seen.contains i = false) : uns n (seen.push i) + 1 ≤ uns n seen:=by
  unfold uns;have hm : i ∈ List.range n:=List.mem_range.2 hi;generalize List.range n = l at hm
  induction l with
  | nil => cases hm
  | cons a l ih =>
    by_cases e : a = i
    · subst e
      have:=uns_le seen a l;(have h1 : (seen.push a).contains a = true:=by rw [push_contains];simp);simp only [List.filter_cons,h1,hs,Bool.not_true,Bool.not_false,Bool.false_eq_true,if_false,if_true,List.length_cons]
      omega
    · have:=ih ((List.mem_cons.1 hm).resolve_left (fun h => e h.symm))
      (have h1 : (seen.push i).contains a = seen.contains a:=by rw [push_contains];simp [e]);simp only [List.filter_cons,h1]
      split
      · simp only [List.length_cons];omega
      · exact this
theorem uns_nil (n : Nat) : uns n #[] = n:=by
  unfold uns;rw [List.filter_eq_self.2 (fun a _ => by simp),List.length_range]
/-- The least open entry among those that have been. -/
def Bst (L : List (Int × (Int × Int))) (dn : Int → Bool) (seen : Array Nat) (at_ : Int) : Prop:=
  (at_ = -1 ∧ ∀ (i : Nat) x p,L[i]? = some (x,p) → seen.contains i = true → dn x = true) ∨
  (0 ≤ at_ ∧ ∃ p0,lk L at_ = some p0 ∧ dn at_ = false ∧ ∀ (i : Nat) x p,L[i]? = some (x,p) → seen.contains i = true → dn x = false → wt p0 ≤ wt p)
section
variable {L : List (Int × (Int × Int))} {dn : Int → Bool} {seen : Array Nat} {at_ x : Int} {i : Nat} {p : Int × Int}
theorem Bst.nil : Bst L dn #[] (-1):=.inl ⟨rfl,fun i x p _ h => by simp at h⟩
theorem Bst.done (h : Bst L dn seen at_) (hi : L[i]? = some (x,p)) (hd : dn x = true) : Bst L dn (seen.push i) at_:=by
  rcases h with ⟨e,h⟩ | ⟨h0,p0,h1,h2,h⟩
  · refine .inl ⟨e,fun j y q hj hs => ?_⟩
    rw [push_contains] at hs;by_cases e2 : j = i
    · subst e2;rw [hi] at hj;cases hj;exact hd
    · exact h j y q hj (by simpa [e2] using hs)
  · refine .inr ⟨h0,p0,h1,h2,fun j y q hj hs hy => ?_⟩
    rw [push_contains] at hs;by_cases e2 : j = i
    · subst e2;rw [hi] at hj;cases hj;rw [hd] at hy;cases hy
    · exact h j y q hj (by simpa [e2] using hs) hy
theorem Bst.first (hN : Nd L) (h : Bst L dn seen at_) (hneg : at_ < 0) (hi : L[i]? = some (x,p)) (hx : 0 ≤ x) (hd : dn x = false) : Bst L dn (seen.push i) x:=by
  rcases h with ⟨e,h⟩ | ⟨h0,_⟩
  · refine .inr ⟨hx,p,hN.lk hi,hd,fun j y q hj hs hy => ?_⟩
    rw [push_contains] at hs;by_cases e2 : j = i
    · subst e2;rw [hi] at hj;cases hj;exact Int.le_refl _
    · have:=h j y q hj (by simpa [e2] using hs)
      rw [this] at hy;cases hy
  · omega
theorem Bst.less (hN : Nd L) (h : Bst L dn seen at_) {p0 : Int × Int} (h0 : 0 ≤ at_) (hp : lk L at_ = some p0) (hi : L[i]? = some (x,p)) (hx : 0 ≤ x) (hd : dn x = false) (hl : wt p < wt p0) : Bst L dn (seen.push i) x:=by
  rcases h with ⟨e,h⟩ | ⟨_,p1,h1,h2,h⟩
  · omega
  · rw [hp] at h1
    cases h1
    refine .inr ⟨hx,p,hN.lk hi,hd,fun j y q hj hs hy => ?_⟩;rw [push_contains] at hs;by_cases e2 : j = i
    · subst e2;rw [hi] at hj;cases hj;exact Int.le_refl _
    · have:=h j y q hj (by simpa [e2] using hs) hy
      omega
theorem Bst.stay (h : Bst L dn seen at_) {p0 : Int × Int} (h0 : 0 ≤ at_) (hp : lk L at_ = some p0) (hi : L[i]? = some (x,p)) (hl : ¬ wt p < wt p0) : Bst L dn (seen.push i) at_:=by
  rcases h with ⟨e,h⟩ | ⟨_,p1,h1,h2,h⟩
  · omega
  · rw [hp] at h1
    cases h1
    refine .inr ⟨h0,p0,hp,h2,fun j y q hj hs hy => ?_⟩;rw [push_contains] at hs;by_cases e2 : j = i
    · subst e2;rw [hi] at hj;cases hj;omega
    · exact h j y q hj (by simpa [e2] using hs) hy
/-- All have been. -/
theorem Bst.all (h : Bst L dn seen at_) (hall : ∀ i,i < L.length → seen.contains i = true) : (at_ = -1 ∧ ∀ x p,lk L x = some p → dn x = true) ∨ (0 ≤ at_ ∧ ∃ p0,lk L at_ = some p0 ∧ dn at_ = false ∧ ∀ x p,lk L x = some p → dn x = false → wt p0 ≤ wt p):=by
  rcases h with ⟨e,h⟩ | ⟨h0,p0,h1,h2,h⟩
  · refine .inl ⟨e,fun x p hp => ?_⟩
    obtain ⟨i,hi⟩:=get_lk hp;exact h i x p hi (hall i (List.getElem?_eq_some_iff.1 hi).1)
  · refine .inr ⟨h0,p0,h1,h2,fun x p hp hx => ?_⟩
    obtain ⟨i,hi⟩:=get_lk hp;exact h i x p hi (hall i (List.getElem?_eq_some_iff.1 hi).1) hx
end
/-- One neighbour told: the map's table. -/
theorem lk_rel1 (L : List (Int × (Int × Int))) (p : Int × Int) (n : Int) (q : Int × Int) : (match lk L n with
    | none => lk (put L n (p.1 + q.1,p.2 + q.2))
    | some o => if wt (p.1 + q.1,p.2 + q.2) < wt o then lk (put L n (p.1 + q.1,p.2 + q.2)) else lk L) = rel1 p (lk L) (n,q):=by
  unfold rel1
  simp only
  cases h : lk L n with
  | none => dsimp only;funext y;rw [lk_put]
  | some o =>
    dsimp only
    split
    · funext y;rw [lk_put]
    (rfl)
end Go.Proofs.Ytjcmlggdaajicaa.Mp
/-
Own text: the reference's costs of all cells to one: they end as a table of least costs.
-/
namespace Go.Proofs.Ytjcmlggdaajicaa.Pure
open Go.RowKit Go.Proofs.YtjcmlggdaajicaaW.PrintWords Go.Proofs.YtjcmlggdaajicaaW.PrintLast Go.Proofs.Ytjcmlggdaajicaa.Pr Go.Proofs.Ytjcmlggdaajicaa.EvKit
open Classical
open Dij (wt sgn rel rel1 Inv End cnt)
set_option linter.unusedVariables false

/-- The table that two lists tell. -/
def DL (a b : List Int) (x : Int) : Option (Int × Int):=if 0 ≤ x ∧ x < a.length ∧ 0 ≤ rd a x then some (rd a x,rd b x) else none
def DN (dn : List Bool) (x : Int) : Bool:=if 0 ≤ x then rdOf false dn x else false
theorem rd_set (a : List Int) {n y : Int} (u : Int) (hn : 0 ≤ n) (hy : 0 ≤ y) (hl : n < a.length) : rd (a.set n.toNat u) y = if y = n then u else rd a y:=by
  unfold rd;rw [List.getD_eq_getElem?_getD,List.getD_eq_getElem?_getD,List.getElem?_set];by_cases h : y = n
  · subst h
    rw [if_pos rfl,if_pos rfl,if_pos (by omega)]
    rfl
  · rw [if_neg (by omega),if_neg h]
theorem rdB_set (a : List Bool) {n y : Int} (u : Bool) (hn : 0 ≤ n) (hy : 0 ≤ y) (hl : n < a.length) : rdOf false (a.set n.toNat u) y = if y = n then u else rdOf false a y:=by
  unfold rdOf;rw [List.getD_eq_getElem?_getD,List.getD_eq_getElem?_getD,List.getElem?_set];by_cases h : y = n
  · subst h
    rw [if_pos rfl,if_pos rfl,if_pos (by omega)]
    rfl
  · rw [if_neg (by omega),if_neg h]
theorem DL_set {a b : List Int} {n : Int} (hl : b.length = a.length) (h0 : 0 ≤ n) (h1 : n < a.length) {u v : Int} (hu : 0 ≤ u) (y : Int) : DL (a.set n.toNat u) (b.set n.toNat v) y = if y = n then some (u,v) else DL a b y:=by
  unfold DL;rw [List.length_set];by_cases hy : 0 ≤ y
  · rw [rd_set a u h0 hy h1,rd_set b v h0 hy (by omega)]
    by_cases e : y = n
    · subst e
      simp only [if_true];rw [if_pos ⟨h0,h1,hu⟩]
    · simp only [if_neg e]
  · rw [if_neg (fun z => hy z.1),if_neg (fun e => hy (by omega)),if_neg (fun z => hy z.1)]
theorem DN_set {dn : List Bool} {n : Int} (h0 : 0 ≤ n) (h1 : n < dn.length) (y : Int) : DN (dn.set n.toNat true) y = if y = n then true else DN dn y:=by
  unfold DN;by_cases hy : 0 ≤ y
  · rw [if_pos hy,if_pos hy,rdB_set dn true h0 hy h1]
  · rw [if_neg hy,if_neg hy,if_neg (fun e => hy (by omega))]
theorem DL_some {a b : List Int} {x : Int} {p : Int × Int} (h : DL a b x = some p) : 0 ≤ x ∧ x < a.length ∧ 0 ≤ rd a x ∧ p = (rd a x,rd b x):=by
  unfold DL at h
  split at h
  · rename_i hh
    cases h
    exact ⟨hh.1,hh.2.1,hh.2.2,rfl⟩
  · cases h
theorem DL_of {a b : List Int} {x : Int} (h0 : 0 ≤ x) (h1 : x < a.length) (h2 : 0 ≤ rd a x) : DL a b x = some (rd a x,rd b x):=if_pos ⟨h0,h1,h2⟩

section
variable {w : Int} {c : List Int}
/-- The lists in the search. -/
structure Rl (w : Int) (c : List Int) (src : Int) (a b : List Int) (dn : List Bool) : Prop where
  la : a.length = c.length
  lb : b.length = c.length
  ld : dn.length = c.length
  inv : Inv (NB w c) src (Us c.length) (DL a b) (DN dn)
theorem Rl.bd {src : Int} {a b : List Int} {dn : List Bool} (h : Rl w c src a b dn) (hc : Cl w c) {x : Int} (h0 : 0 ≤ x) (h1 : x < c.length) (h2 : 0 ≤ rd a x) : DL a b x = some (rd a x,rd b x) ∧ rd a x ≤ 256 ∧ 0 ≤ rd b x ∧ rd b x ≤ 256:=by
  have e:=DL_of (b:=b) h0 (by rw [h.la];exact h1) h2;have:=(h.inv.walk x _ e).2;have hn:=hc.n256;rw [Us_length] at this
  simp only at this
  have h3 : (0 : Int) ≤ if DN dn x = true then 1 else 0:=by split <;> omega
  exact ⟨e,by omega,this.2.1,by omega⟩
/-- The least of the open ones so far. -/
def Best (a b : List Int) (dn : List Bool) (best : Int) (i : Nat) : Prop:=
  (best = -1 ∧ ∀ j : Nat,j < i → ¬ (0 ≤ rd a (j : Int) ∧ rdOf false dn (j : Int) = false)) ∨
  (0 ≤ best ∧ best < i ∧ 0 ≤ rd a best ∧ rdOf false dn best = false ∧ ∀ j : Nat,j < i → 0 ≤ rd a (j : Int) → rdOf false dn (j : Int) = false → wt (rd a best,rd b best) ≤ wt (rd a (j : Int),rd b (j : Int)))
theorem Best.skip {a b : List Int} {dn : List Bool} {best : Int} {i : Nat} (h : Best a b dn best i) (hs : ¬ (0 ≤ rd a (i : Int) ∧ rdOf false dn (i : Int) = false)) : Best a b dn best (i + 1):=by
  rcases h with ⟨e,h⟩ | ⟨e1,e2,e3,e4,h⟩
  · refine .inl ⟨e,fun j hj => ?_⟩
    by_cases hji : j = i
    · subst hji;exact hs
    · exact h j (by omega)
  · refine .inr ⟨e1,by omega,e3,e4,fun j hj g1 g2 => ?_⟩
    by_cases hji : j = i
    · subst hji;exact absurd ⟨g1,g2⟩ hs
    · exact h j (by omega) g1 g2
theorem l2_run {src : Int} {a b : List Int} {dn : List Bool} (h : Rl w c src a b dn) (hc : Cl w c) (d : Nat) : ∀ (i : Nat) (best : Int),i + d = c.length → Best a b dn best i →
    ∃ best',Best a b dn best' c.length ∧ ∀ r,Ev (fun k => spec_l18From.l2 k a b dn best' (c.length : Int) (c.length : Int) w c) r → Ev (fun k => spec_l18From.l2 k a b dn best (c.length : Int) (i : Int) w c) r:=by
  induction d with
  | zero =>
    intro i best hi hb;(have e : i = c.length:=by omega);subst e;exact ⟨best,hb,fun r hr => hr⟩
  | succ d ih =>
    intro i best hi hb;have hn:=hc.n256;have la:=h.la;have lb:=h.lb;have ld:=h.ld;have hw : wrap64 ((i : Int) + 1) = ((i + 1 : Nat) : Int):=succ_w (by omega);by_cases c1 : 0 ≤ rd a (i : Int)
    · cases c2 : rdOf false dn (i : Int) with
      | true =>
        obtain ⟨best',h1,h2⟩:=ih (i + 1) best (by omega) (hb.skip (fun z => by rw [c2] at z;exact absurd z.2 (by decide)));refine ⟨best',h1,fun r hr => Ev.succ ?_⟩;simp only [spec_l18From.l2,hw];exact Ev.pos (by omega) (Ev.pos (by omega) (Ev.pos (by omega) (Ev.pos c1 (Ev.pos (by omega) (Ev.pos c2 (h2 r hr))))))
      | false =>
        have hbi:=h.bd hc (x:=(i : Int)) (by omega) (by omega) c1
        rcases hb with ⟨e,hb⟩ | ⟨e1,e2,e3,e4,hb⟩
        · obtain ⟨best',h1,h2⟩:=ih (i + 1) i (by omega) (.inr ⟨by omega,by omega,c1,c2,fun j hj g1 g2 => by
            by_cases hji : j = i
            · subst hji;exact Int.le_refl _
            · exact absurd ⟨g1,g2⟩ (hb j (by omega))⟩)
          refine ⟨best',h1,fun r hr => Ev.succ ?_⟩;simp only [spec_l18From.l2,hw];exact Ev.pos (by omega) (Ev.pos (by omega) (Ev.pos (by omega) (Ev.pos c1 (Ev.pos (by omega) (Ev.neg (by rw [c2];decide) (Ev.pos (by omega) (h2 r hr)))))))
        · have hbb:=h.bd hc (x:=best) e1 (by omega) e3
          have hcmp:=cmp_spec (a:=rd a (i : Int) - rd a best) (b:=rd b (i : Int) - rd b best) (by omega) (by omega);(have hwt : wt (rd a (i : Int) - rd a best,rd b (i : Int) - rd b best) = wt (rd a (i : Int),rd b (i : Int)) - wt (rd a best,rd b best):=by simp only [wt];omega);by_cases c3 : wt (rd a (i : Int),rd b (i : Int)) < wt (rd a best,rd b best)
          · obtain ⟨best',h1,h2⟩:=ih (i + 1) i (by omega) (.inr ⟨by omega,by omega,c1,c2,fun j hj g1 g2 => by
              by_cases hji : j = i
              · subst hji;exact Int.le_refl _
              · have:=hb j (by omega) g1 g2
                omega⟩)
            refine ⟨best',h1,fun r hr => Ev.succ ?_⟩;simp only [spec_l18From.l2,hw,wrap64_id (x:=rd a (i : Int) - rd a best) (by omega) (by omega),wrap64_id (x:=rd b (i : Int) - rd b best) (by omega) (by omega)];exact Ev.pos (by omega) (Ev.pos (by omega) (Ev.pos (by omega) (Ev.pos c1 (Ev.pos (by omega) (Ev.neg (by rw [c2];decide) (Ev.neg (by omega) (Ev.pos e1 (Ev.pos (by omega) (Ev.pos (by omega) (Ev.pos (by omega) (Ev.bnd hcmp (Ev.pos (sgn_lt.2 (by omega)) (h2 r hr)))))))))))))
          · obtain ⟨best',h1,h2⟩:=ih (i + 1) best (by omega) (.inr ⟨e1,by omega,e3,e4,fun j hj g1 g2 => by
              by_cases hji : j = i
              · subst hji;omega
              · exact hb j (by omega) g1 g2⟩)
            refine ⟨best',h1,fun r hr => Ev.succ ?_⟩;simp only [spec_l18From.l2,hw,wrap64_id (x:=rd a (i : Int) - rd a best) (by omega) (by omega),wrap64_id (x:=rd b (i : Int) - rd b best) (by omega) (by omega)];exact Ev.pos (by omega) (Ev.pos (by omega) (Ev.pos (by omega) (Ev.pos c1 (Ev.pos (by omega) (Ev.neg (by rw [c2];decide) (Ev.neg (by omega) (Ev.pos e1 (Ev.pos (by omega) (Ev.pos (by omega) (Ev.pos (by omega) (Ev.bnd hcmp (Ev.neg (fun z => by have:=sgn_lt.1 z;omega) (h2 r hr)))))))))))))
    · obtain ⟨best',h1,h2⟩:=ih (i + 1) best (by omega) (hb.skip (fun z => c1 z.1))
      refine ⟨best',h1,fun r hr => Ev.succ ?_⟩;simp only [spec_l18From.l2,hw];exact Ev.pos (by omega) (Ev.pos (by omega) (Ev.pos (by omega) (Ev.neg c1 (h2 r hr))))
/-- In the round of 'best': its cost, and what is done costs no more. -/
structure Mid (c : List Int) (p : Int × Int) (best : Int) (a b : List Int) (dn : List Bool) : Prop where
  la : a.length = c.length
  lb : b.length = c.length
  ld : dn.length = c.length
  cur : DL a b best = some p
  p0 : 0 ≤ p.1 ∧ p.1 ≤ 300 ∧ 0 ≤ p.2 ∧ p.2 ≤ 300
  all : ∀ x o,DL a b x = some o → 0 ≤ o.1 ∧ o.1 ≤ 301 ∧ 0 ≤ o.2 ∧ o.2 ≤ 301
  shut : ∀ x,DN dn x = true → ∃ o,DL a b x = some o ∧ wt o ≤ wt p
theorem rel_cons (p : Int × Int) (D : Int → Option (Int × Int)) (x : Int × Int × Int) (l : List (Int × Int × Int)) : rel p D (x :: l) = rel p (rel1 p D x) l:=rfl
theorem l3_run {p : Int × Int} {best : Int} {dn : List Bool} (hc : Cl w c) (hbf : 0 ≤ best ∧ best < c.length) (hbd : DN dn best = true) (l : List Int) (hl : l.length ≤ 9) (hls : ∀ n ∈ l,0 ≤ n ∧ n < c.length) (d : Nat) : ∀ (j : Nat) (a b : List Int),j + d = l.length → Mid c p best a b dn →
    ∃ a' b',a'.length = c.length ∧ b'.length = c.length ∧ DL a' b' = rel p (DL a b) ((l.drop j).filterMap (st1 w c best)) ∧ ∀ r,Ev (fun k => spec_l18From.l1 k a' b' dn w c) r → Ev (fun k => spec_l18From.l3 k a b dn best l (l.length : Int) (j : Int) w c) r:=by
  induction d with
  | zero =>
    intro j a b hj hm;refine ⟨a,b,hm.la,hm.lb,by rw [List.drop_eq_nil_of_le (by omega)];rfl,fun r hr => Ev.succ ?_⟩;simp only [spec_l18From.l3];exact Ev.neg (by omega) hr
  | succ d ih =>
    intro j a b hj hm;have la:=hm.la;have lb:=hm.lb;have ld:=hm.ld;have hn:=hc.n256;have hw : wrap64 ((j : Int) + 1) = ((j + 1 : Nat) : Int):=succ_w (by omega)
    have hdr : l.drop j = rd l (j : Int) :: l.drop (j + 1):=by
      rw [List.drop_eq_getElem_cons (by omega)]
      congr 1
      unfold rd
      simp [List.getD_eq_getElem?_getD,List.getElem?_eq_getElem (show j < l.length by omega)]
    have hm2:=hls (rd l (j : Int)) (by unfold rd;exact getD_mem l j 0 (by omega));have hstep:=step_spec hc best (rd l (j : Int));rw [hdr];obtain ⟨n,hrd⟩ : ∃ n,rd l (j : Int) = n:=⟨_,rfl⟩;rw [hrd] at hm2 hstep ⊢
    -- the way into the round, past the step
    have enter : ∀ (x : Bool) r,(Stp w c best n = 0 → x = true) → (Stp w c best n ≠ 0 → x = DN dn n) → Ev (fun k => spec_l18From.j4 k a b dn best n (Stp w c best n) l (l.length : Int) (j : Int) x w c) r → Ev (fun k => spec_l18From.l3 k a b dn best l (l.length : Int) (j : Int) w c) r:=by
      intro x r hx1 hx2 hr;refine Ev.succ ?_;simp only [spec_l18From.l3,hrd];refine Ev.pos (by omega) (Ev.pos (by omega) (Ev.pos (by omega) (Ev.bnd hstep (Ev.ite (fun e => ?_) (fun e => Ev.pos hm2.1 (Ev.pos (by omega) ?_))))))
      · rw [hx1 e] at hr;exact hr
      · rw [hx2 e] at hr
        unfold DN at hr;rw [if_pos hm2.1] at hr;exact hr
    have jt : ∀ r,Ev (fun k => spec_l18From.l3 k a b dn best l (l.length : Int) ((j + 1 : Nat) : Int) w c) r → Ev (fun k => spec_l18From.j4 k a b dn best n (Stp w c best n) l (l.length : Int) (j : Int) true w c) r:=by
      intro r hr;refine Ev.succ ?_;simp only [spec_l18From.j4,if_true,hw];exact hr
    by_cases e0 : Stp w c best n = 0
    · obtain ⟨a',b',g1,g2,g3,g4⟩:=ih (j + 1) a b (by omega) hm
      (have e1 : st1 w c best n = none:=by unfold st1;rw [if_neg (by omega),if_neg (by omega)]);refine ⟨a',b',g1,g2,?_,fun r hr => enter true r (fun _ => rfl) (fun x => absurd e0 x) (jt r (g4 r hr))⟩;rw [g3,List.filterMap_cons_none e1]
    · obtain ⟨f1,f2,_,f4⟩:=Stp_facts e0
      obtain ⟨q,hq,hst,hsq⟩ : ∃ q : Int × Int,((Stp w c best n = 1 ∧ q = (1,0)) ∨ (Stp w c best n = 2 ∧ q = (0,1))) ∧ st1 w c best n = some (n,q.1,q.2) ∧ 0 < wt q:=by
        rcases Stp_or w c best n with e | e | e
        · exact absurd e e0
        · exact ⟨(1,0),.inl ⟨e,rfl⟩,by unfold st1;rw [if_pos e],by decide⟩
        · exact ⟨(0,1),.inr ⟨e,rfl⟩,by unfold st1;rw [if_neg (by omega),if_pos e],by decide⟩
      have hq01 : 0 ≤ q.1 ∧ q.1 ≤ 1 ∧ 0 ≤ q.2 ∧ q.2 ≤ 1:=by rcases hq with ⟨_,e⟩ | ⟨_,e⟩ <;> subst e <;> simp
      rw [List.filterMap_cons_some hst,rel_cons]
      cases hdn : DN dn n with
      | true =>
        obtain ⟨o,ho,hle⟩:=hm.shut n hdn;obtain ⟨a',b',g1,g2,g3,g4⟩:=ih (j + 1) a b (by omega) hm;refine ⟨a',b',g1,g2,?_,fun r hr => enter true r (fun _ => rfl) (fun _ => hdn.symm) (jt r (g4 r hr))⟩
        have e1 : rel1 p (DL a b) (n,q.1,q.2) = DL a b:=by
          unfold rel1;simp only [ho];rw [if_neg];have:=Dij.wt_add p q
          omega
        rw [g3,e1]
      | false =>
        obtain ⟨_,hb1,hb2,hb3⟩:=DL_some hm.cur;(have hne : best ≠ n:=fun e => by rw [← e,hbd] at hdn;cases hdn);(have hp1 : p.1 = rd a best:=by rw [hb3]);(have hp2 : p.2 = rd b best:=by rw [hb3]);have hp0:=hm.p0
        have hmid : Mid c p best (a.set n.toNat (p.1 + q.1)) (b.set n.toNat (p.2 + q.2)) dn:=by
          (have key:=fun y => DL_set (a:=a) (b:=b) (n:=n) (by omega) hm2.1 (by omega) (u:=p.1 + q.1) (v:=p.2 + q.2) (by omega) y);refine ⟨by simpa using la,by simpa using lb,ld,?_,hp0,fun x o ho => ?_,fun x hx => ?_⟩
          · rw [key,if_neg hne];exact hm.cur
          · rw [key] at ho
            split at ho
            · cases ho;simp only;omega
            · exact hm.all x o ho
          · rw [key,if_neg (fun e => by rw [e,hdn] at hx;cases hx)]
            exact hm.shut x hx
        have hD : DL (a.set n.toNat (p.1 + q.1)) (b.set n.toNat (p.2 + q.2)) = fun y => if y = n then some (p.1 + q.1,p.2 + q.2) else DL a b y:=
          funext fun y => DL_set (by omega) hm2.1 (by omega) (by omega) y
        obtain ⟨a',b',g1,g2,g3,g4⟩:=ih (j + 1) _ _ (by omega) hmid;rw [hD] at g3;by_cases c1 : rd a n < 0
        · have e1 : rel1 p (DL a b) (n,q.1,q.2) = fun y => if y = n then some (p.1 + q.1,p.2 + q.2) else DL a b y:=by
            (have : DL a b n = none:=by unfold DL;rw [if_neg (fun z => by omega)]);unfold rel1;simp only [this]
          refine ⟨a',b',g1,g2,by rw [g3,e1],fun r hr => enter false r (fun x => absurd x e0) (fun _ => hdn.symm) (Ev.succ ?_)⟩;simp only [spec_l18From.j4,Bool.false_eq_true,if_false,hw,← hp1,← hp2];have:=g4 r hr;refine Ev.pos hbf.1 (Ev.pos hb1 (Ev.pos (by omega) ?_))
          rcases hq with ⟨e,e2⟩ | ⟨e,e2⟩
          · subst e2
            rw [wrap64_id (x:=p.1 + 1) (by omega) (by omega)];refine Ev.pos e (Ev.pos hm2.1 (Ev.pos (by omega) (Ev.pos c1 (Ev.pos (by omega) ?_))))
            simpa using this
          · subst e2
            rw [wrap64_id (x:=p.2 + 1) (by omega) (by omega)];refine Ev.neg (by omega) (Ev.pos hm2.1 (Ev.pos (by omega) (Ev.pos c1 (Ev.pos (by omega) ?_))))
            simpa using this
        · have ho:=DL_of (b:=b) hm2.1 (by omega) (show 0 ≤ rd a n by omega)
          have hob:=hm.all n _ ho
          simp only at hob
          (have hwt : wt (p.1 + q.1 - rd a n,p.2 + q.2 - rd b n) = wt (p.1 + q.1,p.2 + q.2) - wt (rd a n,rd b n):=by simp only [wt];omega);have hcmp:=cmp_spec (a:=p.1 + q.1 - rd a n) (b:=p.2 + q.2 - rd b n) (by omega) (by omega)
          have e1 : rel1 p (DL a b) (n,q.1,q.2) = if wt (p.1 + q.1,p.2 + q.2) < wt (rd a n,rd b n) then (fun y => if y = n then some (p.1 + q.1,p.2 + q.2) else DL a b y) else DL a b:=by
            unfold rel1;simp only [ho]
          by_cases c2 : wt (p.1 + q.1,p.2 + q.2) < wt (rd a n,rd b n)
          · rw [if_pos c2] at e1
            refine ⟨a',b',g1,g2,by rw [g3,e1],fun r hr => enter false r (fun x => absurd x e0) (fun _ => hdn.symm) (Ev.succ ?_)⟩;simp only [spec_l18From.j4,Bool.false_eq_true,if_false,hw,← hp1,← hp2];have:=g4 r hr;refine Ev.pos hbf.1 (Ev.pos hb1 (Ev.pos (by omega) ?_))
            rcases hq with ⟨e,e2⟩ | ⟨e,e2⟩
            · subst e2
              simp only [Int.add_zero] at hcmp hwt this c2;rw [wrap64_id (x:=p.1 + 1) (by omega) (by omega),wrap64_id (x:=p.1 + 1 - rd a n) (by omega) (by omega),wrap64_id (x:=p.2 - rd b n) (by omega) (by omega)];exact Ev.pos e (Ev.pos hm2.1 (Ev.pos (by omega) (Ev.neg c1 (Ev.pos (by omega) (Ev.bnd hcmp (Ev.pos (sgn_lt.2 (by omega)) this))))))
            · subst e2
              simp only [Int.add_zero] at hcmp hwt this c2;rw [wrap64_id (x:=p.2 + 1) (by omega) (by omega),wrap64_id (x:=p.1 - rd a n) (by omega) (by omega),wrap64_id (x:=p.2 + 1 - rd b n) (by omega) (by omega)];exact Ev.neg (by omega) (Ev.pos hm2.1 (Ev.pos (by omega) (Ev.neg c1 (Ev.pos (by omega) (Ev.bnd hcmp (Ev.pos (sgn_lt.2 (by omega)) this))))))
          · rw [if_neg c2] at e1
            obtain ⟨a',b',g1,g2,g3,g4⟩:=ih (j + 1) a b (by omega) hm;refine ⟨a',b',g1,g2,by rw [g3,e1],fun r hr => enter false r (fun x => absurd x e0) (fun _ => hdn.symm) (Ev.succ ?_)⟩;simp only [spec_l18From.j4,Bool.false_eq_true,if_false,hw,← hp1,← hp2];have:=g4 r hr;refine Ev.pos hbf.1 (Ev.pos hb1 (Ev.pos (by omega) ?_))
            rcases hq with ⟨e,e2⟩ | ⟨e,e2⟩
            · subst e2
              simp only [Int.add_zero] at hcmp hwt c2;rw [wrap64_id (x:=p.1 + 1) (by omega) (by omega),wrap64_id (x:=p.1 + 1 - rd a n) (by omega) (by omega),wrap64_id (x:=p.2 - rd b n) (by omega) (by omega)];exact Ev.pos e (Ev.pos hm2.1 (Ev.pos (by omega) (Ev.neg c1 (Ev.pos (by omega) (Ev.bnd hcmp (Ev.neg (fun z => by have:=sgn_lt.1 z;omega) this))))))
            · subst e2
              simp only [Int.add_zero] at hcmp hwt c2;rw [wrap64_id (x:=p.2 + 1) (by omega) (by omega),wrap64_id (x:=p.1 - rd a n) (by omega) (by omega),wrap64_id (x:=p.2 + 1 - rd b n) (by omega) (by omega)];exact Ev.neg (by omega) (Ev.pos hm2.1 (Ev.pos (by omega) (Ev.neg c1 (Ev.pos (by omega) (Ev.bnd hcmp (Ev.neg (fun z => by have:=sgn_lt.1 z;omega) this))))))
end
end Go.Proofs.Ytjcmlggdaajicaa.Pure
/-
Own text: the reference's shortest way,by the table of least costs.
-/
namespace Go.Proofs.Ytjcmlggdaajicaa.Pure
open Go.RowKit Go.Proofs.YtjcmlggdaajicaaW.PrintWords Go.Proofs.YtjcmlggdaajicaaW.PrintLast Go.Proofs.Ytjcmlggdaajicaa.Pr Go.Proofs.Ytjcmlggdaajicaa.EvKit
open Classical
open Dij (wt sgn rel rel1 Inv cnt nxt trail)
set_option linter.unusedVariables false

section
variable {w : Int} {c : List Int}
/-- The rounds come to an end. -/
theorem l1_run {src : Int} (hc : Cl w c) (m : Nat) : ∀ (a b : List Int) (dn : List Bool),cnt (DN dn) (Us c.length) ≤ m → Rl w c src a b dn →
    ∃ a' b',Ev (fun k => spec_l18From.l1 k a b dn w c) (a',b') ∧ a'.length = c.length ∧ b'.length = c.length ∧ Dij.End (NB w c) src (Us c.length) (DL a' b'):=by
  induction m with
  | zero =>
    intro a b dn hm h;obtain ⟨best,h1,h2⟩:=l2_run h hc c.length 0 (-1) (by omega) (.inl ⟨rfl,fun j hj => by omega⟩);have la:=h.la
    rcases h1 with ⟨e,h1⟩ | ⟨e1,e2,e3,e4,h1⟩
    · refine ⟨a,b,Ev.succ ?_,la,h.lb,h.inv.end fun x p hx => ?_⟩
      · simp only [spec_l18From.l1,la]
        refine h2 _ (Ev.succ ?_);simp only [spec_l18From.l2];exact Ev.neg (by omega) (Ev.pos (by omega) (Ev.some rfl))
      · obtain ⟨g0,g1,g2,g3⟩:=DL_some hx
        have:=h1 x.toNat (by omega);rw [Int.toNat_of_nonneg g0] at this;unfold DN;rw [if_pos g0]
        cases hd : rdOf false dn x with
        | true => rfl
        | false => exact absurd ⟨g2,hd⟩ this
    · exfalso
      have hu : best ∈ Us c.length:=mem_Us.2 ⟨e1,e2⟩;(have hd : DN dn best = false:=by unfold DN;rw [if_pos e1];exact e4);have:=Dij.cnt_mark (done':=fun y => if y = best then true else DN dn y) hu hd (fun y => rfl)
      omega
  | succ m ih =>
    intro a b dn hm h;obtain ⟨best,h1,h2⟩:=l2_run h hc c.length 0 (-1) (by omega) (.inl ⟨rfl,fun j hj => by omega⟩);have la:=h.la;have lb:=h.lb;have ld:=h.ld;have hn:=hc.n256
    rcases h1 with ⟨e,h1⟩ | ⟨e1,e2,e3,e4,h1⟩
    · refine ⟨a,b,Ev.succ ?_,la,h.lb,h.inv.end fun x p hx => ?_⟩
      · simp only [spec_l18From.l1,la]
        refine h2 _ (Ev.succ ?_);simp only [spec_l18From.l2];exact Ev.neg (by omega) (Ev.pos (by omega) (Ev.some rfl))
      · obtain ⟨g0,g1,g2,g3⟩:=DL_some hx
        have:=h1 x.toNat (by omega);rw [Int.toNat_of_nonneg g0] at this;unfold DN;rw [if_pos g0]
        cases hd : rdOf false dn x with
        | true => rfl
        | false => exact absurd ⟨g2,hd⟩ this
    · have hu : best ∈ Us c.length:=mem_Us.2 ⟨e1,e2⟩
      (have hd : DN dn best = false:=by unfold DN;rw [if_pos e1];exact e4);have hb:=h.bd hc e1 (by omega) e3
      have hmin : ∀ x o,DL a b x = some o → DN dn x = false → wt (rd a best,rd b best) ≤ wt o:=by
        intro x o hx hdx;obtain ⟨g0,g1,g2,g3⟩:=DL_some hx;have:=h1 x.toNat (by omega);rw [Int.toNat_of_nonneg g0] at this;unfold DN at hdx;rw [if_pos g0] at hdx;rw [g3];exact this g2 hdx
      have hnbs : ∀ n q,(n,q) ∈ NB w c best → n ∈ Us c.length ∧ n ≠ best ∧ (q = (1,0) ∨ q = (0,1)):=by
        intro n q hq;obtain ⟨f1,f2,f3⟩:=NB_free hq;exact ⟨mem_Us.2 ⟨f2.1,f2.2.1⟩,f3,NB_q hq⟩
      (have hdone : ∀ y,DN (dn.set best.toNat true) y = if y = best then true else DN dn y:=fun y => DN_set e1 (by omega) y);have hround:=h.inv.round hb.1 hd hmin hnbs (DN (dn.set best.toNat true)) hdone;have hcnt:=Dij.cnt_mark hu hd hdone;have har:=around_spec hc e1 e2
      -- a free cell, or the source alone: where there is no step, nothing is told
      have hmid : Mid c (rd a best,rd b best) best a b (dn.set best.toNat true):=by
        refine ⟨la,lb,by simpa using ld,hb.1,by simp only;omega,fun x o ho => ?_,fun x hx => ?_⟩
        · obtain ⟨g0,g1,g2,g3⟩:=DL_some ho
          have:=h.bd hc g0 (by omega) g2;rw [g3]
          simp only
          omega
        · rw [hdone] at hx
          split at hx
          · rename_i e
            subst e;exact ⟨_,hb.1,Int.le_refl _⟩
          · obtain ⟨o,ho⟩:=h.inv.has x hx
            exact ⟨o,ho,h.inv.low x o best _ hx ho hd hb.1⟩
      (have hbd : DN (dn.set best.toNat true) best = true:=by rw [hdone,if_pos rfl])
      obtain ⟨a',b',g1,g2,g3,g4⟩:=l3_run hc ⟨e1,by omega⟩ hbd (AR w c best) (NB_length w c best).1 (fun n hn => by
        have:=(mem_AR hc e1 (by omega)).1 hn
        exact ⟨this.1,this.2.1⟩) (AR w c best).length 0 a b (by omega) hmid
      rw [List.drop_zero,show (AR w c best).filterMap (st1 w c best) = NB w c best from rfl] at g3;rw [← g3] at hround;obtain ⟨a2,b2,i1,i2,i3,i4⟩:=ih a' b' (dn.set best.toNat true) (by omega) ⟨g1,g2,by simpa using ld,hround⟩;refine ⟨a2,b2,Ev.succ ?_,i2,i3,i4⟩;simp only [spec_l18From.l1,la];refine h2 _ (Ev.succ ?_);simp only [spec_l18From.l2];exact Ev.neg (by omega) (Ev.neg (by omega) (Ev.pos e1 (Ev.pos (by omega) (Ev.bnd har (g4 _ i1)))))
end
end Go.Proofs.Ytjcmlggdaajicaa.Pure
/-
Own text: the reference's shortest way is the way that the table of least costs tells.
-/
namespace Go.Proofs.Ytjcmlggdaajicaa.Pure
open Go.RowKit Go.Proofs.YtjcmlggdaajicaaW.PrintWords Go.Proofs.YtjcmlggdaajicaaW.PrintLast Go.Proofs.Ytjcmlggdaajicaa.Pr Go.Proofs.Ytjcmlggdaajicaa.EvKit
open Classical
open Dij (wt sgn rel rel1 Inv cnt nxt trail)
set_option linter.unusedVariables false

section
variable {w : Int} {c : List Int}
theorem fill_run {src : Int} (n : Nat) (hn : n ≤ 300) (dn : List Bool) (d : Nat) : ∀ (i : Nat) (a b : List Int),i + d = n → a.length = n → b.length = n → (∀ j : Nat,j < i → rd a (j : Int) = -1) →
    ∃ a' b',a'.length = n ∧ b'.length = n ∧ (∀ j : Nat,j < n → rd a' (j : Int) = -1) ∧ ∀ r,Ev (fun k => spec_l18From.l0 k src a' b' dn (n : Int) (n : Int) w c) r → Ev (fun k => spec_l18From.l0 k src a b dn (n : Int) (i : Int) w c) r:=by
  induction d with
  | zero =>
    intro i a b hi la lb h;(have e : i = n:=by omega);subst e;exact ⟨a,b,la,lb,h,fun r hr => hr⟩
  | succ d ih =>
    intro i a b hi la lb h
    obtain ⟨a',b',g1,g2,g3,g4⟩:=ih (i + 1) (a.set i (-1)) (b.set i (-1)) (by omega) (by simpa using la) (by simpa using lb) (fun j hj => by
      have:=rd_set a (n:=(i : Int)) (y:=(j : Int)) (-1) (by omega) (by omega) (by omega);rw [Int.toNat_natCast] at this;rw [this]
      split
      (rfl)
      · exact h j (by omega))
    refine ⟨a',b',g1,g2,g3,fun r hr => Ev.succ ?_⟩;simp only [spec_l18From.l0,Int.toNat_natCast,succ_w (show i < 35184372088833 by omega)];exact Ev.pos (by omega) (Ev.pos (by omega) (Ev.pos (by omega) (Ev.pos (by omega) (g4 r hr))))
theorem from_ev (hc : Cl w c) {src : Int} (h0 : 0 ≤ src) (h1 : src < c.length) : ∃ a b,Ev (fun k => spec_l18From.f k w c src) (a,b) ∧ a.length = c.length ∧ b.length = c.length ∧ Dij.End (NB w c) src (Us c.length) (DL a b):=by
  have hn:=hc.n256;obtain ⟨a,b,g1,g2,g3,g4⟩:=fill_run (w:=w) (c:=c) (src:=src) c.length (by omega) (List.replicate c.length false) c.length 0 (List.replicate c.length 0) (List.replicate c.length 0) (by omega) (by simp) (by simp) (fun j hj => by omega)
  have hdl : ∀ y,DL (a.set src.toNat 0) (b.set src.toNat 0) y = if y = src then some (0,0) else none:=by
    intro y;rw [DL_set (by omega) h0 (by omega) (Int.le_refl _)]
    split
    (rfl)
    · unfold DL
      by_cases hy : 0 ≤ y ∧ y < a.length
      · have:=g3 y.toNat (by omega)
        rw [Int.toNat_of_nonneg hy.1] at this;rw [if_neg (fun z => by omega)]
      · rw [if_neg (fun z => hy ⟨z.1,z.2.1⟩)]
  have hdn : ∀ y,DN (List.replicate c.length false) y = false:=by
    intro y;unfold DN rdOf
    split
    · rw [List.getD_eq_getElem?_getD,List.getElem?_replicate]
      split <;> rfl
    (rfl)
  have hrl : Rl w c src (a.set src.toNat 0) (b.set src.toNat 0) (List.replicate c.length false):=⟨by simpa using g1,by simpa using g2,by simp,Dij.inv0 (mem_Us.2 ⟨h0,h1⟩) _ hdl _ hdn⟩;obtain ⟨a',b',i1,i2,i3,i4⟩:=l1_run hc _ _ _ _ (Nat.le_refl _) hrl;refine ⟨a',b',?_,i2,i3,i4⟩;(have e1 : (0 : Int) ≤ (c.length : Int):=by omega);(have e2 : c.length ≤ 35184372088832:=by omega);(have e3 : c.length ≤ 281474976710656:=by omega);simp only [spec_l18From.f,Int.toNat_natCast,if_pos e1,if_pos e2,if_pos e3,Option.bind_some,List.length_replicate];refine g4 _ (Ev.succ ?_);simp only [spec_l18From.l0];exact Ev.neg (by omega) (Ev.pos h0 (Ev.pos (by omega) (Ev.pos (by omega) i1)))
/-- Whether a way back goes over a neighbour. -/
def fits (D : Int → Option (Int × Int)) (at_ : Int) (x : Int × Int × Int) : Bool:=match D x.1,D at_ with
  | some o,some p => decide (o.1 + x.2.1 = p.1 ∧ o.2 + x.2.2 = p.2)
  | _,_ => false
theorem nxt_fits (nb : Int → List (Int × Int × Int)) (D : Int → Option (Int × Int)) (at_ : Int) : nxt nb D at_ = (((nb at_).find? (fits D at_)).map fun x => x.1).getD at_:=rfl
theorem back_l1 (hc : Cl w c) {to_ : Int} {a b : List Int} (la : a.length = c.length) (lb : b.length = c.length) (hE : Dij.End (NB w c) to_ (Us c.length) (DL a b)) {at_ : Int} (hf : Fr c at_) {p : Int × Int} (hp : DL a b at_ = some p)
    (acc : List Int) (hacc : acc.length ≤ 1000) (s t : Int) (r : List Int × Int × Int × Bool) (m : Int × Int × Int) (hr : Ev (fun k => spec_ShortestWay.l0 k to_ a b m.1 w c (acc ++ [m.1]) s t) r) (d : Nat) : ∀ (j : Nat),j + d = (AR w c at_).length →
    (((AR w c at_).drop j).filterMap (st1 w c at_)).find? (fits (DL a b) at_) = some m → Ev (fun k => spec_ShortestWay.l1 k to_ a b at_ (AR w c at_) ((AR w c at_).length : Int) (j : Int) w c acc s t) r:=by
  induction d with
  | zero =>
    intro j hj hm;rw [List.drop_eq_nil_of_le (by omega)] at hm
    cases hm
  | succ d ih =>
    intro j hj hm;(have hj1 : (j : Int) < ((AR w c at_).length : Int):=by clear hm hr hE;omega);have hj0 : (0 : Int) ≤ (j : Int):=Int.natCast_nonneg j;have hn:=hc.n256;have hl9:=(NB_length w c at_).1
    have hdr : (AR w c at_).drop j = rd (AR w c at_) (j : Int) :: (AR w c at_).drop (j + 1):=by
      rw [List.drop_eq_getElem_cons (by omega)]
      congr 1
      unfold rd
      simp [List.getD_eq_getElem?_getD,List.getElem?_eq_getElem (show j < (AR w c at_).length by omega)]
    obtain ⟨n,hrd⟩ : ∃ n,rd (AR w c at_) (j : Int) = n:=⟨_,rfl⟩;(have hnm : n ∈ AR w c at_:=by rw [← hrd];unfold rd;exact getD_mem _ j 0 (by omega));have hstep:=step_spec hc at_ n;obtain ⟨g0,g1,_⟩:=(mem_AR hc hf.1 hf.2.1).1 hnm;rw [hdr,hrd] at hm;have hw : wrap64 ((j : Int) + 1) = ((j + 1 : Nat) : Int):=succ_w (by omega);refine Ev.succ ?_;simp only [spec_ShortestWay.l1,hrd,hw];refine Ev.pos hj1 (Ev.pos hj0 (Ev.pos hj1 (Ev.bnd hstep ?_)));obtain ⟨k0,k1,k2,k3⟩:=DL_some hp;have hpw:=(hE.walk _ _ hp).2;rw [Us_length] at hpw
    rcases Stp_or w c at_ n with e | e | e
    · have e1 : st1 w c at_ n = none:=by unfold st1;rw [if_neg (by omega),if_neg (by omega)]
      rw [List.filterMap_cons_none e1] at hm;exact Ev.neg (by omega) (Ev.neg (by omega) (ih (j + 1) (by omega) hm))
    · have e1 : st1 w c at_ n = some (n,1,0):=by unfold st1;rw [if_pos e]
      obtain ⟨o,ho,_⟩:=hE.shut at_ p hp n (1,0) ((mem_NB hc hf.1 hf.2.1).2 (.inl ⟨e,rfl⟩));obtain ⟨m0,m1,m2,m3⟩:=DL_some ho;have how:=(hE.walk _ _ ho).2;rw [Us_length] at how;rw [m3] at how;rw [k3] at hpw
      simp only at how hpw
      rw [List.filterMap_cons_some e1,List.find?_cons] at hm
      have hfit : fits (DL a b) at_ (n,1,0) = decide (rd a n + 1 = rd a at_ ∧ rd b n + 0 = rd b at_):=by
        unfold fits;simp only [ho,hp,m3,k3]
      rw [hfit] at hm;have hcmp:=cmp_spec (a:=rd a n + 1 - rd a at_) (b:=rd b n - rd b at_) (by omega) (by omega);rw [wrap64_id (x:=rd a n + 1) (by omega) (by omega),wrap64_id (x:=rd a n + 1 - rd a at_) (by omega) (by omega),wrap64_id (x:=rd b n - rd b at_) (by omega) (by omega)];refine Ev.pos e (Ev.pos g0 (Ev.pos (by omega) (Ev.pos hf.1 (Ev.pos (by omega) (Ev.pos (by omega) (Ev.pos (by omega) (Ev.bnd hcmp (Ev.ite (fun h => ?_) (fun h => Ev.neg (by omega) ?_)))))))))
      · have h2:=Dij.wt_zero (sgn_eq0.1 h) (by omega) (by omega)
        rw [decide_eq_true (⟨by omega,by omega⟩ : rd a n + 1 = rd a at_ ∧ rd b n + 0 = rd b at_)] at hm;simp only [Option.some.injEq] at hm;subst hm;exact Ev.pos (by omega) hr
      · have h2 : ¬ (rd a n + 1 = rd a at_ ∧ rd b n + 0 = rd b at_):=fun z => h (by
          rw [show rd a n + 1 - rd a at_ = 0 by omega,show rd b n - rd b at_ = 0 by omega];rfl)
        rw [decide_eq_false h2] at hm;exact ih (j + 1) (by omega) hm
    · have e1 : st1 w c at_ n = some (n,0,1):=by unfold st1;rw [if_neg (by omega),if_pos e]
      obtain ⟨o,ho,_⟩:=hE.shut at_ p hp n (0,1) ((mem_NB hc hf.1 hf.2.1).2 (.inr ⟨e,rfl⟩));obtain ⟨m0,m1,m2,m3⟩:=DL_some ho;have how:=(hE.walk _ _ ho).2;rw [Us_length] at how;rw [m3] at how;rw [k3] at hpw
      simp only at how hpw
      rw [List.filterMap_cons_some e1,List.find?_cons] at hm
      have hfit : fits (DL a b) at_ (n,0,1) = decide (rd a n + 0 = rd a at_ ∧ rd b n + 1 = rd b at_):=by
        unfold fits;simp only [ho,hp,m3,k3]
      rw [hfit] at hm;have hcmp:=cmp_spec (a:=rd a n - rd a at_) (b:=rd b n + 1 - rd b at_) (by omega) (by omega);rw [wrap64_id (x:=rd b n + 1) (by omega) (by omega),wrap64_id (x:=rd a n - rd a at_) (by omega) (by omega),wrap64_id (x:=rd b n + 1 - rd b at_) (by omega) (by omega)];refine Ev.neg (by omega) (Ev.pos e (Ev.pos g0 (Ev.pos (by omega) (Ev.pos hf.1 (Ev.pos (by omega) (Ev.pos (by omega) (Ev.pos (by omega) (Ev.bnd hcmp (Ev.ite (fun h => ?_) (fun h => ?_))))))))))
      · have h2:=Dij.wt_zero (sgn_eq0.1 h) (by omega) (by omega)
        rw [decide_eq_true (⟨by omega,by omega⟩ : rd a n + 0 = rd a at_ ∧ rd b n + 1 = rd b at_)] at hm;simp only [Option.some.injEq] at hm;subst hm;exact Ev.pos (by omega) hr
      · have h2 : ¬ (rd a n + 0 = rd a at_ ∧ rd b n + 1 = rd b at_):=fun z => h (by
          rw [show rd a n - rd a at_ = 0 by omega,show rd b n + 1 - rd b at_ = 0 by omega];rfl)
        rw [decide_eq_false h2] at hm;exact ih (j + 1) (by omega) hm
end
end Go.Proofs.Ytjcmlggdaajicaa.Pure
namespace Go.Proofs.Ytjcmlggdaajicaa.Pr
open Go.RowKit Go.Proofs.YtjcmlggdaajicaaW.PrintWords Go.Proofs.YtjcmlggdaajicaaW.PrintLast Go.Proofs.YtjcmlggdaajicaaW.PrintMore
attribute [local go_sem] max2_int min2_int max_two min_two max_three min_three max_four min_four
set_option linter.unusedVariables false
set_option linter.unusedSimpArgs false

set_option maxHeartbeats 8000000 in
set_option maxRecDepth 100000 in
theorem impl_sign.calls (a0 : Int) (r : Int) (w : World) (h : impl_sign.f a0 = some r) :
   Calls Try.prog 65 #[.int .i64 a0] w fun e w' => e = .returned (.int .i64 r) ∧ Drawn0 w w':=by
  have H : (if a0 < 0 then (some (-1)) else (if a0 > 0 then (some 1) else (some 0))) = some r:=h;clear h;by_cases c2 : a0 < 0
  ·rw [if_pos c2] at H
   have z0 : decide (a0 < 0) = true:=decide_eq_true c2;clear c2
   obtain rfl:=Option.some.inj H
   go_enter Try.func65,Try.ntmps65;go_wp2;go_ret;exact ⟨es_,by repeat (first | exact Drawn0.refl _ | apply Drawn0.step)⟩
  ·rw [if_neg c2] at H
   have z0 : decide (a0 < 0) = false:=decide_eq_false c2;clear c2;by_cases c3 : a0 > 0
   ·rw [if_pos c3] at H
    have z1 : decide (0 < a0) = true:=decide_eq_true c3;clear c3
    obtain rfl:=Option.some.inj H
    go_enter Try.func65,Try.ntmps65;go_wp2;go_ret;exact ⟨es_,by repeat (first | exact Drawn0.refl _ | apply Drawn0.step)⟩
   ·rw [if_neg c3] at H
    have z1 : decide (0 < a0) = false:=decide_eq_false c3;clear c3
    obtain rfl:=Option.some.inj H
    go_enter Try.func65,Try.ntmps65;go_wp2;go_ret;exact ⟨es_,by repeat (first | exact Drawn0.refl _ | apply Drawn0.step)⟩

set_option maxHeartbeats 8000000 in
set_option maxRecDepth 100000 in
theorem impl_cmpCost.calls (a0 : Int) (a1 : Int) (r : Int) (w : World) (h : impl_cmpCost.f a0 a1 = some r) :
   Calls Try.prog 51 #[.int .i64 a0,.int .i64 a1] w fun e w' => e = .returned (.int .i64 r) ∧ Drawn0 w w':=by
  have H : ((impl_sign.f a0).bind fun z2 => ((impl_sign.f a1).bind fun z0 => (if (wrap64 (z2 * z0)) ≥ 0 then ((impl_sign.f (wrap64 (a0 + a1))).bind fun z4 => (some z4)) else ((impl_sign.f a0).bind fun z3 => ((impl_sign.f (wrap64 ((wrap64 (a0 * a0)) - (wrap64 ((wrap64 (2 * a1)) * a1))))).bind fun z1 => (some (wrap64 (z3 * z1)))))))) = some r:=h;clear h;replace H:=Option.bind_eq_some_iff.mp H;obtain ⟨z2,A30,H⟩:=H;replace H : ((impl_sign.f a1).bind fun z0 => (if (wrap64 (z2 * z0)) ≥ 0 then ((impl_sign.f (wrap64 (a0 + a1))).bind fun z4 => (some z4)) else ((impl_sign.f a0).bind fun z3 => ((impl_sign.f (wrap64 ((wrap64 (a0 * a0)) - (wrap64 ((wrap64 (2 * a1)) * a1))))).bind fun z1 => (some (wrap64 (z3 * z1))))))) = some r:=H;have A3:=Aside0.mk A30;clear A30;replace H:=Option.bind_eq_some_iff.mp H;obtain ⟨z0,A40,H⟩:=H;replace H : (if (wrap64 (z2 * z0)) ≥ 0 then ((impl_sign.f (wrap64 (a0 + a1))).bind fun z4 => (some z4)) else ((impl_sign.f a0).bind fun z3 => ((impl_sign.f (wrap64 ((wrap64 (a0 * a0)) - (wrap64 ((wrap64 (2 * a1)) * a1))))).bind fun z1 => (some (wrap64 (z3 * z1)))))) = some r:=H;have A4:=Aside0.mk A40;clear A40;by_cases c5 : (wrap64 (z2 * z0)) ≥ 0
  ·rw [if_pos c5] at H
   have z5 : decide (0 ≤ (wrap64 (z2 * z0))) = true:=decide_eq_true c5;clear c5;replace H:=Option.bind_eq_some_iff.mp H;obtain ⟨z4,A60,H⟩:=H;replace H : (some z4) = some r:=H;have A6:=Aside0.mk A60;clear A60
   obtain rfl:=Option.some.inj H
   go_enter Try.func51,Try.ntmps51;go_wp2_with (first | ((with_reducible refine gate_callee (f:=65) rfl ?_);refine goesL_ (some 6) rfl rfl Try.func65 (by kernel_rfl) rfl #[.int .i64 a0] rfl ls_ ?_;(with_reducible refine (impl_sign.calls a0 z2 _ A3.out).mono ?_);rintro e w' ⟨rfl,⟨nd,rfl⟩⟩;refine ⟨_,rfl,?_⟩) | ((with_reducible refine gate_callee (f:=65) rfl ?_);refine goesL_ (some 8) rfl rfl Try.func65 (by kernel_rfl) rfl #[.int .i64 a1] rfl ls_ ?_;(with_reducible refine (impl_sign.calls a1 z0 _ A4.out).mono ?_);rintro e w' ⟨rfl,⟨nd,rfl⟩⟩;refine ⟨_,rfl,?_⟩) | ((with_reducible refine gate_callee (f:=65) rfl ?_);refine goesL_ (some 14) rfl rfl Try.func65 (by kernel_rfl) rfl #[.int .i64 (wrap64 (a0 + a1))] rfl ls_ ?_;(with_reducible refine (impl_sign.calls (wrap64 (a0 + a1)) z4 _ A6.out).mono ?_);rintro e w' ⟨rfl,⟨nd,rfl⟩⟩;refine ⟨_,rfl,?_⟩));go_ret;exact ⟨es_,by repeat (first | exact Drawn0.refl _ | apply Drawn0.step)⟩
  ·rw [if_neg c5] at H
   have z5 : decide (0 ≤ (wrap64 (z2 * z0))) = false:=decide_eq_false c5;clear c5;replace H:=Option.bind_eq_some_iff.mp H;obtain ⟨z3,A70,H⟩:=H;replace H : ((impl_sign.f (wrap64 ((wrap64 (a0 * a0)) - (wrap64 ((wrap64 (2 * a1)) * a1))))).bind fun z1 => (some (wrap64 (z3 * z1)))) = some r:=H;have A7:=Aside0.mk A70;clear A70;replace H:=Option.bind_eq_some_iff.mp H;obtain ⟨z1,A80,H⟩:=H;replace H : (some (wrap64 (z3 * z1))) = some r:=H;have A8:=Aside0.mk A80;clear A80
   obtain rfl:=Option.some.inj H
   go_enter Try.func51,Try.ntmps51;go_wp2_with (first | ((with_reducible refine gate_callee (f:=65) rfl ?_);refine goesL_ (some 6) rfl rfl Try.func65 (by kernel_rfl) rfl #[.int .i64 a0] rfl ls_ ?_;(with_reducible refine (impl_sign.calls a0 z2 _ A3.out).mono ?_);rintro e w' ⟨rfl,⟨nd,rfl⟩⟩;refine ⟨_,rfl,?_⟩) | ((with_reducible refine gate_callee (f:=65) rfl ?_);refine goesL_ (some 8) rfl rfl Try.func65 (by kernel_rfl) rfl #[.int .i64 a1] rfl ls_ ?_;(with_reducible refine (impl_sign.calls a1 z0 _ A4.out).mono ?_);rintro e w' ⟨rfl,⟨nd,rfl⟩⟩;refine ⟨_,rfl,?_⟩) | ((with_reducible refine gate_callee (f:=65) rfl ?_);refine goesL_ (some 16) rfl rfl Try.func65 (by kernel_rfl) rfl #[.int .i64 a0] rfl ls_ ?_;(with_reducible refine (impl_sign.calls a0 z3 _ A7.out).mono ?_);rintro e w' ⟨rfl,⟨nd,rfl⟩⟩;refine ⟨_,rfl,?_⟩) | ((with_reducible refine gate_callee (f:=65) rfl ?_);refine goesL_ (some 25) rfl rfl Try.func65 (by kernel_rfl) rfl #[.int .i64 (wrap64 ((wrap64 (a0 * a0)) - (wrap64 ((wrap64 (2 * a1)) * a1))))] rfl ls_ ?_;(with_reducible refine (impl_sign.calls (wrap64 ((wrap64 (a0 * a0)) - (wrap64 ((wrap64 (2 * a1)) * a1)))) z1 _ A8.out).mono ?_);rintro e w' ⟨rfl,⟨nd,rfl⟩⟩;refine ⟨_,rfl,?_⟩));go_ret;exact ⟨es_,by repeat (first | exact Drawn0.refl _ | apply Drawn0.step)⟩

set_option maxHeartbeats 8000000 in
set_option maxRecDepth 100000 in
theorem impl_Cells_next.calls (a0_0 : Int) (z3 : Option Addr) (c0_1 : Nat) (z2 : List Int) (a1 : Int) (a2 : Int) (a3 : Int) (r : Int) (w : World) (hr0_1 : Kd.C (Kd.int .i64) w z3 z2.length z2) (hc0_1 : z2.length ≤ c0_1) (h : impl_Cells_next.f a0_0 z2 a1 a2 a3 = some r) :
   Calls Try.prog 58 #[.agg #[.int .i64 a0_0,.slice z3 z2.length c0_1],.int .i64 a1,.int .i64 a2,.int .i64 a3] w fun e w' => e = .returned (.int .i64 r) ∧ Below w.heap.size w w':=by
  have m2:=Try.underlying27;have m0:=Aside0.mk hr0_1;have m1:=Aside0.mk hc0_1;clear hr0_1 hc0_1;have HB:=ak (Below.refl w.heap.size w);have H : (if a0_0 = 0 then (none) else (if (wrap64 ((Int.tmod a1 a0_0) + a2)) < 0 then (some (-1)) else (if (wrap64 ((Int.tmod a1 a0_0) + a2)) ≥ a0_0 then (some (-1)) else (if (wrap64 ((wrap64 (Int.tdiv a1 a0_0)) + a3)) < 0 then (some (-1)) else (if (wrap64 ((wrap64 (Int.tdiv a1 a0_0)) + a3)) ≥ (wrap64 ((z2.length : Int) / a0_0)) then (some (-1)) else (some (wrap64 ((wrap64 ((wrap64 ((wrap64 (Int.tdiv a1 a0_0)) + a3)) * a0_0)) + (wrap64 ((Int.tmod a1 a0_0) + a2)))))))))) = some r:=h;clear h;by_cases c5 : a0_0 = 0
  ·rw [if_pos c5] at H
   exact absurd H (by simp)
  ·rw [if_neg c5] at H
   have m3 : (a0_0 == 0) = false:=beq_eq_false_iff_ne.mpr c5;have m4 : (a0_0 != 0) = true:=bne_iff_ne.mpr c5;by_cases c6 : (wrap64 ((Int.tmod a1 a0_0) + a2)) < 0
   ·rw [if_pos c6] at H
    have r8 : decide ((wrap64 ((Int.tmod a1 a0_0) + a2)) < 0) = true:=decide_eq_true c6;clear c6
    obtain rfl:=Option.some.inj H
    go_enter Try.func58,Try.ntmps58;go_wp2_with (first | ((with_reducible refine gate_dst (N:=4) rfl ?_);(try (refine gate_guard (by rfl) ?_;dsimp only));refine box_event ?hg (N:=4) ?hd (cs:=#[.int .i64 a0_0,.slice z3 z2.length c0_1]) (t:=27) ?hr ?_;(case hd => rfl);(case hg => rfl);(case hr => first | (go_simp;done) | (go_simp;rfl));intro z0 hg w7 hbox hb;have z1:=ak (hbox);have z4 : Aside0 (w.heap.size ≤ z0):=gz_;have z5 : Aside0 (w.heap.size ≤ z0):=gz_;replace HB:=ak (below_step hb_ hb);clear hb hbox hg;have r2:=b20 z1;have r3:=b21 z1;have r4:=blk_frozen z1.out 0;have r5:=blk_frozen z1.out 1));(repeat (go_quiet (first | ((with_reducible refine gate_dst (N:=4) rfl ?_);(try (refine gate_guard (by rfl) ?_;dsimp only));refine box_event ?hg (N:=4) ?hd (cs:=#[.int .i64 a0_0,.slice z3 z2.length c0_1]) (t:=27) ?hr ?_;(case hd => rfl);(case hg => rfl);(case hr => first | (go_simp;done) | (go_simp;rfl));intro z0 hg w7 hbox hb;have z1:=ak (hbox);have z4 : Aside0 (w.heap.size ≤ z0):=gz_;have z5 : Aside0 (w.heap.size ≤ z0):=gz_;replace HB:=ak (below_step hb_ hb);clear hb hbox hg;have r2:=b20 z1;have r3:=b21 z1;have r4:=blk_frozen z1.out 0;have r5:=blk_frozen z1.out 1));try go_wp2_with (first | ((with_reducible refine gate_dst (N:=4) rfl ?_);(try (refine gate_guard (by rfl) ?_;dsimp only));refine box_event ?hg (N:=4) ?hd (cs:=#[.int .i64 a0_0,.slice z3 z2.length c0_1]) (t:=27) ?hr ?_;(case hd => rfl);(case hg => rfl);(case hr => first | (go_simp;done) | (go_simp;rfl));intro z0 hg w7 hbox hb;have z1:=ak (hbox);have z4 : Aside0 (w.heap.size ≤ z0):=gz_;have z5 : Aside0 (w.heap.size ≤ z0):=gz_;replace HB:=ak (below_step hb_ hb);clear hb hbox hg;have r2:=b20 z1;have r3:=b21 z1;have r4:=blk_frozen z1.out 0;have r5:=blk_frozen z1.out 1))));go_ret;exact ⟨er_,hb_⟩
   ·rw [if_neg c6] at H
    have r8 : decide ((wrap64 ((Int.tmod a1 a0_0) + a2)) < 0) = false:=decide_eq_false c6;clear c6;by_cases c9 : (wrap64 ((Int.tmod a1 a0_0) + a2)) ≥ a0_0
    ·rw [if_pos c9] at H
     have r9 : decide (a0_0 ≤ (wrap64 ((Int.tmod a1 a0_0) + a2))) = true:=decide_eq_true c9;clear c9
     obtain rfl:=Option.some.inj H
     go_enter Try.func58,Try.ntmps58;go_wp2_with (first | ((with_reducible refine gate_dst (N:=4) rfl ?_);(try (refine gate_guard (by rfl) ?_;dsimp only));refine box_event ?hg (N:=4) ?hd (cs:=#[.int .i64 a0_0,.slice z3 z2.length c0_1]) (t:=27) ?hr ?_;(case hd => rfl);(case hg => rfl);(case hr => first | (go_simp;done) | (go_simp;rfl));intro z0 hg w10 hbox hb;have z1:=ak (hbox);have z4 : Aside0 (w.heap.size ≤ z0):=gz_;have z5 : Aside0 (w.heap.size ≤ z0):=gz_;replace HB:=ak (below_step hb_ hb);clear hb hbox hg;have z6:=b20 z1;have z7:=b21 z1;have z8:=blk_frozen z1.out 0;have z9:=blk_frozen z1.out 1));(repeat (go_quiet (first | ((with_reducible refine gate_dst (N:=4) rfl ?_);(try (refine gate_guard (by rfl) ?_;dsimp only));refine box_event ?hg (N:=4) ?hd (cs:=#[.int .i64 a0_0,.slice z3 z2.length c0_1]) (t:=27) ?hr ?_;(case hd => rfl);(case hg => rfl);(case hr => first | (go_simp;done) | (go_simp;rfl));intro z0 hg w10 hbox hb;have z1:=ak (hbox);have z4 : Aside0 (w.heap.size ≤ z0):=gz_;have z5 : Aside0 (w.heap.size ≤ z0):=gz_;replace HB:=ak (below_step hb_ hb);clear hb hbox hg;have z6:=b20 z1;have z7:=b21 z1;have z8:=blk_frozen z1.out 0;have z9:=blk_frozen z1.out 1));try go_wp2_with (first | ((with_reducible refine gate_dst (N:=4) rfl ?_);(try (refine gate_guard (by rfl) ?_;dsimp only));refine box_event ?hg (N:=4) ?hd (cs:=#[.int .i64 a0_0,.slice z3 z2.length c0_1]) (t:=27) ?hr ?_;(case hd => rfl);(case hg => rfl);(case hr => first | (go_simp;done) | (go_simp;rfl));intro z0 hg w10 hbox hb;have z1:=ak (hbox);have z4 : Aside0 (w.heap.size ≤ z0):=gz_;have z5 : Aside0 (w.heap.size ≤ z0):=gz_;replace HB:=ak (below_step hb_ hb);clear hb hbox hg;have z6:=b20 z1;have z7:=b21 z1;have z8:=blk_frozen z1.out 0;have z9:=blk_frozen z1.out 1))));go_ret;exact ⟨er_,hb_⟩
    ·rw [if_neg c9] at H
     have r9 : decide (a0_0 ≤ (wrap64 ((Int.tmod a1 a0_0) + a2))) = false:=decide_eq_false c9;clear c9;by_cases c12 : (wrap64 ((wrap64 (Int.tdiv a1 a0_0)) + a3)) < 0
     ·rw [if_pos c12] at H
      have r6 : decide ((wrap64 ((wrap64 (Int.tdiv a1 a0_0)) + a3)) < 0) = true:=decide_eq_true c12;clear c12
      obtain rfl:=Option.some.inj H
      go_enter Try.func58,Try.ntmps58;go_wp2_with (first | ((with_reducible refine gate_dst (N:=4) rfl ?_);(try (refine gate_guard (by rfl) ?_;dsimp only));refine box_event ?hg (N:=4) ?hd (cs:=#[.int .i64 a0_0,.slice z3 z2.length c0_1]) (t:=27) ?hr ?_;(case hd => rfl);(case hg => rfl);(case hr => first | (go_simp;done) | (go_simp;rfl));intro z0 hg w13 hbox hb;have z1:=ak (hbox);have z4 : Aside0 (w.heap.size ≤ z0):=gz_;have z5 : Aside0 (w.heap.size ≤ z0):=gz_;replace HB:=ak (below_step hb_ hb);clear hb hbox hg;have j0:=b20 z1;have j1:=b21 z1;have j2:=blk_frozen z1.out 0;have j3:=blk_frozen z1.out 1));(repeat (go_quiet (first | ((with_reducible refine gate_dst (N:=4) rfl ?_);(try (refine gate_guard (by rfl) ?_;dsimp only));refine box_event ?hg (N:=4) ?hd (cs:=#[.int .i64 a0_0,.slice z3 z2.length c0_1]) (t:=27) ?hr ?_;(case hd => rfl);(case hg => rfl);(case hr => first | (go_simp;done) | (go_simp;rfl));intro z0 hg w13 hbox hb;have z1:=ak (hbox);have z4 : Aside0 (w.heap.size ≤ z0):=gz_;have z5 : Aside0 (w.heap.size ≤ z0):=gz_;replace HB:=ak (below_step hb_ hb);clear hb hbox hg;have j0:=b20 z1;have j1:=b21 z1;have j2:=blk_frozen z1.out 0;have j3:=blk_frozen z1.out 1));try go_wp2_with (first | ((with_reducible refine gate_dst (N:=4) rfl ?_);(try (refine gate_guard (by rfl) ?_;dsimp only));refine box_event ?hg (N:=4) ?hd (cs:=#[.int .i64 a0_0,.slice z3 z2.length c0_1]) (t:=27) ?hr ?_;(case hd => rfl);(case hg => rfl);(case hr => first | (go_simp;done) | (go_simp;rfl));intro z0 hg w13 hbox hb;have z1:=ak (hbox);have z4 : Aside0 (w.heap.size ≤ z0):=gz_;have z5 : Aside0 (w.heap.size ≤ z0):=gz_;replace HB:=ak (below_step hb_ hb);clear hb hbox hg;have j0:=b20 z1;have j1:=b21 z1;have j2:=blk_frozen z1.out 0;have j3:=blk_frozen z1.out 1))));go_ret;exact ⟨er_,hb_⟩
     ·rw [if_neg c12] at H
      have r6 : decide ((wrap64 ((wrap64 (Int.tdiv a1 a0_0)) + a3)) < 0) = false:=decide_eq_false c12;clear c12;by_cases c15 : (wrap64 ((wrap64 (Int.tdiv a1 a0_0)) + a3)) ≥ (wrap64 ((z2.length : Int) / a0_0))
      ·rw [if_pos c15] at H
       have r7 : decide ((wrap64 ((z2.length : Int) / a0_0)) ≤ (wrap64 ((wrap64 (Int.tdiv a1 a0_0)) + a3))) = true:=decide_eq_true c15;clear c15
       obtain rfl:=Option.some.inj H
       go_enter Try.func58,Try.ntmps58;go_wp2_with (first | ((with_reducible refine gate_dst (N:=4) rfl ?_);(try (refine gate_guard (by rfl) ?_;dsimp only));refine box_event ?hg (N:=4) ?hd (cs:=#[.int .i64 a0_0,.slice z3 z2.length c0_1]) (t:=27) ?hr ?_;(case hd => rfl);(case hg => rfl);(case hr => first | (go_simp;done) | (go_simp;rfl));intro z0 hg w16 hbox hb;have z1:=ak (hbox);have z4 : Aside0 (w.heap.size ≤ z0):=gz_;have z5 : Aside0 (w.heap.size ≤ z0):=gz_;replace HB:=ak (below_step hb_ hb);clear hb hbox hg;have j4:=b20 z1;have j5:=b21 z1;have j6:=blk_frozen z1.out 0;have j7:=blk_frozen z1.out 1));(repeat (go_quiet (first | ((with_reducible refine gate_dst (N:=4) rfl ?_);(try (refine gate_guard (by rfl) ?_;dsimp only));refine box_event ?hg (N:=4) ?hd (cs:=#[.int .i64 a0_0,.slice z3 z2.length c0_1]) (t:=27) ?hr ?_;(case hd => rfl);(case hg => rfl);(case hr => first | (go_simp;done) | (go_simp;rfl));intro z0 hg w16 hbox hb;have z1:=ak (hbox);have z4 : Aside0 (w.heap.size ≤ z0):=gz_;have z5 : Aside0 (w.heap.size ≤ z0):=gz_;replace HB:=ak (below_step hb_ hb);clear hb hbox hg;have j4:=b20 z1;have j5:=b21 z1;have j6:=blk_frozen z1.out 0;have j7:=blk_frozen z1.out 1));try go_wp2_with (first | ((with_reducible refine gate_dst (N:=4) rfl ?_);(try (refine gate_guard (by rfl) ?_;dsimp only));refine box_event ?hg (N:=4) ?hd (cs:=#[.int .i64 a0_0,.slice z3 z2.length c0_1]) (t:=27) ?hr ?_;(case hd => rfl);(case hg => rfl);(case hr => first | (go_simp;done) | (go_simp;rfl));intro z0 hg w16 hbox hb;have z1:=ak (hbox);have z4 : Aside0 (w.heap.size ≤ z0):=gz_;have z5 : Aside0 (w.heap.size ≤ z0):=gz_;replace HB:=ak (below_step hb_ hb);clear hb hbox hg;have j4:=b20 z1;have j5:=b21 z1;have j6:=blk_frozen z1.out 0;have j7:=blk_frozen z1.out 1))));go_ret;exact ⟨er_,hb_⟩
      ·rw [if_neg c15] at H
       have r7 : decide ((wrap64 ((z2.length : Int) / a0_0)) ≤ (wrap64 ((wrap64 (Int.tdiv a1 a0_0)) + a3))) = false:=decide_eq_false c15;clear c15
       obtain rfl:=Option.some.inj H
       go_enter Try.func58,Try.ntmps58;go_wp2_with (first | ((with_reducible refine gate_dst (N:=4) rfl ?_);(try (refine gate_guard (by rfl) ?_;dsimp only));refine box_event ?hg (N:=4) ?hd (cs:=#[.int .i64 a0_0,.slice z3 z2.length c0_1]) (t:=27) ?hr ?_;(case hd => rfl);(case hg => rfl);(case hr => first | (go_simp;done) | (go_simp;rfl));intro z0 hg w18 hbox hb;have z1:=ak (hbox);have z4 : Aside0 (w.heap.size ≤ z0):=gz_;have z5 : Aside0 (w.heap.size ≤ z0):=gz_;replace HB:=ak (below_step hb_ hb);clear hb hbox hg;have j8:=b20 z1;have j9:=b21 z1;have r0:=blk_frozen z1.out 0;have r1:=blk_frozen z1.out 1));(repeat (go_quiet (first | ((with_reducible refine gate_dst (N:=4) rfl ?_);(try (refine gate_guard (by rfl) ?_;dsimp only));refine box_event ?hg (N:=4) ?hd (cs:=#[.int .i64 a0_0,.slice z3 z2.length c0_1]) (t:=27) ?hr ?_;(case hd => rfl);(case hg => rfl);(case hr => first | (go_simp;done) | (go_simp;rfl));intro z0 hg w18 hbox hb;have z1:=ak (hbox);have z4 : Aside0 (w.heap.size ≤ z0):=gz_;have z5 : Aside0 (w.heap.size ≤ z0):=gz_;replace HB:=ak (below_step hb_ hb);clear hb hbox hg;have j8:=b20 z1;have j9:=b21 z1;have r0:=blk_frozen z1.out 0;have r1:=blk_frozen z1.out 1));try go_wp2_with (first | ((with_reducible refine gate_dst (N:=4) rfl ?_);(try (refine gate_guard (by rfl) ?_;dsimp only));refine box_event ?hg (N:=4) ?hd (cs:=#[.int .i64 a0_0,.slice z3 z2.length c0_1]) (t:=27) ?hr ?_;(case hd => rfl);(case hg => rfl);(case hr => first | (go_simp;done) | (go_simp;rfl));intro z0 hg w18 hbox hb;have z1:=ak (hbox);have z4 : Aside0 (w.heap.size ≤ z0):=gz_;have z5 : Aside0 (w.heap.size ≤ z0):=gz_;replace HB:=ak (below_step hb_ hb);clear hb hbox hg;have j8:=b20 z1;have j9:=b21 z1;have r0:=blk_frozen z1.out 0;have r1:=blk_frozen z1.out 1))));go_ret;exact ⟨er_,hb_⟩

end Go.Proofs.Ytjcmlggdaajicaa.Pr
