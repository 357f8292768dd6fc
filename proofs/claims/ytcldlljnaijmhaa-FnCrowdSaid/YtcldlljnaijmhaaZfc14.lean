-- Joined and pruned by wip/tools/prune.py out of this session's own texts (HPlan, Pr27)
import Derived.Test.YtcldlljnaijmhaaZfc13
import Derived.Outline
/-
Own text,by hand: the walk of (Cells).plan (gen-plan2.py).
-/
namespace Go.Proofs.Ytcldlljnaijmhaa.Pr
open Go.RowKit Go.Proofs.YtcldlljnaijmhaaW.PrintWords Go.Proofs.YtcldlljnaijmhaaW.PrintLast Go.Proofs.YtcldlljnaijmhaaW.PrintMore Go.Proofs.Ytcldlljnaijmhaa.Mp
open Go.Proofs.Ytcldlljnaijmhaa.Pure (still planI gst good)
set_option linter.unusedVariables false
set_option linter.unusedSimpArgs false

theorem zeroB (w : World) : (zeroValue 4).run Try.prog w = .ok (.bool false) w:=by kernel_rfl
theorem info101 : (Try.prog.info? 101).map (fun i => (i.zero,i.size,i.bytes)) = some (some (.map none),1,8):=by kernel_rfl
/-- Maps, as a slice's elements. -/
abbrev km : Kd (Option Nat):=Kd.scalar (fun m => Value.map m) (fun _ => rfl)
section
open Classical
/-- The set that a map tells. -/
def MapIs (L : List (Int × Bool)) (C : Int → Prop) : Prop:=∀ x,(lk L x).getD false = decide (C x)
theorem MapIs.nil {C : Int → Prop} (h : ∀ x,¬ C x) : MapIs [] C:=fun x => by simp [lk,h x]
theorem MapIs.congr {L : List (Int × Bool)} {C C' : Int → Prop} (h : MapIs L C) (hc : ∀ x,C x ↔ C' x) : MapIs L C':=fun x => (h x).trans (decide_eq_decide.2 (hc x))
theorem MapIs.put {L : List (Int × Bool)} {C C' : Int → Prop} (h : MapIs L C) {i : Int} (hi : C' i) (hc : ∀ x,x ≠ i → (C x ↔ C' x)) : MapIs (put L i true) C':=fun x => by
  rw [lk_put]
  by_cases e : x = i
  · rw [if_pos e,e]
    simp [hi]
  · rw [if_neg e,h x]
    exact decide_eq_decide.2 (hc x e)
/-- The maps from k on. -/
def Maps (W : World) (ms : List (Option Nat)) (k N : Nat) (C : Nat → Int → Prop) (bad : Nat → Prop) : Prop:=∀ j,k ≤ j → j ≤ N → ∃ b L,ms[j]? = some (some b) ∧ ¬ bad b ∧ W.heap[b]? = some (mobj (Value.int .i64) Value.bool L) ∧ MapIs L (C j)
variable {W W1 : World} {ms : List (Option Nat)} {k N : Nat} {C : Nat → Int → Prop} {bad : Nat → Prop}
theorem Maps.below (h : Maps W ms k N C bad) (hb : Below W.heap.size W W1) : Maps W1 ms k N C bad:=fun j h1 h2 => by
  obtain ⟨b,L,h3,h4,h5,h6⟩:=h j h1 h2
  exact ⟨b,L,h3,h4,blk_below h5 hb,h6⟩
theorem Maps.kept {S : Nat → Prop} (h : Maps W ms k N C bad) (hk : Kept W W1 S) (hs : ∀ b,S b → bad b) : Maps W1 ms k N C bad:=fun j h1 h2 => by
  obtain ⟨b,L,h3,h4,h5,h6⟩:=h j h1 h2
  exact ⟨b,L,h3,h4,blk_kept h5 hk (fun e => h4 (hs b e)),h6⟩
theorem Maps.weak (h : Maps W ms k N C bad) : Maps W ms k N C (fun _ => False):=fun j h1 h2 => by
  obtain ⟨b,L,h3,h4,h5,h6⟩:=h j h1 h2
  exact ⟨b,L,h3,fun e => e,h5,h6⟩
theorem Maps.old (h : Maps W ms k N C bad) {g : Nat} (hg : W.heap.size ≤ g) : Maps W ms k N C (fun b => b = g):=fun j h1 h2 => by
  obtain ⟨b,L,h3,h4,h5,h6⟩:=h j h1 h2
  exact ⟨b,L,h3,fun e => by have:=blk_lt h5;omega,h5,h6⟩
/-- A store into a block of cells. -/
theorem Maps.cell (h : Maps W ms k N C bad) {g t : Nat} {cs : Array Value} (hg : W.heap[g]? = some (.cells cs t (0,0))) (j' : Nat) (u : Value) : Maps (W.setCell ⟨g,j',none⟩ u) ms k N C bad:=fun j h1 h2 => by
  obtain ⟨b,L,h3,h4,h5,h6⟩:=h j h1 h2
  exact ⟨b,L,h3,h4,(Below.heap_setCell W ⟨g,j',none⟩ u b (fun e => cells_map hg h5 e.symm)).trans h5,h6⟩
theorem Maps.set (h : Maps W ms k N C bad) {i : Nat} (hi : i < k) (m : Option Nat) : Maps W (ms.set i m) k N C bad:=fun j h1 h2 => by
  obtain ⟨b,L,h3,h4,h5,h6⟩:=h j h1 h2
  exact ⟨b,L,by rw [List.getElem?_set_ne (by omega)];exact h3,h4,h5,h6⟩
theorem Maps.more (h : Maps W ms (k + 1) N C bad) {b : Nat} {L : List (Int × Bool)} (h1 : ms[k]? = some (some b)) (h2 : W.heap[b]? = some (mobj (Value.int .i64) Value.bool L)) (h3 : MapIs L (C k)) : Maps W ms k N C (fun _ => False):=fun j h4 h5 => by
  by_cases e : j = k
  · subst e
    exact ⟨b,L,h1,fun e => e,h2,h3⟩
  · exact h.weak j (by omega) h5
/-- Behind an append to a row. -/
theorem Maps.grown {α : Type} {d : Kd α} {e base : Nat} {ok : Nat → Prop} {v : Value} {xs : List α} (h : Maps W ms k N C bad) (hr : d.R e W base ok v xs) (hg : W.grownBy W1 v.ownBlock) : Maps W1 ms k N C bad:=fun j h1 h2 => by
  obtain ⟨b,L,h3,h4,h5,h6⟩:=h j h1 h2
  refine ⟨b,L,h3,h4,blk_grown h5 hg (fun e => ?_),h6⟩
  obtain ⟨cs,hcs⟩:=Kd.Q_typed (Kd.Q_of_R hr) b e.symm
  exact cells_map hcs h5 rfl
end
theorem nth_of {ms : List (Option Nat)} {j b : Nat} (h : ms[j]? = some (some b)) : rdOf none ms (j : Int) = some b:=by
  unfold rdOf;rw [Int.toNat_natCast,List.getD_eq_getElem?_getD,h]
  rfl
theorem look_bool (o : Option Bool) : (o.map Value.bool).getD (.bool false) = .bool (o.getD false):=by cases o <;> rfl
open Classical in
/-- What a map in the slice answers. -/
theorem look_at {W : World} {b : Nat} {L : List (Int × Bool)} {C : Int → Prop} (h : W.heap[b]? = some (mobj (Value.int .i64) Value.bool L)) (hL : MapIs L C) (x : Int) : (Instr.lookup 101 (.map (some b)) (.int .i64 x) false).run Try.prog W = .ok (.bool (decide (C x))) W:=by
  have:=run_lk keyI Try.underlying101 (zeroB W) h x;rw [look_bool,hL x] at this;exact this
theorem can_cells {W : World} {base gs n cap : Nat} {ok : Nat → Prop} {xs : List (Option Nat)} (h : Kd.R km 101 W base ok (.slice (some ⟨gs,0,none⟩) n cap) xs) (hp : 0 < xs.length) : ∃ cs,W.heap[gs]? = some (.cells cs 101 (0,0)):=by
  obtain ⟨g,c,e,_,_,cs,hcs⟩:=Kd.R_form h hp
  injection e with e
  injection e with e
  injection e with e
  subst e;exact ⟨cs,hcs⟩
/-- One step back: who stands on a good way. -/
theorem still_step {w0 : Int} {c : List Int} {P : List (List Int)} {T : Int} {a N k kk : Nat} (hk : kk + 1 = k) (hkN : k ≤ N) (x : Int) : still w0 c P T a (N - kk) kk x ↔ (Pure.Fr c x ∧ ¬ (a ≤ kk ∧ ¬ x = T) ∧ ∃ y ∈ Pure.Gos w0 c x,still w0 c P T a (N - k) k y ∧ Pure.May P k x y):=by
  subst hk;rw [show N - kk = (N - (kk + 1)) + 1 by omega];simp only [still]
theorem can_put {W : World} {base gs n cap : Nat} {ok : Nat → Prop} {xs : List (Option Nat)} (h : Kd.R km 101 W base ok (.slice (some ⟨gs,0,none⟩) n cap) xs) (i b : Nat) : Kd.R km 101 (W.setCell ⟨gs,i,none⟩ (.map (some b))) base ok (.slice (some ⟨gs,0,none⟩) n cap) (xs.set i (some b)) ∧ W.grownBy (W.setCell ⟨gs,i,none⟩ (.map (some b))) (some gs):=by
  have:=Kd.R_putg h (i : Int) (some b);rw [Int.toNat_natCast] at this;exact this
theorem can_cell {W : World} {base gs n cap : Nat} {ok : Nat → Prop} {xs : List (Option Nat)} (h : Kd.R km 101 W base ok (.slice (some ⟨gs,0,none⟩) n cap) xs) (i : Nat) (hi : i < n) : W.cell? ⟨gs,i,none⟩ = some (.map (rdOf none xs (i : Int))) ∧ W.frozen? ⟨gs,i,none⟩ = false:=by
  have:=Kd.R_celln none h (i : Int) (by omega) (by omega);rw [Int.toNat_natCast] at this;exact this
open Classical in
/-- Where one stands at the tick kk; the next step is found. -/
theorem pos_step {w0 : Int} {c : List Int} {P : List (List Int)} {S T : Int} {a N kk : Nat} (hk : kk < N) (h : still w0 c P T a (N - kk) kk (gst w0 c P S T (fun k x => still w0 c P T a (N - k) k x) kk)) :
    (Pure.Gos w0 c (gst w0 c P S T (fun k x => still w0 c P T a (N - k) k x) kk)).find? (fun y => decide (still w0 c P T a (N - (kk + 1)) (kk + 1) y ∧ Pure.May P (kk + 1) (gst w0 c P S T (fun k x => still w0 c P T a (N - k) k x) kk) y)) = some (gst w0 c P S T (fun k x => still w0 c P T a (N - k) k x) (kk + 1)) ∧
    still w0 c P T a (N - (kk + 1)) (kk + 1) (gst w0 c P S T (fun k x => still w0 c P T a (N - k) k x) (kk + 1)) ∧ Pure.Fr c (gst w0 c P S T (fun k x => still w0 c P T a (N - k) k x) (kk + 1)):=by
  obtain ⟨_,_,y,h3,h4,h5⟩:=(still_step rfl hk _).1 h;simp only [gst];generalize gst w0 c P S T (fun k x => still w0 c P T a (N - k) k x) kk = x at h3 h5 ⊢;have hdef : good w0 c P (fun k x => still w0 c P T a (N - k) k x) (kk + 1) x = (Pure.Gos w0 c x).find? (fun y => decide (still w0 c P T a (N - (kk + 1)) (kk + 1) y ∧ Pure.May P (kk + 1) x y)):=rfl
  cases hg : good w0 c P (fun k x => still w0 c P T a (N - k) k x) (kk + 1) x with
  | none =>
    rw [hdef] at hg;have:=List.find?_eq_none.1 hg y h3;simp only [decide_eq_true_eq] at this;exact absurd ⟨h4,h5⟩ this
  | some z =>
    rw [hdef] at hg;refine ⟨hg,?_,Pure.Gos_free (List.mem_of_find?_eq_some hg)⟩;have:=List.find?_some hg;simp only [decide_eq_true_eq] at this;exact this.1
theorem row_cell {W : World} {base gp n cap : Nat} {ok : Nat → Prop} {xs : List Int} (h : Kd.R (Kd.int .i64) 3 W base ok (.slice (some ⟨gp,0,none⟩) n cap) xs) (i : Nat) (hi : i < n) {x : Int} (hx : xs.getD i 0 = x) : W.cell? ⟨gp,i,none⟩ = some (.int .i64 x):=by
  have:=(Kd.R_celln (0 : Int) h (i : Int) (by omega) (by omega)).1;rw [Int.toNat_natCast] at this;rw [this];unfold rdOf;rw [Int.toNat_natCast,hx]
theorem range_get (f : Nat → Int) {k i : Nat} (h : i < k) : ((List.range k).map f).getD i 0 = f i:=by
  rw [List.getD_eq_getElem?_getD,List.getElem?_map,List.getElem?_range h]
  rfl
open Classical in
set_option maxHeartbeats 8000000 in
set_option maxRecDepth 100000 in
theorem plan_walk (a0_0 : Int) (A0_1 : Option Addr) (c0_1 : Nat) (l0_1 : List Int) (a1_0 : Int) (a1_1 : Int) (N : Nat) (A3 : Option Addr) (c3 : Nat) (l3 : List (List Int)) (w : World) (hr0_1 : Kd.C (Kd.int .i64) w A0_1 l0_1.length l0_1) (hc0_1 : l0_1.length ≤ c0_1) (hr3 : Kd.C (Kd.slice 3 (Kd.int .i64)) w A3 l3.length l3) (hc3 : l3.length ≤ c3)
    (hCl : Pure.Cl a0_0 l0_1) (hFs : Pure.Fr l0_1 a1_0) (hFt : Pure.Fr l0_1 a1_1) (hN : N ≤ 20) (hl5 : l3.length ≤ 5) (hLen : ∀ p ∈ l3,p.length = N + 1) (hno : ∀ p ∈ l3,¬ Pure.PA p 0 = a1_0) (r : Option (List Int)) (hr : planI a0_0 l0_1 l3 a1_0 a1_1 N = r) :
    Calls Try.prog 61 #[.agg #[.int .i64 a0_0,.slice A0_1 l0_1.length c0_1],.agg #[.int .i64 a1_0,.int .i64 a1_1],.int .i64 N,.slice A3 l3.length c3] w fun e w' => ∃ v0_ : Value,e = .returned (.tuple #[v0_,.bool r.isSome]) ∧ Kd.R (Kd.int .i64) 3 w' w.heap.size (fun _ => True) v0_ (r.getD []) ∧ Below w.heap.size w w':=by
  have hu39:=Try.underlying39;have hu49:=Try.underlying49;have hu101:=Try.underlying101;have HR:=Aside0.mk hr0_1;have HC:=Aside0.mk hc0_1;have HR3:=Aside0.mk hr3;have HC3:=Aside0.mk hc3;have HCl:=Aside0.mk hCl;have HFs:=Aside0.mk hFs;have HFt:=Aside0.mk hFt;have HNN:=Aside0.mk hN;have HL5:=Aside0.mk hl5;have HLn:=Aside0.mk hLen;have HNo:=Aside0.mk hno;have HRes:=Aside0.mk hr;have HB:=Aside0.mk (Below.refl w.heap.size w);clear hr0_1 hc0_1 hr3 hc3 hCl hFs hFt hN hl5 hLen hno hr;go_enter Try.func61,Try.ntmps61
  go_wp2_with (first
    | ((with_reducible refine gate_dst (N:=4) rfl ?_);refine box_event ?hg (N:=4) ?hd (cs:=#[.int .i64 a0_0,.slice A0_1 l0_1.length c0_1]) (t:=39) ?hr ?_;(case hd => rfl);(case hg => rfl);(case hr => first | (go_simp;done) | (go_simp;rfl));intro g0 hg w1 hbox hb;have B0:=Aside0.mk (hbox);have G0:=Aside0.mk (show w.heap.size ≤ g0 by rw [hg];exact HB.out.size);replace HB:=Aside0.mk (below_step HB.out hb);clear hb hbox hg)
    | ((with_reducible refine gate_dst (N:=5) rfl ?_);refine box_event ?hg (N:=5) ?hd (cs:=#[.int .i64 a1_0,.int .i64 a1_1]) (t:=49) ?hr ?_;(case hd => rfl);(case hg => rfl);(case hr => first | (go_simp;done) | (go_simp;rfl));intro g1 hg w2 hbox hb;replace B0:=Aside0.mk (blk_below B0.out hb);have B1:=Aside0.mk (hbox);have G1:=Aside0.mk (show w.heap.size ≤ g1 by rw [hg];exact HB.out.size);replace HB:=Aside0.mk (below_step HB.out hb);clear hb hbox hg)
    | ((with_reducible refine gate_dst (N:=7) rfl ?_);refine box_event ?hg (N:=7) ?hd (cs:=#[.slice A3 l3.length c3]) (t:=27) ?hr ?_;(case hd => rfl);(case hg => rfl);(case hr => first | (go_simp;done) | (go_simp;rfl));intro gA hg w3 hbox hb;replace B0:=Aside0.mk (blk_below B0.out hb);replace B1:=Aside0.mk (blk_below B1.out hb);have BA:=Aside0.mk (hbox);have GA:=Aside0.mk (show w.heap.size ≤ gA by rw [hg];exact HB.out.size);replace HB:=Aside0.mk (below_step HB.out hb);clear hb hbox hg;have zgA_0 : w3.cell? ⟨gA,0,none⟩ = some (.slice A3 l3.length c3):=(blk_cell BA.out 0).trans rfl;have fzgA_0:=blk_frozen BA.out 0)
    | fail)
  clear zgA_0 fzgA_0
  go_loopg [26] l3.length (fun g v26 w' => ∃ i : Nat,v26 = .int .i64 i ∧ Aside0 (i + g = l3.length) ∧ Aside0 (w'.heap[g0]? = some (.cells #[.int .i64 a0_0,.slice A0_1 l0_1.length c0_1] 39 (0,0))) ∧ Aside0 (w'.heap[g1]? = some (.cells #[.int .i64 a1_0,.int .i64 a1_1] 49 (0,0))) ∧ Aside0 (w'.heap[gA]? = some (.cells #[.slice A3 l3.length c3] 27 (0,0))) ∧ Aside0 (Below w.heap.size w w'))
  case atStart => exact ⟨0,rfl,⟨Nat.zero_add _⟩,B0,B1,BA,HB⟩
  case round =>
   clear B0 B1 BA HB;obtain ⟨i,rfl,HI,B0,B1,BA,HB⟩:=hrel;by_cases ci : i < l3.length
   ·have cib : decide ((i : Int) < (l3.length : Int)) = true:=decide_eq_true (by omega)
    have cic : decide (i < l3.length) = true:=decide_eq_true ci;have CI:=Aside0.mk ci;obtain ⟨ad,Ai,cI,e_,hx,hl_,hi_⟩:=at_L1 HR3.out (i : Int) (by omega) (by omega)
    cases e_
    rw [Int.toNat_natCast] at hx;replace hx:=pw_cell_below HB.out hx;have hpl : (rd_L1 l3 (i : Int)).length = N + 1:=HLn.out _ (by unfold rd_L1;exact EvKit.getD_mem l3 i [] ci);have hne : ¬ rd (rd_L1 l3 (i : Int)) 0 = a1_0:=HNo.out _ (by unfold rd_L1;exact EvKit.getD_mem l3 i [] ci);generalize rd_L1 l3 (i : Int) = p at hx hl_ hi_ hpl hne;obtain ⟨ad2,e2,hy1⟩:=Kd.at_int hi_ 0 (by omega) (by omega);cases e2;replace hy1:=pw_cell_below HB.out hy1;simp only [Int.toNat_zero,Addr.add_zero'] at hy1;have e0b : (rd p 0 == a1_0) = false:=beq_eq_false_iff_ne.2 hne;generalize rd p 0 = q at hy1 e0b;have hin1 : (0 < p.length) = True:=eq_true (by omega);have hin2 : ((0 : Int) < (p.length : Int)) = True:=eq_true (by omega);(have hw_ : wrap64 ((i : Int) + 1) = ((i + 1 : Nat) : Int):=by rw [EvKit.wrap64_id (by have:=HL5.out;omega) (by have:=HL5.out;omega)];omega);have HW:=Aside0.mk hw_;have hct:=eq_true ci;clear hw_ ci hi_ hl_ hpl hne;have zg1_0 : wr.cell? ⟨g1,0,none⟩ = some (.int .i64 a1_0):=(blk_cell B1.out 0).trans rfl;have fzg1_0:=blk_frozen B1.out 0;have zg1_1 : wr.cell? ⟨g1,1,none⟩ = some (.int .i64 a1_1):=(blk_cell B1.out 1).trans rfl;have fzg1_1:=blk_frozen B1.out 1;go_wp2_with fail
    go_quiet (fail)
    (try go_wp2);rw [HW.out];go_roundg (gk - 1)
    case measure => have:=HI.out;have:=CI.out;omega
    case rel => exact ⟨i + 1,rfl,⟨by have:=HI.out;have:=CI.out;omega⟩,⟨bk_ B0.out⟩,⟨bk_ B1.out⟩,⟨bk_ BA.out⟩,⟨hb_⟩⟩
   ·have cib : decide ((i : Int) < (l3.length : Int)) = false:=decide_eq_false (by omega)
    have cic : decide (i < l3.length) = false:=decide_eq_false ci;clear ci;go_wp2_with fail;obtain ⟨fr,hfr⟩ : ∃ fr,(List.range (N + 1)).find? (fun a => decide (still a0_0 l0_1 l3 a1_1 a N 0 a1_0)) = fr:=⟨_,rfl⟩;have HFr:=Aside0.mk (show ((List.range (N + 1)).drop 0).find? (fun a => decide (still a0_0 l0_1 l3 a1_1 a N 0 a1_0)) = fr from hfr);have HFr0:=Aside0.mk hfr;clear hfr;obtain ⟨wa,rfl⟩ : ∃ wa : World,wa = wr:=⟨_,rfl⟩
    go_loopg [13] (N + 1) (fun g v13 w' => ∃ a : Nat,v13 = .int .i64 a ∧ Aside0 (a + g = N + 1) ∧ Aside0 (((List.range (N + 1)).drop a).find? (fun a => decide (still a0_0 l0_1 l3 a1_1 a N 0 a1_0)) = fr) ∧ Aside0 (w'.heap[g0]? = some (.cells #[.int .i64 a0_0,.slice A0_1 l0_1.length c0_1] 39 (0,0))) ∧ Aside0 (w'.heap[g1]? = some (.cells #[.int .i64 a1_0,.int .i64 a1_1] 49 (0,0))) ∧ Aside0 (w'.heap[gA]? = some (.cells #[.slice A3 l3.length c3] 27 (0,0))) ∧ Aside0 (Below w.heap.size w w'))
    case atStart => exact ⟨0,rfl,⟨Nat.zero_add _⟩,HFr,B0,B1,BA,HB⟩
    case round =>
     clear HFr B0 B1 BA HB;obtain ⟨a,rfl,HI,HFr,B0,B1,BA,HB⟩:=hrel;obtain ⟨wb,rfl⟩ : ∃ wb : World,wb = wr:=⟨_,rfl⟩;by_cases ca : a ≤ N
     case neg =>
      have cab : decide ((a : Int) ≤ (N : Int)) = false:=decide_eq_false (by omega);have cac : decide (a ≤ N) = false:=decide_eq_false ca;have hfr:=HFr.out;rw [List.drop_eq_nil_of_le (by simp;omega)] at hfr;have hfr2 : fr = none:=hfr.symm
      have hrn : r = none:=by
        rw [← HRes.out];unfold planI;rw [if_neg (fun ⟨p,hp,e⟩ => HNo.out p hp e),HFr0.out,hfr2]
        rfl
      subst hrn;clear ca hfr hfr2;go_wp2_with fail
      go_ret2
      exact ⟨_,rfl,Kd.R_nil _ _ _ _ _,HB.out⟩
     case pos =>
     have cab : decide ((a : Int) ≤ (N : Int)) = true:=decide_eq_true (by omega);have cac : decide (a ≤ N) = true:=decide_eq_true ca;have CA:=Aside0.mk ca;clear ca;(have hwN : wrap64 ((N : Int) + 1) = ((N + 1 : Nat) : Int):=by rw [EvKit.wrap64_id (by have:=HNN.out;omega) (by have:=HNN.out;omega)];omega);have HWN:=Aside0.mk hwN;(have hN0 : (0 : Int) ≤ (N : Int) + 1:=by omega);(have hN20 : (N : Int) ≤ 20:=by have:=HNN.out;omega);clear hwN;have HBb:=Aside0.mk HB.out.size
     go_wp2_with (first
       | ((with_reducible refine gate_dst (N:=44) rfl ?_);refine Kd.R_make km _ 101 rfl (N:=44) rfl 100 _ _ rfl ((N : Int) + 1) ?hx ?hy Try.underlying100 (.map none) 8 info101 rfl (by decide) (by omega) none (ok:=fun _ => True) (okp:=fun _ => True) rfl (fun _ hk => hk) trivial hN0 ?hl (Below.refl _ _) (Nat.le_refl _) ?_;(case hx => first | rfl | exact congrArg _ HWN.out);(case hy => first | rfl | exact congrArg _ HWN.out);(case hl => omega);intro v4 w4 ho hb hg_ hnew_;clear hg_ hnew_;rw [show ((N : Int) + 1).toNat = N + 1 by omega] at ho;obtain ⟨ms0,hms0⟩ : ∃ m,m = List.replicate (N + 1) (none : Option Nat):=⟨_,rfl⟩;rw [← hms0] at ho;have HMl:=Aside0.mk (show ms0.length = N + 1 by rw [hms0];simp);replace B0:=Aside0.mk (blk_below B0.out hb);replace B1:=Aside0.mk (blk_below B1.out hb);replace BA:=Aside0.mk (blk_below BA.out hb);replace HB:=Aside0.mk (below_step HB.out hb);obtain ⟨gs,cap,e4,hgs1,hgs2,_⟩:=Kd.R_form ho (by have:=HMl.out;omega);subst e4;have HCan:=Aside0.mk (show Kd.R km 101 w4 w.heap.size (fun k => some k = some gs) (.slice (some ⟨gs,0,none⟩) ms0.length cap) ms0 from Kd.R_mono (Kd.R_lower (Kd.R_tight rfl ho) HBb.out) (fun k hk => hk));have HGs:=Aside0.mk (Nat.le_trans HBb.out hgs1);clear ho hb hgs1 hgs2 hms0)
       | ((with_reducible refine gate_dst (N:=47) rfl ?_);refine make_event (t:=101) ?hg (N:=47) ?hd ?ho (Value.int .i64) Value.bool ?_;(case hd => rfl);(case hg => rfl);(case ho => rfl);intro bN hg w5 hbox hb;have GN:=Aside0.mk (show w.heap.size ≤ bN by rw [hg];exact HB.out.size);replace B0:=Aside0.mk (blk_below B0.out hb);replace B1:=Aside0.mk (blk_below B1.out hb);replace BA:=Aside0.mk (blk_below BA.out hb);replace HCan:=Aside0.mk (Kd.R_below HCan.out hb);have M:=Aside0.mk (hbox);replace HB:=Aside0.mk (below_step HB.out hb);clear hb hbox hg;have zg1_0 : w5.cell? ⟨g1,0,none⟩ = some (.int .i64 a1_0):=(blk_cell B1.out 0).trans rfl;have fzg1_0:=blk_frozen B1.out 0;have zg1_1 : w5.cell? ⟨g1,1,none⟩ = some (.int .i64 a1_1):=(blk_cell B1.out 1).trans rfl;have fzg1_1:=blk_frozen B1.out 1)
       | ((with_reducible refine gate_insert (t:=101) (m:=.tmp 47) (x:=.tmp 49) rfl ?_);refine put_event (P:=Try.prog) ?hg ?hN (.inr rfl) keyI Try.underlying101 M.out a1_1 true ?hm ?hx ?hv HB.out GN.out ?_;(case hg => rfl);(case hN => rfl);(case hm => rfl);(case hx => rfl);(case hv => rfl);intro w6 hM hk hb;clear zg1_0 fzg1_0 zg1_1 fzg1_1;obtain ⟨csg_,hgs_⟩:=can_cells HCan.out (by have:=HMl.out;omega);replace B0:=Aside0.mk (blk_kept B0.out hk (cells_map B0.out M.out));replace B1:=Aside0.mk (blk_kept B1.out hk (cells_map B1.out M.out));replace BA:=Aside0.mk (blk_kept BA.out hk (cells_map BA.out M.out));replace HCan:=Aside0.mk (Kd.R_kept HCan.out hk (fun k h1 h2 => by injection h1 with h1;exact cells_map hgs_ M.out (h1.symm.trans h2)));replace M:=Aside0.mk (hM);replace HB:=Aside0.mk (hb);clear hM hk hb hgs_;have hcl_:=can_cell HCan.out N (by have:=HMl.out;omega);have hcn_:=hcl_.1;have hfn_:=hcl_.2;have hi1_ : ((N : Int) < (ms0.length : Int)) = True:=eq_true (by have:=HMl.out;omega);have hi2_ : (N < ms0.length) = True:=eq_true (by have:=HMl.out;omega);clear hcl_)
       | ((with_reducible refine gate_store (t:=101) (p:=51) rfl ?_);have HP:=can_put HCan.out (N) (bN);refine store_event (t:=101) (p:=51) (v:=?vo_w7) (w1:=(w6.setCell ⟨gs,N,none⟩ (.map (some bN)))) ?hg ?ho ?hn ?hr ?_;(case ho => rfl);(case hg => rfl);(case hn => rfl);(case hr => first | (go_simp;done) | (go_simp;rfl));intro w7 hw;have hg : w6.grownBy w7 (some gs):=(by rw [hw];exact HP.2);obtain ⟨csg_,hgs_⟩:=can_cells HCan.out (by have:=HMl.out;omega);replace B0:=Aside0.mk (blk_grown B0.out hg (Kd.R_ne HCan.out B0.out (by decide)));replace B1:=Aside0.mk (blk_grown B1.out hg (Kd.R_ne HCan.out B1.out (by decide)));replace BA:=Aside0.mk (blk_grown BA.out hg (Kd.R_ne HCan.out BA.out (by decide)));replace M:=Aside0.mk ((by rw [hw];exact (Below.heap_setCell _ ⟨gs,N,none⟩ _ _ (fun e => cells_map hgs_ M.out e.symm)).trans M.out : w7.heap[bN]? = some (mobj (Value.int .i64) Value.bool (put [] a1_1 true))));replace HCan:=Aside0.mk ((by rw [hw];exact HP.1 : Kd.R km 101 w7 w.heap.size (fun k => some k = some gs) (.slice (some ⟨gs,0,none⟩) ms0.length cap) (ms0.set N (some bN))));replace HB:=Aside0.mk ((by rw [hw];exact below_set HB.out HGs.out : Below w.heap.size w w7));clear hg hw HP hgs_;clear hcn_ hfn_ hi1_ hi2_)
       | fail)
     have HMs : Aside0 (Maps w7 (ms0.set N (some bN)) N N (fun j x => still a0_0 l0_1 l3 a1_1 a (N - j) j x) (fun _ => False)):=⟨fun j h1 h2 => by
       obtain rfl : j = N:=by omega
       refine ⟨bN,_,by rw [List.getElem?_set_self (by have:=HMl.out;omega)],fun e => e,M.out,?_⟩;(have e0 : (fun x => still a0_0 l0_1 l3 a1_1 a (j - j) j x) = fun x => x = a1_1:=by rw [Nat.sub_self];rfl)
       show MapIs _ (fun x => still a0_0 l0_1 l3 a1_1 a (j - j) j x)
       rw [e0]
       exact (MapIs.nil (C:=fun _ => False) (fun _ h => h)).put rfl (fun x hx => ⟨False.elim,fun h => hx h⟩)⟩
     have HMlen : Aside0 ((ms0.set N (some bN)).length = N + 1):=⟨by rw [List.length_set];exact HMl.out⟩;generalize ms0.set N (some bN) = ms1 at HMs HMlen HCan;clear M;obtain ⟨wx,rfl⟩ : ∃ wx : World,wx = w7:=⟨_,rfl⟩;have HGa:=Aside0.mk (Nat.le_refl gk);obtain ⟨ga,hga⟩ : ∃ ga,ga = gk:=⟨_,rfl⟩;have HGae:=Aside0.mk hga;clear hga HGa
     go_loopg [15] N (fun g v15 w' => ∃ (k : Nat) (ms : List (Option Nat)),v15 = .int .i64 k ∧ Aside0 (k = g) ∧ Aside0 (k ≤ N) ∧ Aside0 (Kd.R km 101 w' w.heap.size (fun k => some k = some gs) (.slice (some ⟨gs,0,none⟩) ms0.length cap) ms) ∧ Aside0 (ms.length = N + 1) ∧ Aside0 (Maps w' ms k N (fun j x => still a0_0 l0_1 l3 a1_1 a (N - j) j x) (fun _ => False)) ∧ Aside0 (w'.heap[g0]? = some (.cells #[.int .i64 a0_0,.slice A0_1 l0_1.length c0_1] 39 (0,0))) ∧ Aside0 (w'.heap[g1]? = some (.cells #[.int .i64 a1_0,.int .i64 a1_1] 49 (0,0))) ∧ Aside0 (w'.heap[gA]? = some (.cells #[.slice A3 l3.length c3] 27 (0,0))) ∧ Aside0 (Below w.heap.size w w'))
     case atStart => exact ⟨N,ms1,rfl,⟨rfl⟩,⟨Nat.le_refl _⟩,HCan,HMlen,HMs,B0,B1,BA,HB⟩
     case round =>
      clear HCan HMlen HMs B0 B1 BA HB;obtain ⟨k,ms,rfl,HKg,HKN,HCan,HMlen,HMs,B0,B1,BA,HB⟩:=hrel;obtain ⟨wc,rfl⟩ : ∃ wc : World,wc = wr:=⟨_,rfl⟩;obtain ⟨gkk,hgx⟩ : ∃ gx,gx = gk:=⟨_,rfl⟩;have HGke:=Aside0.mk hgx;clear hgx;by_cases ck : 0 < k
      ·have ckb : decide ((0 : Int) < (k : Int)) = true:=decide_eq_true (by omega)
       have ckc : decide (0 < k) = true:=decide_eq_true ck;obtain ⟨kk,hkk⟩ : ∃ kk,kk + 1 = k:=⟨k - 1,by omega⟩;have HKk:=Aside0.mk hkk;obtain ⟨q,hq⟩ : ∃ q : Int,q = (kk : Int):=⟨_,rfl⟩;have HQ:=Aside0.mk hq;(have hkq : wrap64 ((k : Int) - 1) = q:=by rw [EvKit.wrap64_id (by omega) (by have:=HKN.out;have:=HNN.out;omega)];omega);have HKq:=Aside0.mk hkq;have hq0 : ((0 : Int) ≤ q) = True:=eq_true (by omega);have hqm : (q < (ms0.length : Int)) = True:=eq_true (by have:=HKN.out;have:=HMl.out;omega);have HQa:=Aside0.mk (show (0 : Int) ≤ q by omega);have hkm : ((k : Int) < (ms0.length : Int)) = True:=eq_true (by have:=HKN.out;have:=HMl.out;omega);have hkm2 : (k < ms0.length) = True:=eq_true (by have:=HKN.out;have:=HMl.out;omega);(have eqk : q.toNat = kk:=by omega);have HEk:=Aside0.mk eqk;clear ck hkk hq
       go_wp2_with (first
         | ((with_reducible refine gate_dst (N:=60) rfl ?_);refine make_event (t:=101) ?hg (N:=60) ?hd ?ho (Value.int .i64) Value.bool ?_;(case hd => rfl);(case hg => rfl);(case ho => rfl);intro bm hg w8 hbox hb;have GM:=Aside0.mk (show w.heap.size ≤ bm by rw [hg];exact HB.out.size);have nm_:=Aside0.mk ((Maps.old HMs.out (Nat.le_of_eq hg.symm)).below hb);clear HMs;replace B0:=Aside0.mk (blk_below B0.out hb);replace B1:=Aside0.mk (blk_below B1.out hb);replace BA:=Aside0.mk (blk_below BA.out hb);replace HCan:=Aside0.mk (Kd.R_below HCan.out hb);have M:=Aside0.mk (hbox);replace HB:=Aside0.mk (below_step HB.out hb);have HMs:=nm_;clear nm_;clear hb hbox hg;have hcl_:=can_cell HCan.out kk (by have:=HKN.out;have:=HKk.out;have:=HMl.out;omega);have hcn_:=hcl_.1;have hfn_:=hcl_.2;clear hcl_)
         | ((with_reducible refine gate_store (t:=101) (p:=61) rfl ?_);have HP:=can_put HCan.out (kk) (bm);refine store_event (t:=101) (p:=61) (v:=?vo_w9) (w1:=(w8.setCell ⟨gs,kk,none⟩ (.map (some bm)))) ?hg ?ho ?hn ?hr ?_;(case ho => rfl);(case hg => rfl);(case hn => rfl);(case hr => first | (go_simp;done) | (go_simp;rfl));intro w9 hw;have hg : w8.grownBy w9 (some gs):=(by rw [hw];exact HP.2);obtain ⟨csg_,hgs_⟩:=can_cells HCan.out (by have:=HMlen.out;omega);replace B0:=Aside0.mk (blk_grown B0.out hg (Kd.R_ne HCan.out B0.out (by decide)));replace B1:=Aside0.mk (blk_grown B1.out hg (Kd.R_ne HCan.out B1.out (by decide)));replace BA:=Aside0.mk (blk_grown BA.out hg (Kd.R_ne HCan.out BA.out (by decide)));replace M:=Aside0.mk ((by rw [hw];exact (Below.heap_setCell _ ⟨gs,kk,none⟩ _ _ (fun e => cells_map hgs_ M.out e.symm)).trans M.out : w9.heap[bm]? = some (mobj (Value.int .i64) Value.bool [])));replace HMs:=Aside0.mk (((by rw [hw];exact Maps.cell HMs.out hgs_ _ _) : Maps w9 ms k N (fun j x => still a0_0 l0_1 l3 a1_1 a (N - j) j x) (fun b => b = bm)));replace HCan:=Aside0.mk ((by rw [hw];exact HP.1 : Kd.R km 101 w9 w.heap.size (fun k => some k = some gs) (.slice (some ⟨gs,0,none⟩) ms0.length cap) (ms.set kk (some bm))));replace HB:=Aside0.mk ((by rw [hw];exact below_set HB.out HGs.out : Below w.heap.size w w9));clear hg hw HP hgs_;clear hcn_ hfn_;have zg0_0 : w9.cell? ⟨g0,0,none⟩ = some (.int .i64 a0_0):=(blk_cell B0.out 0).trans rfl;have fzg0_0:=blk_frozen B0.out 0;have zg0_1 : w9.cell? ⟨g0,1,none⟩ = some (.slice A0_1 l0_1.length c0_1):=(blk_cell B0.out 1).trans rfl;have fzg0_1:=blk_frozen B0.out 1)
         | fail)
       have hms2 : (ms.set kk (some bm))[kk]? = some (some bm):=List.getElem?_set_self (by have:=HMlen.out;have:=HKN.out;have:=HKk.out;omega);have HMk:=Aside0.mk hms2;have n1_:=Aside0.mk (Maps.set HMs.out (i:=kk) (by have:=HKk.out;omega) (some bm));have n2_ : Aside0 ((ms.set kk (some bm)).length = N + 1):=⟨by rw [List.length_set];exact HMlen.out⟩;generalize ms.set kk (some bm) = ms2 at HMk HCan n1_ n2_;clear HMs HMlen hms2;have HMs:=n1_;have HMlen:=n2_;clear n1_ n2_
       have HL0 : Aside0 (MapIs [] (fun x => x < ((0 : Nat) : Int) ∧ still a0_0 l0_1 l3 a1_1 a (N - kk) kk x)):=⟨MapIs.nil (fun x h => by
         have hf:=((still_step HKk.out HKN.out x).1 h.2).1.1;have:=h.1
         omega)⟩
       have HNc:=Aside0.mk HCl.out.n256
       go_loopg [65] l0_1.length (fun g v65 w' => ∃ (x : Nat) (L : List (Int × Bool)),v65 = .int .i64 x ∧ Aside0 (x + g = l0_1.length) ∧ Aside0 (MapIs L (fun z => z < (x : Int) ∧ still a0_0 l0_1 l3 a1_1 a (N - kk) kk z)) ∧ Aside0 (w'.heap[bm]? = some (mobj (Value.int .i64) Value.bool L)) ∧ Aside0 (Kd.R km 101 w' w.heap.size (fun k => some k = some gs) (.slice (some ⟨gs,0,none⟩) ms0.length cap) ms2) ∧ Aside0 (ms2.length = N + 1) ∧ Aside0 (Maps w' ms2 k N (fun j x => still a0_0 l0_1 l3 a1_1 a (N - j) j x) (fun b => b = bm)) ∧ Aside0 (w'.heap[g0]? = some (.cells #[.int .i64 a0_0,.slice A0_1 l0_1.length c0_1] 39 (0,0))) ∧ Aside0 (w'.heap[g1]? = some (.cells #[.int .i64 a1_0,.int .i64 a1_1] 49 (0,0))) ∧ Aside0 (w'.heap[gA]? = some (.cells #[.slice A3 l3.length c3] 27 (0,0))) ∧ Aside0 (Below w.heap.size w w'))
       case atStart => exact ⟨0,[],rfl,⟨Nat.zero_add _⟩,HL0,M,HCan,HMlen,HMs,B0,B1,BA,HB⟩
       case round =>
        clear HL0 M HCan HMlen HMs B0 B1 BA HB;obtain ⟨x,L,rfl,HXg,HL,M,HCan,HMlen,HMs,B0,B1,BA,HB⟩:=hrel;obtain ⟨wd,rfl⟩ : ∃ wd : World,wd = wr:=⟨_,rfl⟩;obtain ⟨gx,hgx⟩ : ∃ gx,gx = gk:=⟨_,rfl⟩;have HGxe:=Aside0.mk hgx;clear hgx;by_cases cx : x < l0_1.length
        ·have cxb : decide ((x : Int) < (l0_1.length : Int)) = true:=decide_eq_true (by omega)
         have cxc : decide (x < l0_1.length) = true:=decide_eq_true cx;have CX:=Aside0.mk cx;(have hw_ : wrap64 ((x : Int) + 1) = ((x + 1 : Nat) : Int):=by rw [EvKit.wrap64_id (by omega) (by have:=HNc.out;omega)];omega);have HWx:=Aside0.mk hw_;have HFx:=Aside0.mk (Pure.free_impl a0_0 l0_1 (x : Int));have hss:=still_step (w0:=a0_0) (c:=l0_1) (P:=l3) (T:=a1_1) (a:=a) HKk.out HKN.out (x : Int);have HSS:=Aside0.mk hss;clear hw_ cx hss;have zg0_0 : wd.cell? ⟨g0,0,none⟩ = some (.int .i64 a0_0):=(blk_cell B0.out 0).trans rfl;have fzg0_0:=blk_frozen B0.out 0;have zg0_1 : wd.cell? ⟨g0,1,none⟩ = some (.slice A0_1 l0_1.length c0_1):=(blk_cell B0.out 1).trans rfl;have fzg0_1:=blk_frozen B0.out 1;have zg1_0 : wd.cell? ⟨g1,0,none⟩ = some (.int .i64 a1_0):=(blk_cell B1.out 0).trans rfl;have fzg1_0:=blk_frozen B1.out 0;have zg1_1 : wd.cell? ⟨g1,1,none⟩ = some (.int .i64 a1_1):=(blk_cell B1.out 1).trans rfl;have fzg1_1:=blk_frozen B1.out 1
         have hskip : ¬ still a0_0 l0_1 l3 a1_1 a (N - kk) kk (x : Int) → MapIs L (fun z => z < ((x + 1 : Nat) : Int) ∧ still a0_0 l0_1 l3 a1_1 a (N - kk) kk z):=fun h => HL.out.congr (fun z => ⟨fun hz => ⟨by have:=hz.1;omega,hz.2⟩,fun hz => ⟨by
           have h1:=hz.1;by_cases e : z = (x : Int)
           · exact absurd (e ▸ hz.2) h
           · omega,hz.2⟩⟩)
         have HSkip:=Aside0.mk hskip;clear hskip;by_cases cf : Pure.Fr l0_1 (x : Int)
         case neg =>
          rw [decide_eq_false cf] at HFx;have HL2:=Aside0.mk (HSkip.out (fun h => cf (HSS.out.1 h).1));clear cf
          go_wp2_with (first
            | (go_at_call 55;(with_reducible refine (impl_Cells_free.calls a0_0 A0_1 c0_1 l0_1 (x : Int) false _ ?s1 HC.out HFx.out).mono ?_);(case s1 => exact Kd.C_below HR.out HB.out);rintro e w10 ⟨rfl,hb⟩;clear zg0_0 fzg0_0 zg0_1 fzg0_1;clear zg1_0 fzg1_0 zg1_1 fzg1_1;replace B0:=Aside0.mk (blk_below B0.out hb);replace B1:=Aside0.mk (blk_below B1.out hb);replace BA:=Aside0.mk (blk_below BA.out hb);replace HCan:=Aside0.mk (Kd.R_below HCan.out hb);replace HMs:=Aside0.mk (Maps.below HMs.out hb);replace M:=Aside0.mk (blk_below M.out hb);replace HB:=Aside0.mk (below_step HB.out hb);clear hb;have zg0_0 : w10.cell? ⟨g0,0,none⟩ = some (.int .i64 a0_0):=(blk_cell B0.out 0).trans rfl;have fzg0_0:=blk_frozen B0.out 0;have zg0_1 : w10.cell? ⟨g0,1,none⟩ = some (.slice A0_1 l0_1.length c0_1):=(blk_cell B0.out 1).trans rfl;have fzg0_1:=blk_frozen B0.out 1;have zg1_0 : w10.cell? ⟨g1,0,none⟩ = some (.int .i64 a1_0):=(blk_cell B1.out 0).trans rfl;have fzg1_0:=blk_frozen B1.out 0;have zg1_1 : w10.cell? ⟨g1,1,none⟩ = some (.int .i64 a1_1):=(blk_cell B1.out 1).trans rfl;have fzg1_1:=blk_frozen B1.out 1)
            | fail)
          rw [HWx.out];go_roundg (gk - 1)
          case measure => have:=HXg.out;have:=CX.out;omega
          case rel => exact ⟨x + 1,L,rfl,⟨by have:=HXg.out;have:=CX.out;omega⟩,HL2,M,HCan,HMlen,HMs,B0,B1,BA,HB⟩
         case pos =>
          rw [decide_eq_true cf] at HFx;have HF:=Aside0.mk cf;clear cf;by_cases cs : a ≤ kk ∧ ¬ (x : Int) = a1_1
          case pos =>
           have hd1 : decide ((a : Int) ≤ q) = true:=decide_eq_true (by have:=HQ.out;omega);have hd2 : ((x : Int) != a1_1) = true:=bne_iff_ne.2 cs.2;have hd3 : ((x : Int) == a1_1) = false:=beq_eq_false_iff_ne.2 cs.2;have HL2:=Aside0.mk (HSkip.out (fun h => (HSS.out.1 h).2.1 cs));clear cs
           go_wp2_with (first
             | (go_at_call 55;(with_reducible refine (impl_Cells_free.calls a0_0 A0_1 c0_1 l0_1 (x : Int) true _ ?s1 HC.out HFx.out).mono ?_);(case s1 => exact Kd.C_below HR.out HB.out);rintro e w10 ⟨rfl,hb⟩;clear zg0_0 fzg0_0 zg0_1 fzg0_1;clear zg1_0 fzg1_0 zg1_1 fzg1_1;replace B0:=Aside0.mk (blk_below B0.out hb);replace B1:=Aside0.mk (blk_below B1.out hb);replace BA:=Aside0.mk (blk_below BA.out hb);replace HCan:=Aside0.mk (Kd.R_below HCan.out hb);replace HMs:=Aside0.mk (Maps.below HMs.out hb);replace M:=Aside0.mk (blk_below M.out hb);replace HB:=Aside0.mk (below_step HB.out hb);clear hb;have zg0_0 : w10.cell? ⟨g0,0,none⟩ = some (.int .i64 a0_0):=(blk_cell B0.out 0).trans rfl;have fzg0_0:=blk_frozen B0.out 0;have zg0_1 : w10.cell? ⟨g0,1,none⟩ = some (.slice A0_1 l0_1.length c0_1):=(blk_cell B0.out 1).trans rfl;have fzg0_1:=blk_frozen B0.out 1;have zg1_0 : w10.cell? ⟨g1,0,none⟩ = some (.int .i64 a1_0):=(blk_cell B1.out 0).trans rfl;have fzg1_0:=blk_frozen B1.out 0;have zg1_1 : w10.cell? ⟨g1,1,none⟩ = some (.int .i64 a1_1):=(blk_cell B1.out 1).trans rfl;have fzg1_1:=blk_frozen B1.out 1)
             | fail)
           rw [HWx.out];go_roundg (gk - 1)
           case measure => have:=HXg.out;have:=CX.out;omega
           case rel => exact ⟨x + 1,L,rfl,⟨by have:=HXg.out;have:=CX.out;omega⟩,HL2,M,HCan,HMlen,HMs,B0,B1,BA,HB⟩
          case neg =>
           have HCs:=Aside0.mk cs
           have hcs : (decide ((a : Int) ≤ q) = false) ∨ (decide ((a : Int) ≤ q) = true ∧ ((x : Int) != a1_1) = false ∧ ((x : Int) == a1_1) = true):=by
            have:=HQ.out;by_cases h1 : a ≤ kk
            · have h2 : (x : Int) = a1_1:=Classical.byContradiction fun h => cs ⟨h1,h⟩
              exact .inr ⟨decide_eq_true (by omega),by simp [h2],by simp [h2]⟩
            · exact .inl (decide_eq_false (by omega))
           obtain ⟨k2,hk2⟩:=Ev.rounds (Pure.goes_ev HCl.out HF.out).1;obtain ⟨l,hl⟩ : ∃ l,l = Pure.Gos a0_0 l0_1 (x : Int):=⟨_,rfl⟩;rw [← hl] at hk2;have HK2:=Aside0.mk hk2;have HLg:=Aside0.mk hl;have HLl:=Aside0.mk (show l.length ≤ 100 by rw [hl];exact Pure.Gos_len _ _ _);have HL0 : Aside0 (MapIs L (fun z => (z < (x : Int) ∧ still a0_0 l0_1 l3 a1_1 a (N - kk) kk z) ∨ (z = (x : Int) ∧ ∃ y ∈ l.take 0,still a0_0 l0_1 l3 a1_1 a (N - k) k y ∧ Pure.May l3 k (x : Int) y))):=⟨HL.out.congr (fun z => ⟨.inl,fun h => h.elim id (fun h => by obtain ⟨y,hy,_⟩:=h.2;simp at hy)⟩)⟩;clear cs hk2 hl HL HSkip;have hgmx_:=blk_lt M.out;have HGmx:=Aside0.mk hgmx_;clear hgmx_
           rcases hcs with e1 | ⟨e1,e2,e3⟩
           all_goals
            go_wp2_with (first
              | (go_at_call 55;(with_reducible refine (impl_Cells_free.calls a0_0 A0_1 c0_1 l0_1 (x : Int) true _ ?s1 HC.out HFx.out).mono ?_);(case s1 => exact Kd.C_below HR.out HB.out);rintro e w10 ⟨rfl,hb⟩;clear zg0_0 fzg0_0 zg0_1 fzg0_1;clear zg1_0 fzg1_0 zg1_1 fzg1_1;replace B0:=Aside0.mk (blk_below B0.out hb);replace B1:=Aside0.mk (blk_below B1.out hb);replace BA:=Aside0.mk (blk_below BA.out hb);replace HCan:=Aside0.mk (Kd.R_below HCan.out hb);replace HMs:=Aside0.mk (Maps.below HMs.out hb);replace M:=Aside0.mk (blk_below M.out hb);replace HB:=Aside0.mk (below_step HB.out hb);clear hb;have zg0_0 : w10.cell? ⟨g0,0,none⟩ = some (.int .i64 a0_0):=(blk_cell B0.out 0).trans rfl;have fzg0_0:=blk_frozen B0.out 0;have zg0_1 : w10.cell? ⟨g0,1,none⟩ = some (.slice A0_1 l0_1.length c0_1):=(blk_cell B0.out 1).trans rfl;have fzg0_1:=blk_frozen B0.out 1;have zg1_0 : w10.cell? ⟨g1,0,none⟩ = some (.int .i64 a1_0):=(blk_cell B1.out 0).trans rfl;have fzg1_0:=blk_frozen B1.out 0;have zg1_1 : w10.cell? ⟨g1,1,none⟩ = some (.int .i64 a1_1):=(blk_cell B1.out 1).trans rfl;have fzg1_1:=blk_frozen B1.out 1)
              | (go_at_call 58;(with_reducible refine (impl_Cells_goes.calls k2 a0_0 A0_1 c0_1 l0_1 (x : Int) l _ ?s1 HC.out HK2.out).mono ?_);(case s1 => exact Kd.C_below HR.out HB.out);rintro e w11 ⟨v11,rfl,ho,hb⟩;clear zg0_0 fzg0_0 zg0_1 fzg0_1;clear zg1_0 fzg1_0 zg1_1 fzg1_1;have hbm_:=blk_lt M.out;have n9_:=Aside0.mk (Kd.R_mono (Kd.R_bound ho) (fun k hk => (⟨Nat.lt_of_lt_of_le hbm_ hk.2.1⟩ : Aside0 (bm < k))));have HBx:=Aside0.mk HB.out.size;replace B0:=Aside0.mk (blk_below B0.out hb);replace B1:=Aside0.mk (blk_below B1.out hb);replace BA:=Aside0.mk (blk_below BA.out hb);replace HCan:=Aside0.mk (Kd.R_below HCan.out hb);replace HMs:=Aside0.mk (Maps.below HMs.out hb);replace M:=Aside0.mk (blk_below M.out hb);replace HB:=Aside0.mk (below_step HB.out hb);have HN:=Aside0.mk (show Kd.R (Kd.int .i64) 3 w11 w.heap.size (fun k => Aside0 (bm < k)) v11 l from Kd.R_lower n9_.out HBx.out);clear n9_ hb ho hbm_;obtain ⟨A11,c11,e11⟩:=Kd.R_slice HN.out;subst e11)
              | fail)
            go_loopg [88] l.length (fun g v88 w' => ∃ (j : Nat) (L : List (Int × Bool)),v88 = .int .i64 j ∧ Aside0 (j + g = l.length) ∧ Aside0 (MapIs L (fun z => (z < (x : Int) ∧ still a0_0 l0_1 l3 a1_1 a (N - kk) kk z) ∨ (z = (x : Int) ∧ ∃ y ∈ l.take j,still a0_0 l0_1 l3 a1_1 a (N - k) k y ∧ Pure.May l3 k (x : Int) y))) ∧ Aside0 (w'.heap[bm]? = some (mobj (Value.int .i64) Value.bool L)) ∧ Aside0 (Kd.R (Kd.int .i64) 3 w' w.heap.size (fun k => Aside0 (bm < k)) (.slice A11 l.length c11) l) ∧ Aside0 (Kd.R km 101 w' w.heap.size (fun k => some k = some gs) (.slice (some ⟨gs,0,none⟩) ms0.length cap) ms2) ∧ Aside0 (ms2.length = N + 1) ∧ Aside0 (Maps w' ms2 k N (fun j x => still a0_0 l0_1 l3 a1_1 a (N - j) j x) (fun b => b = bm)) ∧ Aside0 (w'.heap[g0]? = some (.cells #[.int .i64 a0_0,.slice A0_1 l0_1.length c0_1] 39 (0,0))) ∧ Aside0 (w'.heap[g1]? = some (.cells #[.int .i64 a1_0,.int .i64 a1_1] 49 (0,0))) ∧ Aside0 (w'.heap[gA]? = some (.cells #[.slice A3 l3.length c3] 27 (0,0))) ∧ Aside0 (Below w.heap.size w w'))
            case atStart => exact ⟨0,L,rfl,⟨Nat.zero_add _⟩,HL0,M,HN,HCan,HMlen,HMs,B0,B1,BA,HB⟩
            case round =>
             clear HL0 M HN HCan HMlen HMs B0 B1 BA HB;obtain ⟨j,L,rfl,HJ,HL,M,HN,HCan,HMlen,HMs,B0,B1,BA,HB⟩:=hrel;by_cases cj : j < l.length
             ·have cjb : decide ((j : Int) < (l.length : Int)) = true:=decide_eq_true (by omega)
              have cjc : decide (j < l.length) = true:=decide_eq_true cj;have CJ:=Aside0.mk cj;have hR_:=(Kd.R_reads' HN.out).2.2;obtain ⟨ad,e1_,hx_⟩:=Kd.at_int hR_ (j : Int) (by omega) (by omega);subst e1_;rw [Int.toNat_natCast] at hx_
              have htk : l.take (j + 1) = l.take j ++ [rd l (j : Int)]:=by
                rw [List.take_succ_eq_append_getElem cj]
                congr 1
                unfold rd
                simp [List.getD_eq_getElem?_getD,List.getElem?_eq_getElem cj]
              generalize rd l (j : Int) = y at hx_ htk;have HTk:=Aside0.mk htk;have hw_ : wrap64 ((j : Int) + 1) = ((j + 1 : Nat) : Int):=Pure.succ_w (by have:=HLl.out;omega);have HWj:=Aside0.mk hw_;have cjt:=eq_true cj;obtain ⟨bk,Lk,hb1,hb2,hb3,hb4⟩:=HMs.out k (Nat.le_refl _) HKN.out;have HBk:=Aside0.mk hb2;have hlk:=look_at hb3 hb4 y;have hck:=can_cell HCan.out k (by have:=HKN.out;have:=HMl.out;omega);rw [nth_of hb1] at hck;have hcm:=can_cell HCan.out kk (by have:=HKN.out;have:=HKk.out;have:=HMl.out;omega);rw [nth_of HMk.out] at hcm;have hck1:=hck.1;have hcm1:=hcm.1;clear hw_ cj htk hR_ hb1 hb2 hb3 hb4 hck hcm
              have hno : ¬ (still a0_0 l0_1 l3 a1_1 a (N - k) k y ∧ Pure.May l3 k (x : Int) y) → MapIs L (fun z => (z < (x : Int) ∧ still a0_0 l0_1 l3 a1_1 a (N - kk) kk z) ∨ (z = (x : Int) ∧ ∃ y ∈ l.take (j + 1),still a0_0 l0_1 l3 a1_1 a (N - k) k y ∧ Pure.May l3 k (x : Int) y)):=fun h => HL.out.congr (fun z => by
               rw [HTk.out]
               constructor
               · exact fun hz => hz.elim .inl (fun hz => .inr ⟨hz.1,hz.2.elim (fun y' hy' => ⟨y',List.mem_append_left _ hy'.1,hy'.2⟩)⟩)
               · refine fun hz => hz.elim .inl (fun hz => .inr ⟨hz.1,hz.2.elim (fun y' hy' => ?_)⟩)
                 rcases List.mem_append.1 hy'.1 with h1 | h1
                 · exact ⟨y',h1,hy'.2⟩
                 · rw [List.mem_singleton.1 h1] at hy'
                   exact absurd hy'.2 h)
              have HNo2:=Aside0.mk hno;clear hno;by_cases hcy : still a0_0 l0_1 l3 a1_1 a (N - k) k y
              case neg =>
               simp only [decide_eq_false hcy] at hlk;have HL2:=Aside0.mk (HNo2.out (fun h => hcy h.1));clear hcy;go_wp2_with fail;rw [HWj.out];go_roundg (gk - 1)
               case measure => have:=HJ.out;have:=CJ.out;omega
               case rel => exact ⟨j + 1,L,rfl,⟨by have:=HJ.out;have:=CJ.out;omega⟩,HL2,M,HN,HCan,HMlen,HMs,B0,B1,BA,HB⟩
              case pos =>
               simp only [decide_eq_true hcy] at hlk;have HCy:=Aside0.mk hcy;clear hcy;by_cases hm : Pure.May l3 k (x : Int) y
               case neg =>
                have HMd:=Aside0.mk (show decide (Pure.May l3 k (x : Int) y) = false from decide_eq_false hm);have HL2:=Aside0.mk (HNo2.out (fun h => hm h.2));clear hm
                go_wp2_with (first
                  | (go_at_call 72;(with_reducible refine (may_calls A3 c3 l3 gA k N (x : Int) y false _ BA.out ?s1 HLn.out ?s2 HKN.out ?s3 HL5.out HMd.out).mono ?_);(case s1 => exact Kd.C_below HR3.out HB.out);(case s2 => have:=HKk.out;omega);(case s3 => have:=HNN.out;omega);rintro e w12 ⟨rfl,hd_⟩;have hb:=hd_.below;clear hx_ hlk hck1 hcm1;replace B0:=Aside0.mk (blk_below B0.out hb);replace B1:=Aside0.mk (blk_below B1.out hb);replace BA:=Aside0.mk (blk_below BA.out hb);replace HCan:=Aside0.mk (Kd.R_below HCan.out hb);replace HMs:=Aside0.mk (Maps.below HMs.out hb);replace M:=Aside0.mk (blk_below M.out hb);replace HN:=Aside0.mk (Kd.R_below HN.out hb);replace HB:=Aside0.mk (below_step HB.out hb);clear hb hd_;have hcm:=can_cell HCan.out kk (by have:=HKN.out;have:=HKk.out;have:=HMl.out;omega);rw [nth_of HMk.out] at hcm;have hcm1:=hcm.1;clear hcm)
                  | fail)
                rw [HWj.out];go_roundg (gk - 1)
                case measure => have:=HJ.out;have:=CJ.out;omega
                case rel => exact ⟨j + 1,L,rfl,⟨by have:=HJ.out;have:=CJ.out;omega⟩,HL2,M,HN,HCan,HMlen,HMs,B0,B1,BA,HB⟩
               case pos =>
                have HMd:=Aside0.mk (show decide (Pure.May l3 k (x : Int) y) = true from decide_eq_true hm);have HMy:=Aside0.mk hm;clear hm
                go_wp2_with (first
                  | (go_at_call 72;(with_reducible refine (may_calls A3 c3 l3 gA k N (x : Int) y true _ BA.out ?s1 HLn.out ?s2 HKN.out ?s3 HL5.out HMd.out).mono ?_);(case s1 => exact Kd.C_below HR3.out HB.out);(case s2 => have:=HKk.out;omega);(case s3 => have:=HNN.out;omega);rintro e w12 ⟨rfl,hd_⟩;have hb:=hd_.below;clear hx_ hlk hck1 hcm1;replace B0:=Aside0.mk (blk_below B0.out hb);replace B1:=Aside0.mk (blk_below B1.out hb);replace BA:=Aside0.mk (blk_below BA.out hb);replace HCan:=Aside0.mk (Kd.R_below HCan.out hb);replace HMs:=Aside0.mk (Maps.below HMs.out hb);replace M:=Aside0.mk (blk_below M.out hb);replace HN:=Aside0.mk (Kd.R_below HN.out hb);replace HB:=Aside0.mk (below_step HB.out hb);clear hb hd_;have hcm:=can_cell HCan.out kk (by have:=HKN.out;have:=HKk.out;have:=HMl.out;omega);rw [nth_of HMk.out] at hcm;have hcm1:=hcm.1;clear hcm)
                  | ((with_reducible refine gate_mapUpdate (t:=101) (m:=.tmp 109) (x:=.tmp 110) rfl ?_);refine put_event (P:=Try.prog) ?hg ?hN (.inl rfl) keyI Try.underlying101 M.out (x : Int) true ?hm ?hx ?hv HB.out GM.out ?_;(case hg => rfl);(case hN => rfl);(case hm => rfl);(case hx => rfl);(case hv => rfl);intro w13 hM hk hb;clear hcm1;obtain ⟨csg_,hgs_⟩:=can_cells HCan.out (by have:=HMlen.out;omega);replace B0:=Aside0.mk (blk_kept B0.out hk (cells_map B0.out M.out));replace B1:=Aside0.mk (blk_kept B1.out hk (cells_map B1.out M.out));replace BA:=Aside0.mk (blk_kept BA.out hk (cells_map BA.out M.out));replace HCan:=Aside0.mk (Kd.R_kept HCan.out hk (fun k h1 h2 => by injection h1 with h1;exact cells_map hgs_ M.out (h1.symm.trans h2)));replace HMs:=Aside0.mk (Maps.kept HMs.out hk (fun b e => e));replace HN:=Aside0.mk (Kd.R_kept HN.out hk (fun k h1 h2 => by have:=h1.out;omega));replace M:=Aside0.mk (hM);replace HB:=Aside0.mk (hb);clear hM hk hb hgs_)
                  | fail)
                rw [HWj.out];have HL2 : Aside0 (MapIs (put L (x : Int) true) (fun z => (z < (x : Int) ∧ still a0_0 l0_1 l3 a1_1 a (N - kk) kk z) ∨ (z = (x : Int) ∧ ∃ y ∈ l.take (j + 1),still a0_0 l0_1 l3 a1_1 a (N - k) k y ∧ Pure.May l3 k (x : Int) y))):=⟨HL.out.put (.inr ⟨rfl,y,by rw [HTk.out];simp,HCy.out,HMy.out⟩) (fun z hz => ⟨fun h => h.elim .inl (fun h => absurd h.1 hz),fun h => h.elim .inl (fun h => absurd h.1 hz)⟩)⟩;go_roundg (gk - 1)
                case measure => have:=HJ.out;have:=CJ.out;omega
                case rel => exact ⟨j + 1,_,rfl,⟨by have:=HJ.out;have:=CJ.out;omega⟩,HL2,M,HN,HCan,HMlen,HMs,B0,B1,BA,HB⟩
             ·have cjb : decide ((j : Int) < (l.length : Int)) = false:=decide_eq_false (by omega)
              have cjc : decide (j < l.length) = false:=decide_eq_false cj
              have HL2 : Aside0 (MapIs L (fun z => z < ((x + 1 : Nat) : Int) ∧ still a0_0 l0_1 l3 a1_1 a (N - kk) kk z)):=⟨HL.out.congr (fun z => by
               rw [List.take_of_length_le (by omega),HLg.out]
               constructor
               · rintro (h | ⟨h,h2⟩)
                 · exact ⟨by have:=h.1;omega,h.2⟩
                 · subst h
                   exact ⟨by omega,HSS.out.2 ⟨HF.out,HCs.out,h2⟩⟩
               · rintro ⟨h1,h2⟩
                 by_cases e : z = (x : Int)
                 · subst e
                   exact .inr ⟨rfl,(HSS.out.1 h2).2.2⟩
                 · exact .inl ⟨by omega,h2⟩)⟩
              clear cj HL HN;go_wp2_with fail;rw [HWx.out];go_roundg (gx - 1)
              case measure => have:=HXg.out;have:=CX.out;have:=HGxe.out;omega
              case rel => exact ⟨x + 1,L,rfl,⟨by have:=HXg.out;have:=CX.out;have:=HGxe.out;omega⟩,HL2,M,HCan,HMlen,HMs,B0,B1,BA,HB⟩
        ·have cxb : decide ((x : Int) < (l0_1.length : Int)) = false:=decide_eq_false (by omega)
         have cxc : decide (x < l0_1.length) = false:=decide_eq_false cx
         have HL2 : MapIs L (fun z => still a0_0 l0_1 l3 a1_1 a (N - kk) kk z):=HL.out.congr (fun z => ⟨fun h => h.2,fun h => ⟨by
          have hf:=((still_step HKk.out HKN.out z).1 h).1.2.1
          omega,h⟩⟩)
         have HMs2 : Aside0 (Maps wd ms2 kk N (fun j x => still a0_0 l0_1 l3 a1_1 a (N - j) j x) (fun _ => False)):=⟨Maps.more (by rw [HKk.out];exact HMs.out) HMk.out M.out HL2⟩;clear cx HL HL2 M HMs;go_wp2_with fail;rw [HKq.out,HQ.out];go_roundg (gkk - 1)
         case measure => have:=HKg.out;have:=HKk.out;have:=HGke.out;omega
         case rel => exact ⟨kk,ms2,rfl,⟨by have:=HKg.out;have:=HKk.out;have:=HGke.out;omega⟩,⟨by have:=HKN.out;have:=HKk.out;omega⟩,HCan,HMlen,HMs2,B0,B1,BA,HB⟩
      ·have ckb : decide ((0 : Int) < (k : Int)) = false:=decide_eq_false (by omega)
       have ckc : decide (0 < k) = false:=decide_eq_false ck
       obtain rfl : k = 0:=by omega
       clear ck;go_wp2_with fail;obtain ⟨b0,L0,hb1,_,hb3,hb4⟩:=HMs.out 0 (Nat.le_refl _) (Nat.zero_le _);have HB0:=Aside0.mk hb1;have HM0:=Aside0.mk hb3;have HL0:=Aside0.mk hb4;obtain ⟨bt,hbt⟩ : ∃ bt : Bool,decide (still a0_0 l0_1 l3 a1_1 a (N - 0) 0 a1_0) = bt:=⟨_,rfl⟩;have HBT:=Aside0.mk hbt;clear hbt;have hi1_ : (0 < ms0.length) = True:=eq_true (by have:=HMl.out;omega);have hi2_ : ((0 : Int) < (ms0.length : Int)) = True:=eq_true (by have:=HMl.out;omega);clear hb1 hb3 hb4;have hb : Below wc.heap.size wc wc.drew:=below_drew (Below.refl _ _);replace B0:=Aside0.mk (blk_below B0.out hb);replace B1:=Aside0.mk (blk_below B1.out hb);replace BA:=Aside0.mk (blk_below BA.out hb);replace HCan:=Aside0.mk (Kd.R_below HCan.out hb);replace HMs:=Aside0.mk (Maps.below HMs.out hb);replace HM0:=Aside0.mk (blk_below HM0.out hb);replace HB:=Aside0.mk (below_step HB.out hb);clear hb;refine start_ (n:=7) (S:=(fun w' => w'.cell? ⟨gs,0,none⟩ = some (.map (some b0)) ∧ w'.cell? ⟨g1,0,none⟩ = some (.int .i64 a1_0) ∧ w'.heap[b0]? = some (mobj (Value.int .i64) Value.bool L0))) (ds:=[]) (bm 7 0) (by kernel_rfl) rfl rfl ⟨(can_cell HCan.out 0 (by have:=HMl.out;omega)).1.trans (by rw [nth_of HB0.out]),(blk_cell B1.out 0).trans rfl,HM0.out⟩ (fun hHeld => ?_);generalize wc.drew = w14 at B0 B1 BA HB HCan HMs HM0 hHeld ⊢;refine pure_ (i:=0) (N:=some 113) (v:=?_) (a':=?_) (bm 7 1) rfl rfl (by kernel_rfl) (fun _ _ _ h => h) (Or.inl ⟨by rfl,?_⟩) ?_ ?_;rotate_left;(intro w';go_simp;with_reducible rfl);rotate_left;(simp only [Act.put,aS,aZ,aN];rfl)
       refine pure_ (i:=1) (N:=some 114) (v:=?_) (a':=?_) (bm 7 3) rfl rfl (by kernel_rfl) (fun _ _ _ h => h) (Or.inl ⟨by rfl,?_⟩) ?_ ?_;rotate_left;(intro w';go_simp;with_reducible rfl);rotate_left;(simp only [Act.put,aS,aZ,aN];rfl)
       refine take_ (i:=2) (N:=some 115) (v:=?_) (a':=?_) (bm 7 7) rfl rfl (by kernel_rfl) (fun _ _ _ h => h) (Or.inl ⟨by rfl,?_⟩) hHeld ?_ ?_;rotate_left;(rintro w' ⟨s0,s1,s2⟩;go_simp;with_reducible rfl);rotate_left;(simp only [Act.put,aS,aZ,aN];rfl)
       refine pure_ (i:=3) (N:=some 116) (v:=?_) (a':=?_) (bm 7 15) rfl rfl (by kernel_rfl) (fun _ _ _ h => h) (Or.inl ⟨by rfl,?_⟩) ?_ ?_;rotate_left;(intro w';go_simp;with_reducible rfl);rotate_left;(simp only [Act.put,aS,aZ,aN];rfl)
       refine take_ (i:=4) (N:=some 117) (v:=?_) (a':=?_) (bm 7 31) rfl rfl (by kernel_rfl) (fun _ _ _ h => h) (Or.inl ⟨by rfl,?_⟩) hHeld ?_ ?_;rotate_left;(rintro w' ⟨s0,s1,s2⟩;go_simp;with_reducible rfl);rotate_left;(simp only [Act.put,aS,aZ,aN];rfl)
       refine take_ (i:=5) (N:=some 118) (v:=?_) (a':=?_) (bm 7 63) rfl rfl (by kernel_rfl) (fun _ _ _ h => h) (Or.inl ⟨by rfl,?_⟩) hHeld ?_ ?_;rotate_left
       · rintro w' ⟨s0,s1,s2⟩
         have hl1 : (Instr.lookup 101 (.map (some b0)) (.int .i64 a1_0) false).run Try.prog w' = .ok (.bool bt) w':=(look_at s2 HL0.out a1_0).trans (by rw [← HBT.out])
         go_simp
         with_reducible rfl
       rotate_left;(simp only [Act.put,aS,aZ,aN];rfl)
       refine pure_ (i:=6) (N:=some 119) (v:=?_) (a':=?_) (bm 7 127) rfl rfl (by kernel_rfl) (fun _ _ _ h => h) (Or.inl ⟨by rfl,?_⟩) ?_ ?_;rotate_left;(intro w';go_simp;with_reducible rfl);rotate_left;(simp only [Act.put,aS,aZ,aN];rfl)
       refine done_ (by kernel_rfl) ?_;clear hHeld
       cases bt with
       | false =>
        have hst : ¬ still a0_0 l0_1 l3 a1_1 a N 0 a1_0:=of_decide_eq_false HBT.out;have hfr:=HFr.out
        have hdr : (List.range (N + 1)).drop a = a :: (List.range (N + 1)).drop (a + 1):=by
         rw [List.drop_eq_getElem_cons (by simp;have:=CA.out;omega)]
         simp
        rw [hdr,List.find?_cons,decide_eq_false hst] at hfr;have HFr2:=Aside0.mk hfr;(have hw_ : wrap64 ((a : Int) + 1) = ((a + 1 : Nat) : Int):=by rw [EvKit.wrap64_id (by have:=CA.out;have:=HNN.out;omega) (by have:=CA.out;have:=HNN.out;omega)];omega);have HWa:=Aside0.mk hw_;clear hfr hdr hst hw_ HMs HCan HM0;go_wp2_with fail;rw [HWa.out];go_roundg (ga - 1)
        case measure => have:=HI.out;have:=CA.out;have:=HGae.out;omega
        case rel => exact ⟨a + 1,rfl,⟨by have:=HI.out;have:=CA.out;have:=HGae.out;omega⟩,HFr2,B0,B1,BA,HB⟩
       | true =>
        have hst : still a0_0 l0_1 l3 a1_1 a N 0 a1_0:=of_decide_eq_true HBT.out;have hfr:=HFr.out
        have hdr : (List.range (N + 1)).drop a = a :: (List.range (N + 1)).drop (a + 1):=by
         rw [List.drop_eq_getElem_cons (by simp;have:=CA.out;omega)]
         simp
        rw [hdr,List.find?_cons,decide_eq_true hst] at hfr;have hfr2 : fr = some a:=hfr.symm;obtain ⟨pos,hpos⟩ : ∃ pos,pos = gst a0_0 l0_1 l3 a1_0 a1_1 (fun k x => still a0_0 l0_1 l3 a1_1 a (N - k) k x):=⟨_,rfl⟩
        have hrs : r = some ((List.range (N + 1)).map pos):=by
         rw [← HRes.out,hpos];unfold planI;rw [if_neg (fun ⟨p,hp,e⟩ => HNo.out p hp e),HFr0.out,hfr2]
         rfl
        (have hp0 : pos 0 = a1_0:=by rw [hpos];rfl)
        have hpst : ∀ kk,kk < N → still a0_0 l0_1 l3 a1_1 a (N - kk) kk (pos kk) → (Pure.Gos a0_0 l0_1 (pos kk)).find? (fun y => decide (still a0_0 l0_1 l3 a1_1 a (N - (kk + 1)) (kk + 1) y ∧ Pure.May l3 (kk + 1) (pos kk) y)) = some (pos (kk + 1)) ∧ still a0_0 l0_1 l3 a1_1 a (N - (kk + 1)) (kk + 1) (pos (kk + 1)) ∧ Pure.Fr l0_1 (pos (kk + 1)):=by
         rw [hpos];(exact fun kk h1 h2 => pos_step h1 h2)
        have HPst:=Aside0.mk hpst;have HP0:=Aside0.mk hp0;have HSt0 : Aside0 (still a0_0 l0_1 l3 a1_1 a (N - (1 - 1)) (1 - 1) (pos (1 - 1))):=⟨by rw [Nat.sub_self,hp0];exact hst⟩;have HFr1 : Aside0 (Pure.Fr l0_1 (pos (1 - 1))):=⟨by rw [Nat.sub_self,hp0];exact HFs.out⟩;subst hrs;clear hfr hdr hfr2 hst hpos hpst hp0 HFr0 HFr HRes HM0;have zg1_0 : w14.cell? ⟨g1,0,none⟩ = some (.int .i64 a1_0):=(blk_cell B1.out 0).trans rfl;have fzg1_0:=blk_frozen B1.out 0;have zg1_1 : w14.cell? ⟨g1,1,none⟩ = some (.int .i64 a1_1):=(blk_cell B1.out 1).trans rfl;have fzg1_1:=blk_frozen B1.out 1
        go_wp2_with (first
          | ((with_reducible refine gate_dst (N:=122) rfl ?_);refine Kd.R_lit (Kd.int .i64) w.heap.size 3 ?hg (N:=122) ?hd (xs:=[a1_0]) (inner:=[.int .i64 a1_0]) (ok:=fun _ => True) (okp:=fun _ => False) ?hr ?hp (fun _ hk => hk.elim) trivial HB.out HB.out.size (by simp) ?_;(case hd => rfl);(case hg => rfl);(case hr => first | (go_simp;done) | (go_simp;rfl));(case hp => exact (Reps.one (show Kd.M (Kd.int .i64) _ _ _ a1_0 [.int .i64 a1_0] from rfl) (Reps.none _ _)));intro v15 w15 ho hb hg_ hnew_;clear hnew_;clear zg1_0 fzg1_0 zg1_1 fzg1_1;replace B0:=Aside0.mk (blk_grown B0.out hg_ (by simp));replace B1:=Aside0.mk (blk_grown B1.out hg_ (by simp));replace BA:=Aside0.mk (blk_grown BA.out hg_ (by simp));replace HCan:=Aside0.mk (Kd.R_grown HCan.out hg_ (fun _ _ => by simp));replace HMs:=Aside0.mk ((fun j h1 h2 => by obtain ⟨b,L,h3,h4,h5,h6⟩:=HMs.out j h1 h2;exact ⟨b,L,h3,h4,blk_grown h5 hg_ (by simp),h6⟩ : Maps w15 ms 0 N (fun j x => still a0_0 l0_1 l3 a1_1 a (N - j) j x) (fun _ => False)));have HP:=Aside0.mk ((show Kd.R (Kd.int .i64) 3 w15 w.heap.size (fun _ => True) v15 ((List.range 1).map pos) from by rw [show (List.range 1).map pos = [a1_0] by simp [List.range_succ,HP0.out]];exact ho));replace HB:=Aside0.mk (hb);clear hb ho hg_)
          | fail)
        obtain ⟨w16,rfl⟩ : ∃ wx : World,wx = w15:=⟨_,rfl⟩
        go_loopg [19,20] N (fun g v19 v20 w' => ∃ (k : Nat),v20 = .int .i64 k ∧ Aside0 (1 ≤ k ∧ k + g = N + 1) ∧ Aside0 (still a0_0 l0_1 l3 a1_1 a (N - (k - 1)) (k - 1) (pos (k - 1))) ∧ Aside0 (Pure.Fr l0_1 (pos (k - 1))) ∧ Aside0 (Kd.R (Kd.int .i64) 3 w' w.heap.size (fun _ => True) v19 ((List.range k).map pos)) ∧ Aside0 (Kd.R km 101 w' w.heap.size (fun k => some k = some gs) (.slice (some ⟨gs,0,none⟩) ms0.length cap) ms) ∧ Aside0 (Maps w' ms 0 N (fun j x => still a0_0 l0_1 l3 a1_1 a (N - j) j x) (fun _ => False)) ∧ Aside0 (w'.heap[g0]? = some (.cells #[.int .i64 a0_0,.slice A0_1 l0_1.length c0_1] 39 (0,0))) ∧ Aside0 (w'.heap[g1]? = some (.cells #[.int .i64 a1_0,.int .i64 a1_1] 49 (0,0))) ∧ Aside0 (w'.heap[gA]? = some (.cells #[.slice A3 l3.length c3] 27 (0,0))) ∧ Aside0 (Below w.heap.size w w'))
        case atStart => exact ⟨1,rfl,⟨by omega⟩,HSt0,HFr1,HP,HCan,HMs,B0,B1,BA,HB⟩
        case round =>
         clear HSt0 HFr1 HP HCan HMs B0 B1 BA HB;obtain ⟨k,rfl,HKg,HSt,HFk,HP,HCan,HMs,B0,B1,BA,HB⟩:=hrel;obtain ⟨we,rfl⟩ : ∃ we : World,we = wr:=⟨_,rfl⟩;by_cases ck : k ≤ N
         ·have ckb : decide ((k : Int) ≤ (N : Int)) = true:=decide_eq_true (by omega)
          have ckc : decide (k ≤ N) = true:=decide_eq_true ck;have HKN:=Aside0.mk ck;have HKk : Aside0 (1 ≤ k):=⟨HKg.out.1⟩;obtain ⟨kk,hkk⟩ : ∃ kk,kk = k - 1:=⟨_,rfl⟩;have HKe:=Aside0.mk (show kk + 1 = k by have:=HKk.out;omega);have hstp:=HPst.out kk (by have:=HKe.out;omega) (by rw [hkk];exact HSt.out);rw [HKe.out] at hstp;have HFi:=Aside0.mk hstp.1;have HSt2:=Aside0.mk hstp.2.1;have HFk2:=Aside0.mk hstp.2.2;have HFk1 : Aside0 (Pure.Fr l0_1 (pos kk)):=⟨by rw [hkk];exact HFk.out⟩;obtain ⟨ps,hps⟩ : ∃ ps,ps = (List.range k).map pos:=⟨_,rfl⟩;have HPl:=Aside0.mk (show ps.length = k by rw [hps];simp);have HPx:=Aside0.mk (show ps.getD kk 0 = pos kk by rw [hps];exact range_get pos (by have:=HKe.out;omega));have HPs:=Aside0.mk hps;rw [← hps] at HP;obtain ⟨gp,cp,ep,_,_,_⟩:=Kd.R_form HP.out (by have:=HPl.out;have:=HKk.out;omega);subst ep;obtain ⟨k2,hk2⟩:=Ev.rounds (Pure.goes_ev HCl.out HFk1.out).1;obtain ⟨l,hl⟩ : ∃ l,l = Pure.Gos a0_0 l0_1 (pos kk):=⟨_,rfl⟩;rw [← hl] at hk2;have HFi2:=HFi.out;rw [← hl] at HFi2;have HLl:=Aside0.mk (show l.length ≤ 100 by rw [hl];exact Pure.Gos_len _ _ _);generalize pos kk = x at hk2 HFi2 HPx;generalize hz : pos k = z at HFi2;have HZ:=Aside0.mk hz;have HK2:=Aside0.mk hk2;have HFd:=Aside0.mk HFi2;obtain ⟨q,hq⟩ : ∃ q : Int,q = (kk : Int):=⟨_,rfl⟩;have HQ:=Aside0.mk hq;(have hkq : wrap64 ((k : Int) - 1) = q:=by rw [EvKit.wrap64_id (by have:=HKk.out;omega) (by have:=HNN.out;omega)];have:=HKe.out;omega);(have hkq2 : IntKind.i64.wrap ((k : Int) - 1) = q:=by rw [IntWalk.i64_in _ (by have:=HKk.out;have:=HNN.out;omega)];have:=HKe.out;omega);have hq0 : ((0 : Int) ≤ q) = True:=eq_true (by omega);have hqp : (q < (ps.length : Int)) = True:=eq_true (by have:=HKe.out;have:=HPl.out;omega);have hkm : ((k : Int) < (ms0.length : Int)) = True:=eq_true (by have:=HMl.out;omega);have hkm2 : (k < ms0.length) = True:=eq_true (by have:=HMl.out;omega);(have eqk : q.toNat = kk:=by omega);(have hw_ : wrap64 ((k : Int) + 1) = ((k + 1 : Nat) : Int):=by rw [EvKit.wrap64_id (by omega) (by have:=HNN.out;omega)];omega);have HWk:=Aside0.mk hw_;clear ck hkk hps hstp hl hk2 HFi HFi2 hz hq hw_ HSt HFk HFk1;go_wp2_with fail;have hb : Below we.heap.size we we.drew:=below_drew (Below.refl _ _);replace B0:=Aside0.mk (blk_below B0.out hb);replace B1:=Aside0.mk (blk_below B1.out hb);replace BA:=Aside0.mk (blk_below BA.out hb);replace HCan:=Aside0.mk (Kd.R_below HCan.out hb);replace HMs:=Aside0.mk (Maps.below HMs.out hb);replace HP:=Aside0.mk (Kd.R_below HP.out hb);replace HB:=Aside0.mk (below_step HB.out hb);clear hb;refine start_ (n:=9) (S:=(fun w' => w'.cell? ⟨g0,0,none⟩ = some (.int .i64 a0_0) ∧ w'.cell? ⟨g0,1,none⟩ = some (.slice A0_1 l0_1.length c0_1) ∧ w'.cell? ⟨gp,kk,none⟩ = some (.int .i64 x))) (ds:=[]) (bm 9 0) (by kernel_rfl) rfl rfl ⟨(blk_cell B0.out 0).trans rfl,(blk_cell B0.out 1).trans rfl,row_cell HP.out kk (by have:=HPl.out;have:=HKe.out;omega) HPx.out⟩ (fun hHeld => ?_);generalize we.drew = w17 at B0 B1 BA HB HCan HMs HP hHeld ⊢;refine take_ (i:=0) (N:=some 128) (v:=?_) (a':=?_) (bm 9 1) rfl rfl (by kernel_rfl) (fun _ _ _ h => h) (Or.inl ⟨by rfl,?_⟩) hHeld ?_ ?_;rotate_left;(rintro w' ⟨s0,s1,s2⟩;go_simp;with_reducible rfl);rotate_left;(simp only [Act.put,aS,aZ,aN];rfl)
          refine pure_ (i:=1) (N:=some 129) (v:=?_) (a':=?_) (bm 9 3) rfl rfl (by kernel_rfl) (fun _ _ _ h => h) (Or.inl ⟨by rfl,?_⟩) ?_ ?_;rotate_left;(intro w';go_simp;with_reducible rfl);rotate_left;(simp only [Act.put,aS,aZ,aN];rfl)
          refine pure_ (i:=2) (N:=some 130) (v:=?_) (a':=?_) (bm 9 7) rfl rfl (by kernel_rfl) (fun _ _ _ h => h) (Or.inl ⟨by rfl,?_⟩) ?_ ?_;rotate_left;(intro w';go_simp;with_reducible rfl);rotate_left;(simp only [Act.put,aS,aZ,aN];rfl)
          refine pure_ (i:=3) (N:=some 131) (v:=?_) (a':=?_) (bm 9 15) rfl rfl (by kernel_rfl) (fun _ _ _ h => h) (Or.inl ⟨by rfl,?_⟩) ?_ ?_;rotate_left;(intro w';go_simp;with_reducible rfl);rotate_left;(simp only [Act.put,aS,aZ,aN];rfl)
          refine pure_ (i:=4) (N:=some 132) (v:=?_) (a':=?_) (bm 9 31) rfl rfl (by kernel_rfl) (fun _ _ _ h => h) (Or.inl ⟨by rfl,?_⟩) ?_ ?_;rotate_left;(intro w';go_simp;with_reducible rfl);rotate_left;(simp only [Act.put,aS,aZ,aN];rfl)
          refine take_ (i:=5) (N:=some 133) (v:=?_) (a':=?_) (bm 9 63) rfl rfl (by kernel_rfl) (fun _ _ _ h => h) (Or.inl ⟨by rfl,?_⟩) hHeld ?_ ?_;rotate_left;(rintro w' ⟨s0,s1,s2⟩;go_simp;with_reducible rfl);rotate_left;(simp only [Act.put,aS,aZ,aN];rfl)
          refine pure_ (i:=8) (N:=some 136) (v:=?_) (a':=?_) (bm 9 319) rfl rfl (by kernel_rfl) (fun _ _ _ h => h) (Or.inl ⟨by rfl,?_⟩) ?_ ?_;rotate_left;(intro w';go_simp;with_reducible rfl);rotate_left;(simp only [Act.put,aS,aZ,aN];rfl)
          have HBz:=Aside0.mk HB.out.size;refine one_ (i:=6) (N:=some 134) (bm 9 383) rfl rfl (by kernel_rfl) (by decide) (fun K hK => ?_);refine goes_ Try.func58 (by kernel_rfl) rfl #[.agg #[.int .i64 a0_0,.slice A0_1 l0_1.length c0_1],.int .i64 x] (by rfl) rfl rfl (by simp only [List.map_toArray,List.map_cons,List.map_nil];rfl) ?_;refine (impl_Cells_goes.calls k2 a0_0 A0_1 c0_1 l0_1 x l _ (Kd.C_below HR.out HB.out) HC.out HK2.out).mono ?_;rintro e w18 ⟨v18,rfl,ho,hb⟩;obtain ⟨A18,c18,e18⟩:=Kd.R_slice ho;subst e18;refine ⟨_,rfl,?_⟩;replace B0:=Aside0.mk (blk_below B0.out hb);replace B1:=Aside0.mk (blk_below B1.out hb);replace BA:=Aside0.mk (blk_below BA.out hb);replace HCan:=Aside0.mk (Kd.R_below HCan.out hb);replace HMs:=Aside0.mk (Maps.below HMs.out hb);replace HP:=Aside0.mk (Kd.R_below HP.out hb);replace HB:=Aside0.mk (below_step HB.out hb);have HN:=Aside0.mk (Kd.R_lower ho HBz.out);clear ho hb hHeld;refine hK.out _ _ ⟨(blk_cell B0.out 0).trans rfl,(blk_cell B0.out 1).trans rfl,row_cell HP.out kk (by have:=HPl.out;have:=HKe.out;omega) HPx.out⟩ (fun hHeld => ?_);clear hK K;refine norm_ (a':=?_) ?_ ?_;rotate_left
          · show Act.put _ (some 134) _ = _
            simp only [Act.put,aS,aZ,aN]
            rfl
          refine pure_ (i:=7) (N:=some 135) (v:=?_) (a':=?_) (bm 9 511) rfl rfl (by kernel_rfl) (fun _ _ _ h => h) (Or.inl ⟨by rfl,?_⟩) ?_ ?_;rotate_left;(intro w';go_simp;with_reducible rfl);rotate_left;(simp only [Act.put,aS,aZ,aN];rfl)
          refine done_ (by kernel_rfl) ?_;clear hHeld;go_wp2_with fail;obtain ⟨gy,hgx⟩ : ∃ gx,gx = gk:=⟨_,rfl⟩;have HGye:=Aside0.mk hgx;clear hgx
          go_loopg [19,136] l.length (fun g v19 v136 w' => ∃ (j : Nat),v19 = .slice (some ⟨gp,0,none⟩) ps.length cp ∧ v136 = .int .i64 j ∧ Aside0 (j + g = l.length) ∧ Aside0 ((l.drop j).find? (fun y => decide (still a0_0 l0_1 l3 a1_1 a (N - k) k y ∧ Pure.May l3 k x y)) = some z) ∧ Aside0 (Kd.R (Kd.int .i64) 3 w' w.heap.size (fun _ => True) (.slice (some ⟨gp,0,none⟩) ps.length cp) ps) ∧ Aside0 (Kd.R (Kd.int .i64) 3 w' w.heap.size (fun _ => True) (.slice A18 l.length c18) l) ∧ Aside0 (Kd.R km 101 w' w.heap.size (fun k => some k = some gs) (.slice (some ⟨gs,0,none⟩) ms0.length cap) ms) ∧ Aside0 (Maps w' ms 0 N (fun j x => still a0_0 l0_1 l3 a1_1 a (N - j) j x) (fun _ => False)) ∧ Aside0 (w'.heap[g0]? = some (.cells #[.int .i64 a0_0,.slice A0_1 l0_1.length c0_1] 39 (0,0))) ∧ Aside0 (w'.heap[g1]? = some (.cells #[.int .i64 a1_0,.int .i64 a1_1] 49 (0,0))) ∧ Aside0 (w'.heap[gA]? = some (.cells #[.slice A3 l3.length c3] 27 (0,0))) ∧ Aside0 (Below w.heap.size w w'))
          case atStart => exact ⟨0,rfl,rfl,⟨Nat.zero_add _⟩,HFd,HP,HN,HCan,HMs,B0,B1,BA,HB⟩
          case round =>
           clear HFd HP HN HCan HMs B0 B1 BA HB;obtain ⟨j,rfl,rfl,HJ,HFd,HP,HN,HCan,HMs,B0,B1,BA,HB⟩:=hrel
           have cj : j < l.length:=Classical.byContradiction fun h => by
             have:=HFd.out;rw [List.drop_eq_nil_of_le (by omega)] at this
             cases this
           have cjb : decide ((j : Int) < (l.length : Int)) = true:=decide_eq_true (by omega);have cjc : decide (j < l.length) = true:=decide_eq_true cj;have CJ:=Aside0.mk cj;have hR_:=(Kd.R_reads' HN.out).2.2;obtain ⟨ad,e1_,hx_⟩:=Kd.at_int hR_ (j : Int) (by omega) (by omega);subst e1_;rw [Int.toNat_natCast] at hx_;have hfd:=HFd.out
           have hdr : l.drop j = rd l (j : Int) :: l.drop (j + 1):=by
             rw [List.drop_eq_getElem_cons cj]
             congr 1
             unfold rd
             simp [List.getD_eq_getElem?_getD,List.getElem?_eq_getElem cj]
           rw [hdr,List.find?_cons] at hfd;generalize rd l (j : Int) = y at hx_ hfd;have hw_ : wrap64 ((j : Int) + 1) = ((j + 1 : Nat) : Int):=Pure.succ_w (by have:=HLl.out;omega);have HWj:=Aside0.mk hw_;have cjt:=eq_true cj;obtain ⟨bk,Lk,hb1,_,hb3,hb4⟩:=HMs.out k (Nat.zero_le _) HKN.out;have hlk:=look_at hb3 hb4 y;have hck:=can_cell HCan.out k (by have:=HKN.out;have:=HMl.out;omega);rw [nth_of hb1] at hck;have hck1:=hck.1;have hpx:=row_cell HP.out kk (by have:=HPl.out;have:=HKe.out;omega) HPx.out;clear hw_ cj hR_ hb1 hb3 hb4 hck hdr HFd;by_cases hcy : still a0_0 l0_1 l3 a1_1 a (N - k) k y
           case neg =>
            simp only [decide_eq_false hcy] at hlk;rw [decide_eq_false (fun h : still a0_0 l0_1 l3 a1_1 a (N - k) k y ∧ Pure.May l3 k x y => hcy h.1)] at hfd;have HFd:=Aside0.mk hfd;clear hcy hfd;go_wp2_with fail;rw [HWj.out];go_roundg (gk - 1)
            case measure => have:=HJ.out;have:=CJ.out;omega
            case rel => exact ⟨j + 1,rfl,rfl,⟨by have:=HJ.out;have:=CJ.out;omega⟩,HFd,HP,HN,HCan,HMs,B0,B1,BA,HB⟩
           case pos =>
            simp only [decide_eq_true hcy] at hlk;by_cases hm : Pure.May l3 k x y
            case neg =>
             have HMd:=Aside0.mk (show decide (Pure.May l3 k x y) = false from decide_eq_false hm);rw [decide_eq_false (fun h : still a0_0 l0_1 l3 a1_1 a (N - k) k y ∧ Pure.May l3 k x y => hm h.2)] at hfd;have HFd:=Aside0.mk hfd;clear hcy hfd hm
             go_wp2_with (first
               | (go_at_call 72;(with_reducible refine (may_calls A3 c3 l3 gA k N x y false _ BA.out ?s1 HLn.out ?s2 HKN.out ?s3 HL5.out HMd.out).mono ?_);(case s1 => exact Kd.C_below HR3.out HB.out);(case s2 => have:=HKk.out;omega);(case s3 => have:=HNN.out;omega);rintro e w19 ⟨rfl,hd_⟩;have hb:=hd_.below;clear hx_ hlk hck1 hpx;replace B0:=Aside0.mk (blk_below B0.out hb);replace B1:=Aside0.mk (blk_below B1.out hb);replace BA:=Aside0.mk (blk_below BA.out hb);replace HCan:=Aside0.mk (Kd.R_below HCan.out hb);replace HMs:=Aside0.mk (Maps.below HMs.out hb);replace HP:=Aside0.mk (Kd.R_below HP.out hb);replace HN:=Aside0.mk (Kd.R_below HN.out hb);replace HB:=Aside0.mk (below_step HB.out hb);clear hb hd_)
               | fail)
             rw [HWj.out];go_roundg (gk - 1)
             case measure => have:=HJ.out;have:=CJ.out;omega
             case rel => exact ⟨j + 1,rfl,rfl,⟨by have:=HJ.out;have:=CJ.out;omega⟩,HFd,HP,HN,HCan,HMs,B0,B1,BA,HB⟩
            case pos =>
             have HMd:=Aside0.mk (show decide (Pure.May l3 k x y) = true from decide_eq_true hm);rw [decide_eq_true (⟨hcy,hm⟩ : still a0_0 l0_1 l3 a1_1 a (N - k) k y ∧ Pure.May l3 k x y)] at hfd;(have hyz : y = z:=by injection hfd);have HYz:=Aside0.mk hyz;clear hcy hfd hm hyz
             go_wp2_with (first
               | (go_at_call 72;(with_reducible refine (may_calls A3 c3 l3 gA k N x y true _ BA.out ?s1 HLn.out ?s2 HKN.out ?s3 HL5.out HMd.out).mono ?_);(case s1 => exact Kd.C_below HR3.out HB.out);(case s2 => have:=HKk.out;omega);(case s3 => have:=HNN.out;omega);rintro e w19 ⟨rfl,hd_⟩;have hb:=hd_.below;clear hx_ hlk hck1 hpx;replace B0:=Aside0.mk (blk_below B0.out hb);replace B1:=Aside0.mk (blk_below B1.out hb);replace BA:=Aside0.mk (blk_below BA.out hb);replace HCan:=Aside0.mk (Kd.R_below HCan.out hb);replace HMs:=Aside0.mk (Maps.below HMs.out hb);replace HP:=Aside0.mk (Kd.R_below HP.out hb);replace HN:=Aside0.mk (Kd.R_below HN.out hb);replace HB:=Aside0.mk (below_step HB.out hb);clear hb hd_)
               | ((with_reducible refine gate_builtin (b:=.append) (xs:=#[.tmp 157,.tmp 159]) rfl ?_);at_builtin;refine Kd.R_append (Kd.int .i64) (w0:=w) w.heap.size rfl (.tmp 157) (.tmp 159) 22 3 (.int .i64 0) 8 rfl Try.underlying22 info3 rfl (by decide) (by omega) _ ps y [.int .i64 y] (fun _ => True) (fun _ => False) rfl rfl ?aP (fun _ hk => hk.elim) ?aF HP.out HB.out ?aS ?aL ?_;(case aP => exact rfl);(case aF => exact (fun _ _ => trivial));(case aS => exact HB.out.size);(case aL => have:=HPl.out;have:=HKN.out;have:=HNN.out;omega);intro v20 w20 hq hb hg hat;obtain ⟨csg_,hgs_⟩:=can_cells HCan.out (by have:=HMlen.out;omega);replace B0:=Aside0.mk (blk_grown B0.out hg (Kd.R_ne HP.out B0.out (by decide)));replace B1:=Aside0.mk (blk_grown B1.out hg (Kd.R_ne HP.out B1.out (by decide)));replace BA:=Aside0.mk (blk_grown BA.out hg (Kd.R_ne HP.out BA.out (by decide)));replace HCan:=Aside0.mk (Kd.R_grown HCan.out hg (fun k h1 e => Kd.R_ne HP.out hgs_ (by decide) (h1.symm.trans e)));replace HMs:=Aside0.mk (Maps.grown HMs.out HP.out hg);replace HB:=Aside0.mk (hb);clear HP HN;have HP:=Aside0.mk hq;clear hq hb hg hat hgs_)
               | fail)
             rw [HWk.out]
             have HP2 : Aside0 (Kd.R (Kd.int .i64) 3 w20 w.heap.size (fun _ => True) v20 ((List.range (k + 1)).map pos)):=⟨by
              rw [List.range_succ,List.map_append,← HPs.out]
              show Kd.R (Kd.int .i64) 3 w20 w.heap.size (fun _ => True) v20 (ps ++ [pos k])
              rw [HZ.out,← HYz.out]
              exact HP.out⟩
             go_roundg (gy - 1)
             case measure => have:=HKg.out;have:=HKN.out;have:=HGye.out;omega
             case rel => exact ⟨k + 1,rfl,⟨by have:=HKg.out;have:=HKN.out;have:=HGye.out;omega⟩,HSt2,HFk2,HP2,HCan,HMs,B0,B1,BA,HB⟩
         ·have ckb : decide ((k : Int) ≤ (N : Int)) = false:=decide_eq_false (by omega)
          have ckc : decide (k ≤ N) = false:=decide_eq_false ck
          obtain rfl : k = N + 1:=by have:=HKg.out;omega
          clear ck;go_wp2_with fail
          go_ret2
          exact ⟨_,rfl,HP.out,HB.out⟩
set_option maxHeartbeats 8000000 in
set_option maxRecDepth 100000 in
theorem plan_none (a0_0 : Int) (A0_1 : Option Addr) (c0_1 : Nat) (l0_1 : List Int) (a1_0 : Int) (a1_1 : Int) (N : Nat) (A3 : Option Addr) (c3 : Nat) (l3 : List (List Int)) (w : World) (hr3 : Kd.C (Kd.slice 3 (Kd.int .i64)) w A3 l3.length l3) (hl5 : l3.length ≤ 5) (hLen : ∀ p ∈ l3,p.length = N + 1) (hyes : ∃ p ∈ l3,Pure.PA p 0 = a1_0) :
    Calls Try.prog 61 #[.agg #[.int .i64 a0_0,.slice A0_1 l0_1.length c0_1],.agg #[.int .i64 a1_0,.int .i64 a1_1],.int .i64 N,.slice A3 l3.length c3] w fun e w' => e = .returned (.tuple #[.slice none 0 0,.bool false]) ∧ Below w.heap.size w w':=by
  have hu39:=Try.underlying39;have hu49:=Try.underlying49;have HR3:=Aside0.mk hr3;have HL5:=Aside0.mk hl5;have HLn:=Aside0.mk hLen;have HY : Aside0 (∃ p ∈ l3.drop 0,Pure.PA p 0 = a1_0):=⟨hyes⟩;have HB:=Aside0.mk (Below.refl w.heap.size w);clear hr3 hl5 hLen hyes;go_enter Try.func61,Try.ntmps61
  go_wp2_with (first
    | ((with_reducible refine gate_dst (N:=4) rfl ?_);refine box_event ?hg (N:=4) ?hd (cs:=#[.int .i64 a0_0,.slice A0_1 l0_1.length c0_1]) (t:=39) ?hr ?_;(case hd => rfl);(case hg => rfl);(case hr => first | (go_simp;done) | (go_simp;rfl));intro g0 hg w1 hbox hb;have B0:=Aside0.mk (hbox);have G0:=Aside0.mk (show w.heap.size ≤ g0 by rw [hg];exact HB.out.size);replace HB:=Aside0.mk (below_step HB.out hb);clear hb hbox hg)
    | ((with_reducible refine gate_dst (N:=5) rfl ?_);refine box_event ?hg (N:=5) ?hd (cs:=#[.int .i64 a1_0,.int .i64 a1_1]) (t:=49) ?hr ?_;(case hd => rfl);(case hg => rfl);(case hr => first | (go_simp;done) | (go_simp;rfl));intro g1 hg w2 hbox hb;replace B0:=Aside0.mk (blk_below B0.out hb);have B1:=Aside0.mk (hbox);have G1:=Aside0.mk (show w.heap.size ≤ g1 by rw [hg];exact HB.out.size);replace HB:=Aside0.mk (below_step HB.out hb);clear hb hbox hg)
    | ((with_reducible refine gate_dst (N:=7) rfl ?_);refine box_event ?hg (N:=7) ?hd (cs:=#[.slice A3 l3.length c3]) (t:=27) ?hr ?_;(case hd => rfl);(case hg => rfl);(case hr => first | (go_simp;done) | (go_simp;rfl));intro gA hg w3 hbox hb;replace B0:=Aside0.mk (blk_below B0.out hb);replace B1:=Aside0.mk (blk_below B1.out hb);have BA:=Aside0.mk (hbox);have GA:=Aside0.mk (show w.heap.size ≤ gA by rw [hg];exact HB.out.size);replace HB:=Aside0.mk (below_step HB.out hb);clear hb hbox hg;have zgA_0 : w3.cell? ⟨gA,0,none⟩ = some (.slice A3 l3.length c3):=(blk_cell BA.out 0).trans rfl;have fzgA_0:=blk_frozen BA.out 0)
    | fail)
  clear zgA_0 fzgA_0
  go_loopg [26] l3.length (fun g v26 w' => ∃ i : Nat,v26 = .int .i64 i ∧ Aside0 (i + g = l3.length) ∧ Aside0 (∃ p ∈ l3.drop i,Pure.PA p 0 = a1_0) ∧ Aside0 (w'.heap[g0]? = some (.cells #[.int .i64 a0_0,.slice A0_1 l0_1.length c0_1] 39 (0,0))) ∧ Aside0 (w'.heap[g1]? = some (.cells #[.int .i64 a1_0,.int .i64 a1_1] 49 (0,0))) ∧ Aside0 (w'.heap[gA]? = some (.cells #[.slice A3 l3.length c3] 27 (0,0))) ∧ Aside0 (Below w.heap.size w w'))
  case atStart => exact ⟨0,rfl,⟨Nat.zero_add _⟩,HY,B0,B1,BA,HB⟩
  case round =>
   clear HY B0 B1 BA HB;obtain ⟨i,rfl,HI,HY,B0,B1,BA,HB⟩:=hrel
   have ci : i < l3.length:=Classical.byContradiction fun h => by
     obtain ⟨p,hp,_⟩:=HY.out;rw [List.drop_eq_nil_of_le (by omega)] at hp
     cases hp
   have cib : decide ((i : Int) < (l3.length : Int)) = true:=decide_eq_true (by omega);have cic : decide (i < l3.length) = true:=decide_eq_true ci;have CI:=Aside0.mk ci;obtain ⟨ad,Ai,cI,e_,hx,hl_,hi_⟩:=at_L1 HR3.out (i : Int) (by omega) (by omega)
   cases e_
   rw [Int.toNat_natCast] at hx;replace hx:=pw_cell_below HB.out hx
   have hdr : l3.drop i = rd_L1 l3 (i : Int) :: l3.drop (i + 1):=by
     rw [List.drop_eq_getElem_cons ci]
     congr 1
     unfold rd_L1
     simp [List.getD_eq_getElem?_getD,List.getElem?_eq_getElem ci]
   have hpl : (rd_L1 l3 (i : Int)).length = N + 1:=HLn.out _ (by unfold rd_L1;exact EvKit.getD_mem l3 i [] ci);have hy:=HY.out;rw [hdr] at hy
   have hcs : rd (rd_L1 l3 (i : Int)) 0 = a1_0 ∨ (¬ rd (rd_L1 l3 (i : Int)) 0 = a1_0 ∧ ∃ p ∈ l3.drop (i + 1),Pure.PA p 0 = a1_0):=by
     by_cases h : rd (rd_L1 l3 (i : Int)) 0 = a1_0
     · exact .inl h
     · obtain ⟨p,hp,e⟩:=hy
       rcases List.mem_cons.1 hp with rfl | hp
       · exact absurd e h
       · exact .inr ⟨h,p,hp,e⟩
   generalize rd_L1 l3 (i : Int) = p at hx hl_ hi_ hpl hcs;obtain ⟨ad2,e2,hy1⟩:=Kd.at_int hi_ 0 (by omega) (by omega);cases e2;replace hy1:=pw_cell_below HB.out hy1;simp only [Int.toNat_zero,Addr.add_zero'] at hy1;generalize rd p 0 = q at hy1 hcs;have hin1 : (0 < p.length) = True:=eq_true (by omega);have hin2 : ((0 : Int) < (p.length : Int)) = True:=eq_true (by omega);(have hw_ : wrap64 ((i : Int) + 1) = ((i + 1 : Nat) : Int):=by rw [EvKit.wrap64_id (by have:=HL5.out;omega) (by have:=HL5.out;omega)];omega);have HW:=Aside0.mk hw_;have hct:=eq_true ci;clear hw_ ci hi_ hl_ hpl hdr hy HY;have zg1_0 : wr.cell? ⟨g1,0,none⟩ = some (.int .i64 a1_0):=(blk_cell B1.out 0).trans rfl;have fzg1_0:=blk_frozen B1.out 0;have zg1_1 : wr.cell? ⟨g1,1,none⟩ = some (.int .i64 a1_1):=(blk_cell B1.out 1).trans rfl;have fzg1_1:=blk_frozen B1.out 1
   rcases hcs with hq | ⟨hq,hy⟩
   · have e0b : (q == a1_0) = true:=beq_iff_eq.2 hq
     clear hq;go_wp2_with fail
     go_quiet (fail)
     (try go_wp2)
     go_ret2
     exact ⟨rfl,hb_⟩
   · have e0b : (q == a1_0) = false:=beq_eq_false_iff_ne.2 hq
     have HY:=Aside0.mk hy;clear hq hy;go_wp2_with fail
     go_quiet (fail)
     (try go_wp2);rw [HW.out];go_roundg (gk - 1)
     case measure => have:=HI.out;have:=CI.out;omega
     case rel => exact ⟨i + 1,rfl,⟨by have:=HI.out;have:=CI.out;omega⟩,HY,⟨bk_ B0.out⟩,⟨bk_ B1.out⟩,⟨bk_ BA.out⟩,⟨hb_⟩⟩
open Classical in
theorem impl_Cells_plan.calls (a0_0 : Int) (z1 : Option Addr) (c0_1 : Nat) (z0 : List Int) (a1_0 : Int) (a1_1 : Int) (a2 : Int) (A3 : Option Addr) (c3 : Nat) (l3 : List (List Int)) (r0 : List Int) (r1 : Bool) (w : World) (hr0_1 : Kd.C (Kd.int .i64) w z1 z0.length z0) (hc0_1 : z0.length ≤ c0_1) (hr3 : Kd.C (Kd.slice 3 (Kd.int .i64)) w A3 l3.length l3) (hc3 : l3.length ≤ c3)
    (h : impl_Cells_plan.f a0_0 z0 a1_0 a1_1 a2 l3 = some (r0,r1)) :
    Calls Try.prog 61 #[.agg #[.int .i64 a0_0,.slice z1 z0.length c0_1],.agg #[.int .i64 a1_0,.int .i64 a1_1],.int .i64 a2,.slice A3 l3.length c3] w fun e w' => ∃ v0_ : Value,e = .returned (.tuple #[v0_,.bool r1]) ∧ Kd.R (Kd.int .i64) 3 w' w.heap.size (fun _ => True) v0_ r0 ∧ Below w.heap.size w w':=by
  unfold impl_Cells_plan.f at h;by_cases hok : planOk a0_0 z0 a1_0 a1_1 a2 l3
  case neg => rw [if_neg hok] at h;cases h
  rw [if_pos hok] at h
  injection h with h
  injection h with h0 h1
  obtain ⟨hCl,hFs,hFt,h20,hN,hl5,hLen⟩:=hok;obtain ⟨N,rfl⟩ : ∃ N : Nat,a2 = (N : Int):=⟨a2.toNat,by omega⟩;rw [Int.toNat_natCast] at h0 h1 hLen;by_cases hyes : ∃ p ∈ l3,Pure.PA p 0 = a1_0
  · have hpn : planI a0_0 z0 l3 a1_0 a1_1 N = none:=by unfold planI;rw [if_pos hyes]
    rw [hpn] at h0 h1;subst h0 h1;refine (plan_none a0_0 z1 c0_1 z0 a1_0 a1_1 N A3 c3 l3 w hr3 hl5 hLen hyes).mono ?_;rintro e w' ⟨rfl,hb⟩;exact ⟨_,rfl,Kd.R_nil _ _ _ _ _,hb⟩
  · have:=plan_walk a0_0 z1 c0_1 z0 a1_0 a1_1 N A3 c3 l3 w hr0_1 hc0_1 hr3 hc3 hCl hFs hFt (by omega) hl5 hLen (fun p hp e => hyes ⟨p,hp,e⟩) _ rfl
    rw [h0,h1] at this;exact this
end Go.Proofs.Ytcldlljnaijmhaa.Pr
namespace Go.Proofs.Ytcldlljnaijmhaa.Pr
open Go.RowKit Go.Proofs.YtcldlljnaijmhaaW.PrintWords Go.Proofs.YtcldlljnaijmhaaW.PrintLast Go.Proofs.YtcldlljnaijmhaaW.PrintMore
attribute [local go_sem] max2_int min2_int max_two min_two max_three min_three max_four min_four
set_option linter.unusedVariables false
set_option linter.unusedSimpArgs false

set_option maxHeartbeats 8000000 in
set_option maxRecDepth 100000 in
theorem impl_PlanCrowd.calls (k : Nat) (a0_0 : Int) (z6 : Option Addr) (c0_1 : Nat) (z2 : List Int) (A1 : Option Addr) (c1 : Nat) (l1 : List (S49)) (a2 : Int) (r1 : List (List Int)) (r2 : Bool) (w : World) (hr0_1 : Kd.C (Kd.int .i64) w z6 z2.length z2) (hc0_1 : z2.length ≤ c0_1) (hr1 : Kd.C k49 w A1 l1.length l1) (hc1 : l1.length ≤ c1) (h : impl_PlanCrowd.f k a0_0 z2 l1 a2 = some (r1,r2)) :
   Calls Try.prog 39 #[.agg #[.int .i64 a0_0,.slice z6 z2.length c0_1],.slice A1 l1.length c1,.int .i64 a2] w fun e w' => ∃ v0_ : Value,e = .returned (.tuple #[v0_,.bool r2]) ∧ Kd.S (Kd.slice 3 (Kd.int .i64)) 22 w' w.heap.size (fun _ => True) v0_ r1 ∧ Below w.heap.size w w':=by
  have ze5:=Try.underlying39;have ze6:=Try.underlying49;have r0:=Aside0.mk hr0_1;have r3:=Aside0.mk hc0_1;clear hr0_1 hc0_1;have HR1:=Aside0.mk hr1;have HC1:=Aside0.mk hc1;clear hr1 hc1;have HB:=ak (Below.refl w.heap.size w);have H : ((impl_GoodTrips.f k a0_0 z2 l1).bind fun r9 => (if r9 = true then (if a2 < 0 then (impl_PlanCrowd.j0 k l1 a2 true a0_0 z2) else (impl_PlanCrowd.j0 k l1 a2 (decide (a2 > 20)) a0_0 z2)) else (impl_PlanCrowd.j0 k l1 a2 true a0_0 z2))) = some (r1,r2):=h;clear h;have HC4:=Aside0.mk H;clear H;go_enter Try.func39,Try.ntmps39
  go_upto_region 1 with (first | ((with_reducible refine gate_dst (N:=3) rfl ?_);refine box_event ?hg (N:=3) ?hd (cs:=#[.int .i64 a0_0,.slice z6 z2.length c0_1]) (t:=39) ?hr ?_;(case hd => rfl);(case hg => rfl);(case hr => first | (go_simp;done) | (go_simp;rfl));intro z3 hg w5 hbox hb;have z0:=ak (hbox);have zd7 : Aside0 (w.heap.size ≤ z3):=gz_;have zd8 : Aside0 (w.heap.size ≤ z3):=gz_;replace HB:=ak (below_step hb_ hb);clear hb hbox hg))
  (try simp only [Act.put,aS,aZ,aN])
  go_cut [24] (fun v24 wc => ∃ (kq : Nat) (r6 : Bool),v24 = .bool r6 ∧ Aside0 (impl_PlanCrowd.j0 kq l1 a2 r6 a0_0 z2 = some (r1,r2)) ∧ Aside0 (kq ≤ k) ∧ Aside0 (wc.heap[z3]? = some (.cells #[.int .i64 a0_0,(.slice z6 z2.length c0_1)] 39 (0,0))) ∧ Aside0 (Below w.heap.size w wc))
  case first =>
   have H:=HC4.out;clear HC4;replace H:=Option.bind_eq_some_iff.mp H;obtain ⟨r9,A60,H⟩:=H;replace H : (if r9 = true then (if a2 < 0 then (impl_PlanCrowd.j0 k l1 a2 true a0_0 z2) else (impl_PlanCrowd.j0 k l1 a2 (decide (a2 > 20)) a0_0 z2)) else (impl_PlanCrowd.j0 k l1 a2 true a0_0 z2)) = some (r1,r2):=H;have A6:=Aside0.mk A60;clear A60;by_cases c7 : r9 = true
   ·subst c7
    rw [if_pos rfl] at H;by_cases c8 : a2 < 0
    ·rw [if_pos c8] at H
     have r7 : decide (a2 < 0) = true:=decide_eq_true c8;clear c8;(first | rw [r7] | (simp only [i64_w,i32_w];rw [r7]) | skip);have H':=Aside0.mk H;clear H;have zd3:=b20 z0;have zd4:=b21 z0;have zd5:=blk_frozen z0.out 0;have zd6:=blk_frozen z0.out 1;go_wp2_with (first | ((with_reducible refine gate_callee (f:=28) rfl ?_);refine goesL_ (some 15) rfl rfl Try.func28 (by kernel_rfl) rfl #[.agg #[.int .i64 a0_0,.slice z6 z2.length c0_1],.slice A1 l1.length c1] rfl ls_ ?_;(with_reducible refine (impl_GoodTrips.calls k a0_0 _ _ z2 _ _ l1 true _ ?j0 ?j1 ?j2 ?j3 A6.out).mono ?_);(case j0 => exact cb_ r0.out);(case j1 => exact r3.out);(case j2 => exact cb_ HR1.out);(case j3 => exact HC1.out);rintro e w10 ⟨rfl,hb⟩;refine ⟨_,rfl,?_⟩;replace z0:=bb_ z0 hb;replace HB:=ak (below_step hb_ hb);(try clear hb);(try clear hb2);(try clear hk);(try clear hi)));go_meet
     case rel => exact ⟨_,(true),es_,H',⟨by first | omega | exact Nat.le_refl _⟩,⟨bk_ z0.out⟩,⟨hb_⟩⟩
    ·rw [if_neg c8] at H
     have r7 : decide (a2 < 0) = false:=decide_eq_false c8;clear c8;(first | rw [r7] | (simp only [i64_w,i32_w];rw [r7]) | skip);have H':=Aside0.mk H;clear H;have za9:=b20 z0;have zb0:=b21 z0;have zb1:=blk_frozen z0.out 0;have zb2:=blk_frozen z0.out 1;go_wp2_with (first | ((with_reducible refine gate_callee (f:=28) rfl ?_);refine goesL_ (some 15) rfl rfl Try.func28 (by kernel_rfl) rfl #[.agg #[.int .i64 a0_0,.slice z6 z2.length c0_1],.slice A1 l1.length c1] rfl ls_ ?_;(with_reducible refine (impl_GoodTrips.calls k a0_0 _ _ z2 _ _ l1 true _ ?j0 ?j1 ?j2 ?j3 A6.out).mono ?_);(case j0 => exact cb_ r0.out);(case j1 => exact r3.out);(case j2 => exact cb_ HR1.out);(case j3 => exact HC1.out);rintro e w12 ⟨rfl,hb⟩;refine ⟨_,rfl,?_⟩;replace z0:=bb_ z0 hb;replace HB:=ak (below_step hb_ hb);(try clear hb);(try clear hb2);(try clear hk);(try clear hi)));go_meet
     case rel => exact ⟨_,(decide (a2 > 20)),es_,H',⟨by first | omega | exact Nat.le_refl _⟩,⟨bk_ z0.out⟩,⟨hb_⟩⟩
   ·replace c7:=Bool.eq_false_iff.mpr c7
    subst c7;rw [if_neg (show ¬ (false = true) by decide)] at H;have H':=Aside0.mk H;clear H;have zb3:=b20 z0;have zb4:=b21 z0;have zb5:=blk_frozen z0.out 0;have zb6:=blk_frozen z0.out 1;go_wp2_with (first | ((with_reducible refine gate_callee (f:=28) rfl ?_);refine goesL_ (some 15) rfl rfl Try.func28 (by kernel_rfl) rfl #[.agg #[.int .i64 a0_0,.slice z6 z2.length c0_1],.slice A1 l1.length c1] rfl ls_ ?_;(with_reducible refine (impl_GoodTrips.calls k a0_0 _ _ z2 _ _ l1 false _ ?j0 ?j1 ?j2 ?j3 A6.out).mono ?_);(case j0 => exact cb_ r0.out);(case j1 => exact r3.out);(case j2 => exact cb_ HR1.out);(case j3 => exact HC1.out);rintro e w14 ⟨rfl,hb⟩;refine ⟨_,rfl,?_⟩;replace z0:=bb_ z0 hb;replace HB:=ak (below_step hb_ hb);(try clear hb);(try clear hb2);(try clear hk);(try clear hi)));go_meet
    case rel => exact ⟨_,(true),es_,H',⟨by first | omega | exact Nat.le_refl _⟩,⟨bk_ z0.out⟩,⟨hb_⟩⟩
  case rest =>
   clear HC4;obtain ⟨kq,r6,rfl,HA,HJ3,z0,HB⟩:=hcut
   cases kq with
   | zero => exact absurd HA.out (by simp [impl_PlanCrowd.j0])
   | succ kj3 =>
    have H:=HA.out;clear HA;simp only [impl_PlanCrowd.j0] at H;by_cases c15 : r6 = true
    ·subst c15
     rw [if_pos rfl] at H;simp only [Option.some.injEq,Prod.mk.injEq] at H;obtain ⟨rfl,rfl⟩:=H;go_wp2
     go_ret2
     exact ⟨_,er_,by first | exact Kd.S_nil _ _ _ _ _ | exact Kd.N_nil _ _ _ _ _ | exact Kd.V_nil _ _ _ _ _ | exact Kd.Q_nil _ _ _ _ _ | exact Kd.R_nil _ _ _ _ _,hb_⟩
    ·replace c15:=Bool.eq_false_iff.mpr c15
     subst c15;rw [if_neg (show ¬ (false = true) by decide)] at H;have H':=Aside0.mk H;clear H;go_wp2
     go_loopg [8,27] kj3 (fun kq v8 v27 w' => ∃ (z8 : List (List Int)) (z1 : Int),v27 = .int .i64 z1 ∧ Aside0 (impl_PlanCrowd.l0 kq a2 z8 l1 (l1.length : Int) z1 a0_0 z2 = some (r1,r2)) ∧ Aside0 (kq ≤ kj3) ∧ Aside0 (Kd.S (Kd.slice 3 (Kd.int .i64)) 22 w' w.heap.size (fun _ => True) v8 z8) ∧ Aside0 (w'.heap[z3]? = some (.cells #[.int .i64 a0_0,(.slice z6 z2.length c0_1)] 39 (0,0))) ∧ Aside0 (Below w.heap.size w w'))
     case atStart => exact ⟨(([] : List (List Int))),(0),es_,H',⟨Nat.le_refl _⟩,⟨by first | exact Kd.S_nil _ _ _ _ _ | exact Kd.N_nil _ _ _ _ _ | exact Kd.V_nil _ _ _ _ _ | exact Kd.Q_nil _ _ _ _ _ | exact Kd.R_nil _ _ _ _ _⟩,⟨bk_ z0.out⟩,⟨hb_⟩⟩
     case round =>
      clear H';obtain ⟨z8,z1,rfl,HA,HK2,z7,z0,HB⟩:=hrel
      cases gk with
      | zero => exact absurd HA.out (by simp [impl_PlanCrowd.l0])
      | succ k2 =>
       have H:=HA.out;clear HA;simp only [impl_PlanCrowd.l0] at H;by_cases c16 : z1 < (l1.length : Int)
       ·rw [if_pos c16] at H
        have m7 : decide (z1 < (l1.length : Int)) = true:=decide_eq_true c16;clear c16;by_cases c17 : 0 ≤ z1
        ·rw [if_pos c17] at H
         have zd9 : decide (0 ≤ z1) = true:=decide_eq_true c17;clear c17;by_cases c18 : z1 < (l1.length : Int)
         ·rw [if_pos c18] at H
          have ze0 : decide (z1 < (l1.length : Int)) = true:=decide_eq_true c18;clear c18;replace H:=Option.bind_eq_some_iff.mp H;obtain ⟨⟨j7,m1⟩,m2,H⟩:=H;replace H : (if m1 = true then (if z8.length < 5864062014805 then (impl_PlanCrowd.l0 k2 a2 (z8 ++ [j7]) l1 (l1.length : Int) (wrap64 (z1 + 1)) a0_0 z2) else (none)) else (some (([] : List (List Int)),false))) = some (r1,r2):=H;have A19:=Aside0.mk m2;clear m2;by_cases c20 : m1 = true
          ·subst c20
           rw [if_pos rfl] at H;by_cases c21 : z8.length < 5864062014805
           ·rw [if_pos c21] at H
            have m8:=Aside0.mk c21;clear c21;obtain ⟨m3,r4⟩ : ∃ y_ : List (List Int),y_ = (z8 ++ [j7]):=⟨_,rfl⟩;(replace H : (impl_PlanCrowd.l0 k2 a2 m3 l1 (l1.length : Int) (wrap64 (z1 + 1)) a0_0 z2) = some (r1,r2):=by first | (rw [r4];with_reducible exact H) | (have H2_:=(Option.bind_some _ _).symm.trans H;rw [r4];with_reducible exact H2_) | (have H2_:=(Option.bind_some _ _).symm.trans H;with_reducible exact H2_) | with_reducible exact H | (rw [r4];exact H) | exact H);have m9:=Aside0.mk r4;clear r4;have H':=Aside0.mk H;clear H;have j8 : 0 ≤ (z1 : Int):=of_decide_eq_true as_;have j9 : z1 < (l1.length : Int):=of_decide_eq_true as_;obtain ⟨za0,e501,j4,j5⟩:=at_T49 HR1.out z1 j8 j9;cases e501;replace j4:=hc_ HB j4;replace j5:=hc_ HB j5;replace j8:=eq_true j8;replace j9:=eq_true j9;go_wp2_with (first | ((with_reducible refine gate_dst (N:=10) rfl ?_);refine box_event ?hg (N:=10) ?hd (cs:=#[.int .i64 0,.int .i64 0]) (t:=49) ?hr ?_;(case hd => rfl);(case hg => rfl);(case hr => first | (go_simp;done) | (go_simp;rfl));intro z4 hg w22 hbox hb;replace z7:=ak (Kd.S_below (sa_ z7.out) hb);have z5:=ak (hbox);have za1 : Aside0 (w.heap.size ≤ z4):=gz_;have za2 : Aside0 (w.heap.size ≤ z4):=gz_;have z9:=ak ((by rw [hg];exact Nat.ne_of_lt (blk_lt (g:=z3) (o:=.cells #[.int .i64 a0_0,.slice z6 z2.length c0_1] 39 (0,0)) (bk_ z0.out)) : z3 ≠ z4));have j6:=ak ((by rw [hg];exact Nat.ne_of_gt (blk_lt (g:=z3) (o:=.cells #[.int .i64 a0_0,.slice z6 z2.length c0_1] 39 (0,0)) (bk_ z0.out)) : z4 ≠ z3));replace z0:=bb_ z0 hb;replace HB:=ak (below_step hb_ hb);clear hb hbox hg;have ze1:=j6.out;have ze2:=z9.out;have zb7:=b20 z5;have zb8:=b21 z5;have zb9:=blk_frozen z5.out 0;have zc0:=blk_frozen z5.out 1;have zc1:=b20 z0;have zc2:=b21 z0;have zc3:=blk_frozen z0.out 0;have zc4:=blk_frozen z0.out 1;obtain ⟨m0,r8,za4⟩:=Kd.S_slice z7.out;subst za4) | ((with_reducible refine gate_callee (f:=61) rfl ?_);refine goesL_ (some 36) rfl rfl Try.func61 (by kernel_rfl) rfl #[.agg #[.int .i64 a0_0,.slice z6 z2.length c0_1],.agg #[.int .i64 ((rd_T49 l1 z1).f0),.int .i64 ((rd_T49 l1 z1).f1)],.int .i64 a2,.slice m0 z8.length r8] rfl ls_ ?_;(with_reducible refine (impl_Cells_plan.calls a0_0 _ _ z2 ((rd_T49 l1 z1).f0) ((rd_T49 l1 z1).f1) a2 _ _ z8 j7 true _ ?j0 ?j1 ?j2 ?j3 A19.out).mono ?_);(case j0 => exact Kd.C_below r0.out hb_);(case j1 => exact r3.out);(case j2 => refine (Kd.S_reads' (e:=22) (base:=w.heap.size) (ok:=fun k_ => True) (n:=z8.length) (c:=r8) ?_).2.2;exact (by (with_reducible repeat (first | apply Kd.S_alloc | apply Kd.S_drewN | apply Kd.S_drew));exact (Kd.S_mono (Kd.S_far (p:=⟨z4,1,none⟩) (Kd.S_far (p:=⟨z4,0,none⟩) (Kd.S_types z7.out z5.out (by decide)) (fun _ hk => hk.2) (.int .i64 ((rd_T49 l1 z1).f0))) (fun _ hk => hk.2) (.int .i64 ((rd_T49 l1 z1).f1))) (fun _ h_ => h_.1))));(case j3 => exact (Kd.S_reads' z7.out).2.1);rintro e w27 ⟨za5,rfl,ho0,hb⟩;refine ⟨_,rfl,?_⟩;replace z7:=ak (Kd.S_elder' (by (with_reducible repeat (first | apply Kd.S_alloc | apply Kd.S_drewN | apply Kd.S_drew));exact (Kd.S_mono (Kd.S_far (p:=⟨z4,1,none⟩) (Kd.S_far (p:=⟨z4,0,none⟩) (Kd.S_types z7.out z5.out (by decide)) (fun _ hk => hk.2) (.int .i64 ((rd_T49 l1 z1).f0))) (fun _ hk => hk.2) (.int .i64 ((rd_T49 l1 z1).f1))) (fun _ h_ => h_.1))) (Kd.R_base ho0) hb);have r5:=ak (Kd.R_lower ho0 (below_size hb_));replace z0:=ak (blk_below (g:=z3) (o:=.cells #[.int .i64 a0_0,.slice z6 z2.length c0_1] 39 (0,0)) (by (with_reducible repeat (first | refine blk_drewN ?_ _ | refine blk_drew ?_ | refine blk_alloc ?_ _));refine blk_far ?_ z9.out _;(with_reducible repeat (first | refine blk_drewN ?_ _ | refine blk_drew ?_ | refine blk_alloc ?_ _));refine blk_far ?_ z9.out _;exact bk_ z0.out) hb);replace z5:=ak (blk_below (g:=z4) (o:=.cells #[.int .i64 ((rd_T49 l1 z1).f0),.int .i64 ((rd_T49 l1 z1).f1)] 49 (0,0)) (by (with_reducible repeat (first | refine blk_drewN ?_ _ | refine blk_drew ?_ | refine blk_alloc ?_ _));refine blk_put (cs:=#[.int .i64 ((rd_T49 l1 z1).f0),.int .i64 0]) ?_ 1 _ rfl;(with_reducible repeat (first | refine blk_drewN ?_ _ | refine blk_drew ?_ | refine blk_alloc ?_ _));refine blk_put (cs:=#[.int .i64 0,.int .i64 0]) ?_ 0 _ rfl;exact bk_ z5.out) hb);replace HB:=ak (below_step hb_ hb);(try clear hb);(try clear hb2);(try clear hk);(try clear hi);(try clear ho0);obtain ⟨m4,m5,za6⟩:=Kd.R_slice r5.out;subst za6) | ((with_reducible refine gate_builtin (b:=.append) (xs:=#[.tmp 41,.tmp 43]) rfl ?_);at_builtin;refine Kd.S_append (Kd.slice 3 (Kd.int .i64)) (w0:=w) w.heap.size rfl (.tmp 41) (.tmp 43) 27 22 (.slice none 0 0) 24 rfl Try.underlying27 info22 rfl (by decide) (by omega) (.slice m0 z8.length r8) z8 j7 [.slice m4 j7.length m5] (fun _ => True) (fun k_ => some k_ = (.slice m4 j7.length m5 : Value).ownBlock) rfl rfl ?aP (fun k_ hk_ => ((Kd.R_mono (ok':=fun k_ => ((fun _ => True)) k_ ∧ some k_ ≠ (.slice m0 z8.length r8 : Value).ownBlock) (Kd.R_apart' (r5.out) (Kd.S_typed z7.out) (by decide)) (fun k_ hk => ⟨trivial,hk.2⟩))).1 k_ hk_.symm) ?aF ?aO ?aB ?aS ?aL ?_;(case aP => exact Kd.M_row (Kd.R_mono (Kd.R_tight rfl (Kd.R_mono (ok':=fun k_ => ((fun _ => True)) k_ ∧ some k_ ≠ (.slice m0 z8.length r8 : Value).ownBlock) (Kd.R_apart' (r5.out) (Kd.S_typed z7.out) (by decide)) (fun k_ hk => ⟨trivial,hk.2⟩))) (fun _ h_ => h_)));(case aB => exact hb_);(case aF => exact (fun _ _ => trivial));(case aO => exact (by (with_reducible repeat (first | apply Kd.S_alloc | apply Kd.S_drewN | apply Kd.S_drew));exact Kd.S_mono z7.out (fun k_ hk => ⟨trivial,fun e_ => hk.2 e_⟩)));(case aS => exact (below_size hb_));(case aL => have:=m8.out;omega);intro ze7 w28 ho hb hg hat;rw [← m9.out] at ho;replace z0:=ak (blk_grown (g:=z3) (o:=.cells #[.int .i64 a0_0,.slice z6 z2.length c0_1] 39 (0,0)) (bk_ z0.out) hg (Kd.S_ne z7.out z0.out (by decide)));replace z5:=ak (blk_grown (g:=z4) (o:=.cells #[.int .i64 ((rd_T49 l1 z1).f0),.int .i64 ((rd_T49 l1 z1).f1)] 49 (0,0)) (bk_ z5.out) hg (Kd.S_ne z7.out z5.out (by decide)));have za3:=ak (ho);replace HB:=ak (hb);clear z7 r5;clear ho hb hg hat))
            go_roundg k2
            case measure => have:=HJ3.out;have:=HK2.out;omega
            case rel => exact ⟨(m3),(wrap64 (z1 + 1)),es_,H',⟨by have:=HJ3.out;have:=HK2.out;omega⟩,⟨sa_ za3.out⟩,⟨bk_ z0.out⟩,⟨hb_⟩⟩
           ·rw [if_neg c21] at H
            exact absurd H (by simp)
          ·replace c20:=Bool.eq_false_iff.mpr c20
           subst c20;rw [if_neg (show ¬ (false = true) by decide)] at H;simp only [Option.some.injEq,Prod.mk.injEq] at H;obtain ⟨rfl,rfl⟩:=H;have j8 : 0 ≤ (z1 : Int):=of_decide_eq_true as_;have j9 : z1 < (l1.length : Int):=of_decide_eq_true as_;obtain ⟨za0,e501,j4,j5⟩:=at_T49 HR1.out z1 j8 j9;cases e501;replace j4:=hc_ HB j4;replace j5:=hc_ HB j5;replace j8:=eq_true j8;replace j9:=eq_true j9;go_wp2_with (first | ((with_reducible refine gate_dst (N:=10) rfl ?_);refine box_event ?hg (N:=10) ?hd (cs:=#[.int .i64 0,.int .i64 0]) (t:=49) ?hr ?_;(case hd => rfl);(case hg => rfl);(case hr => first | (go_simp;done) | (go_simp;rfl));intro z4 hg w30 hbox hb;replace z7:=ak (Kd.S_below (sa_ z7.out) hb);have z5:=ak (hbox);have za1 : Aside0 (w.heap.size ≤ z4):=gz_;have za2 : Aside0 (w.heap.size ≤ z4):=gz_;have z9:=ak ((by rw [hg];exact Nat.ne_of_lt (blk_lt (g:=z3) (o:=.cells #[.int .i64 a0_0,.slice z6 z2.length c0_1] 39 (0,0)) (bk_ z0.out)) : z3 ≠ z4));have j6:=ak ((by rw [hg];exact Nat.ne_of_gt (blk_lt (g:=z3) (o:=.cells #[.int .i64 a0_0,.slice z6 z2.length c0_1] 39 (0,0)) (bk_ z0.out)) : z4 ≠ z3));replace z0:=bb_ z0 hb;replace HB:=ak (below_step hb_ hb);clear hb hbox hg;have ze3:=j6.out;have ze4:=z9.out;have zc5:=b20 z5;have zc6:=b21 z5;have zc7:=blk_frozen z5.out 0;have zc8:=blk_frozen z5.out 1;have zc9:=b20 z0;have zd0:=b21 z0;have zd1:=blk_frozen z0.out 0;have zd2:=blk_frozen z0.out 1;obtain ⟨za7,m6,za8⟩:=Kd.S_slice z7.out;subst za8) | ((with_reducible refine gate_callee (f:=61) rfl ?_);refine goesL_ (some 36) rfl rfl Try.func61 (by kernel_rfl) rfl #[.agg #[.int .i64 a0_0,.slice z6 z2.length c0_1],.agg #[.int .i64 ((rd_T49 l1 z1).f0),.int .i64 ((rd_T49 l1 z1).f1)],.int .i64 a2,.slice za7 z8.length m6] rfl ls_ ?_;(with_reducible refine (impl_Cells_plan.calls a0_0 _ _ z2 ((rd_T49 l1 z1).f0) ((rd_T49 l1 z1).f1) a2 _ _ z8 j7 false _ ?j0 ?j1 ?j2 ?j3 A19.out).mono ?_);(case j0 => exact Kd.C_below r0.out hb_);(case j1 => exact r3.out);(case j2 => refine (Kd.S_reads' (e:=22) (base:=w.heap.size) (ok:=fun k_ => True) (n:=z8.length) (c:=m6) ?_).2.2;exact (by (with_reducible repeat (first | apply Kd.S_alloc | apply Kd.S_drewN | apply Kd.S_drew));exact (Kd.S_mono (Kd.S_far (p:=⟨z4,1,none⟩) (Kd.S_far (p:=⟨z4,0,none⟩) (Kd.S_types z7.out z5.out (by decide)) (fun _ hk => hk.2) (.int .i64 ((rd_T49 l1 z1).f0))) (fun _ hk => hk.2) (.int .i64 ((rd_T49 l1 z1).f1))) (fun _ h_ => h_.1))));(case j3 => exact (Kd.S_reads' z7.out).2.1);rintro e w35 ⟨za5,rfl,ho0,hb⟩;refine ⟨_,rfl,?_⟩;replace z7:=ak (Kd.S_elder' (by (with_reducible repeat (first | apply Kd.S_alloc | apply Kd.S_drewN | apply Kd.S_drew));exact (Kd.S_mono (Kd.S_far (p:=⟨z4,1,none⟩) (Kd.S_far (p:=⟨z4,0,none⟩) (Kd.S_types z7.out z5.out (by decide)) (fun _ hk => hk.2) (.int .i64 ((rd_T49 l1 z1).f0))) (fun _ hk => hk.2) (.int .i64 ((rd_T49 l1 z1).f1))) (fun _ h_ => h_.1))) (Kd.R_base ho0) hb);have r5:=ak (Kd.R_lower ho0 (below_size hb_));replace z0:=ak (blk_below (g:=z3) (o:=.cells #[.int .i64 a0_0,.slice z6 z2.length c0_1] 39 (0,0)) (by (with_reducible repeat (first | refine blk_drewN ?_ _ | refine blk_drew ?_ | refine blk_alloc ?_ _));refine blk_far ?_ z9.out _;(with_reducible repeat (first | refine blk_drewN ?_ _ | refine blk_drew ?_ | refine blk_alloc ?_ _));refine blk_far ?_ z9.out _;exact bk_ z0.out) hb);replace z5:=ak (blk_below (g:=z4) (o:=.cells #[.int .i64 ((rd_T49 l1 z1).f0),.int .i64 ((rd_T49 l1 z1).f1)] 49 (0,0)) (by (with_reducible repeat (first | refine blk_drewN ?_ _ | refine blk_drew ?_ | refine blk_alloc ?_ _));refine blk_put (cs:=#[.int .i64 ((rd_T49 l1 z1).f0),.int .i64 0]) ?_ 1 _ rfl;(with_reducible repeat (first | refine blk_drewN ?_ _ | refine blk_drew ?_ | refine blk_alloc ?_ _));refine blk_put (cs:=#[.int .i64 0,.int .i64 0]) ?_ 0 _ rfl;exact bk_ z5.out) hb);replace HB:=ak (below_step hb_ hb);(try clear hb);(try clear hb2);(try clear hk);(try clear hi);(try clear ho0)))
           go_ret2
           exact ⟨_,er_,by first | exact Kd.S_nil _ _ _ _ _ | exact Kd.N_nil _ _ _ _ _ | exact Kd.V_nil _ _ _ _ _ | exact Kd.Q_nil _ _ _ _ _ | exact Kd.R_nil _ _ _ _ _,hb_⟩
         ·rw [if_neg c18] at H
          exact absurd H (by simp)
        ·rw [if_neg c17] at H
         exact absurd H (by simp)
       ·rw [if_neg c16] at H
        have m7 : decide (z1 < (l1.length : Int)) = false:=decide_eq_false c16;clear c16;simp only [Option.some.injEq,Prod.mk.injEq] at H;obtain ⟨rfl,rfl⟩:=H;go_wp2
        go_ret2
        exact ⟨_,er_,by (with_reducible repeat (first | apply Kd.S_alloc | apply Kd.S_drewN | apply Kd.S_drew));exact z7.out,hb_⟩

end Go.Proofs.Ytcldlljnaijmhaa.Pr
