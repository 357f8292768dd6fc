-- Joined and pruned by wip/tools/prune.py out of this session's own texts (Gw, Pr19, Pr6, Pr7)
import Derived.Test.YtdihodboopeakaaDoorZfw5
import Derived.Outline
/- impl.goodWish by hand: the walk. -/
namespace Go.Proofs.YtdihodboopeakaaDoor.Pr
open Go.RowKit Go.Proofs.YtdihodboopeakaaDoorW.PrintWords Go.Proofs.YtdihodboopeakaaDoorW.PrintLast Go.Proofs.YtdihodboopeakaaDoorW.PrintMore
set_option linter.unusedVariables false
set_option linter.unusedSimpArgs false
open EvKit in
theorem has_k (l : List ByteArray) (s : ByteArray) (hl : l.length ≤ 1048576) : ∃ k,slices_Contains_string_string.f k l s = some (inB l s):=by
  have key (d : Nat) : ∀ i : Nat,i + d = l.length → ∃ r : Int,Ev (fun k => slices_Index_string_string.l0 k l s l.length i) r ∧ (decide (r ≥ 0) = inB (l.drop i) s):=by
    induction d with
    | zero =>
      intro i hi;refine ⟨-1,?_,?_⟩
      · apply Ev.succ
        simp only [slices_Index_string_string.l0,show ¬ ((i : Int) < (l.length : Int)) by omega,if_false];exact Ev.some rfl
      · rw [List.drop_of_length_le (by omega)]
        rfl
    | succ d ih =>
      intro i hi
      have hd : l.drop i = l.getD i ByteArray.empty :: l.drop (i + 1):=by
        rw [List.drop_eq_getElem_cons (by omega)]
        congr 1
        simp [List.getD_eq_getElem?_getD,List.getElem?_eq_getElem (show i < l.length by omega)]
      have e : rdOf ByteArray.empty l (i : Int) = l.getD i ByteArray.empty:=rfl;by_cases c : s.toList = (l.getD i ByteArray.empty).toList
      · refine ⟨i,?_,?_⟩
        · apply Ev.succ
          simp only [slices_Index_string_string.l0,show ((i : Int) < (l.length : Int)) by omega,show (0 : Int) ≤ (i : Int) by omega,if_true,e];exact Ev.pos c (Ev.some rfl)
        · rw [hd]
          unfold inB;rw [List.any_cons,decide_eq_true c.symm,Bool.true_or];exact decide_eq_true (by omega)
      · obtain ⟨r,h1,h2⟩:=ih (i + 1) (by omega)
        refine ⟨r,?_,?_⟩
        · apply Ev.succ
          simp only [slices_Index_string_string.l0,show ((i : Int) < (l.length : Int)) by omega,show (0 : Int) ≤ (i : Int) by omega,if_true,e];rw [show wrap64 ((i : Int) + 1) = ((i + 1 : Nat) : Int) by rw [wrap64_id (by omega) (by omega)];omega];exact Ev.neg c h1
        · rw [h2,hd]
          unfold inB;rw [List.any_cons,decide_eq_false (fun h => c h.symm),Bool.false_or]
  obtain ⟨r,h1,h2⟩:=key l.length 0 (by omega)
  have h3 : Ev (fun k => slices_Contains_string_string.f k l s) (inB l s):=by
    unfold slices_Contains_string_string.f slices_Index_string_string.f;exact Ev.bnd (by simpa using h1) (Ev.some (by simpa using h2))
  exact Ev.rounds h3
/-- The answer from the i-th list on. -/
def gwRes (l0 l1 : List ByteArray) : Nat → Bool
  | 0 => gwB l0 && gwB l1
  | 1 => gwB l1
  | _ => true
theorem gwFrom_step (l : List ByteArray) (j : Nat) (h : j < l.length) : gwFrom l (l.length - j) = ((nameB (l.getD j ByteArray.empty) && !inB (l.take j) (l.getD j ByteArray.empty)) && gwFrom l (l.length - (j + 1))):=by
  (have e : l.length - j = (l.length - (j + 1)) + 1:=by omega);rw [e];simp only [gwFrom];rw [show l.length - (l.length - (j + 1) + 1) = j by omega]
theorem okT_at {l : List ByteArray} (h : okT l = true) (j : Nat) (hj : j < l.length) : (l.getD j ByteArray.empty).size ≤ 1048576:=by
  have h2:=List.all_eq_true.1 (Bool.and_eq_true_iff.1 h).2 (l.getD j ByteArray.empty) (EvKit.getD_mem l j _ hj);exact of_decide_eq_true h2
set_option maxHeartbeats 4000000 in
set_option maxRecDepth 100000 in
theorem gw_walk (A0 : Option Addr) (c0 : Nat) (l0 : List ByteArray) (A1 : Option Addr) (c1 : Nat) (l1 : List ByteArray) (r : Bool) (w : World) (hr0 : Kd.C Kd.string w A0 l0.length l0) (hc0 : l0.length ≤ c0) (hr1 : Kd.C Kd.string w A1 l1.length l1) (hc1 : l1.length ≤ c1)
    (k0 : okT l0 = true) (k1 : okT l1 = true) (h : gwRes l0 l1 0 = r) (ht : Tabs w) :
    Calls Tryd.prog 55 #[.agg #[.slice A0 l0.length c0,.slice A1 l1.length c1]] w fun e w' => e = .returned (.bool r) ∧ Below w.heap.size w w':=by
  have hu36:=Tryd.underlying36;have HR0:=Aside0.mk hr0;have HC0:=Aside0.mk hc0;have HR1:=Aside0.mk hr1;have HC1:=Aside0.mk hc1;have K0:=Aside0.mk k0;have K1:=Aside0.mk k1;have H:=Aside0.mk h;have HTb_:=Aside0.mk ht;clear hr0 hc0 hr1 hc1 k0 k1 h ht;go_enter Tryd.func55,Tryd.ntmps55;go_wp2_with (first | ((with_reducible refine gate_dst (N:=1) rfl ?_);refine box_event ?hg (N:=1) ?hd (cs:=#[.slice A0 l0.length c0,.slice A1 l1.length c1]) (t:=36) ?hr ?_;(case hd => rfl);(case hg => rfl);(case hr => first | (go_simp;done) | (go_simp;rfl));intro gb hg w1 hbox hb;have hcz0 : w1.cell? ⟨gb,0,none⟩ = some (.slice A0 l0.length c0):=(blk_cell hbox 0).trans rfl;have hcz1 : w1.cell? ⟨gb,1,none⟩ = some (.slice A1 l1.length c1):=(blk_cell hbox 1).trans rfl;have hfz0:=blk_frozen hbox 0;have HB1:=Aside0.mk hb;clear hg hb hbox));have HB2 : Aside0 (Below w.heap.size w (w1.alloc (.cells #[.slice A0 l0.length c0,.slice A1 l1.length c1] 22))):=⟨below_step HB1.out (below_alloc (Below.refl _ _) _)⟩;have BK2 : Aside0 ((w1.alloc (.cells #[.slice A0 l0.length c0,.slice A1 l1.length c1] 22)).heap[w1.heap.size]? = some (.cells #[.slice A0 l0.length c0,.slice A1 l1.length c1] 22 (0,0))):=⟨blk_new _ _⟩;obtain ⟨gy,hgy⟩ : ∃ g,w1.heap.size = g:=⟨_,rfl⟩;rw [hgy] at BK2 ⊢;generalize w1.alloc (.cells #[.slice A0 l0.length c0,.slice A1 l1.length c1] 22) = w2 at *;clear hgy HB1 hcz0 hcz1 hfz0
  go_loopg [13] 2 (fun g v13 w' => ∃ i : Nat,v13 = .int .i64 i ∧ Aside0 (i + g = 2) ∧ Aside0 (gwRes l0 l1 i = r) ∧ Aside0 (Below w.heap.size w w') ∧ Aside0 (w'.heap[gy]? = some (.cells #[.slice A0 l0.length c0,.slice A1 l1.length c1] 22 (0,0))))
  case atStart => exact ⟨0,rfl,⟨rfl⟩,H,HB2,BK2⟩
  case round =>
   clear H HB2 BK2;obtain ⟨i,rfl,HG,H,HB,BK⟩:=hrel;by_cases ci : i < 2
   ·obtain ⟨A,c,l,hcell,HR,HC,HK,HS⟩ : ∃ (A : Option Addr) (c : Nat) (l : List ByteArray),wr.cell? ⟨gy,i,none⟩ = some (.slice A l.length c) ∧ Aside0 (Kd.C Kd.string w A l.length l) ∧ Aside0 (l.length ≤ c) ∧ Aside0 (okT l = true) ∧ Aside0 ((gwB l && gwRes l0 l1 (i + 1)) = r):=by
      (have h01 : i = 0 ∨ i = 1:=by omega)
      rcases h01 with rfl | rfl
      · exact ⟨A0,c0,l0,(blk_cell BK.out 0).trans rfl,HR0,HC0,K0,H⟩
      · exact ⟨A1,c1,l1,(blk_cell BK.out 1).trans rfl,HR1,HC1,K1,⟨by rw [← H.out];simp [gwRes]⟩⟩
    have cib : decide ((i : Int) < 2) = true:=decide_eq_true (by omega);have CI:=Aside0.mk ci;by_cases c6 : l.length ≤ 6
    case neg =>
     have c6b : decide (6 < (l.length : Int)) = true:=decide_eq_true (by omega);have hr : Aside0 (r = false):=⟨by rw [← HS.out];unfold gwB;rw [decide_eq_false c6];rfl⟩;clear c6;go_wp2_with fail;go_ret;exact ⟨by rw [hr.out];rfl,HB.out⟩
    case pos =>
     have c6b : decide (6 < (l.length : Int)) = false:=decide_eq_false (by omega);have HS2 : Aside0 ((gwFrom l (l.length - 0) && gwRes l0 l1 (i + 1)) = r):=⟨by rw [← HS.out];unfold gwB;rw [decide_eq_true c6,Bool.true_and];rfl⟩;have C6:=Aside0.mk c6;clear c6 HS;go_wp2_with fail
     go_loopg [22] l.length (fun g v22 w' => ∃ j : Nat,v22 = .int .i64 j ∧ Aside0 (j + g = l.length) ∧ Aside0 ((gwFrom l (l.length - j) && gwRes l0 l1 (i + 1)) = r) ∧ Aside0 (Below w.heap.size w w') ∧ Aside0 (w'.heap[gy]? = some (.cells #[.slice A0 l0.length c0,.slice A1 l1.length c1] 22 (0,0))))
     case atStart => exact ⟨0,rfl,⟨Nat.zero_add _⟩,HS2,HB,BK⟩
     case round =>
      clear HS2 HB BK hcell;obtain ⟨j,rfl,HJ,HS,HB,BK⟩:=hrel;by_cases cj : j < l.length
      ·have cjb : decide ((j : Int) < (l.length : Int)) = true:=decide_eq_true (by omega)
       have cjc : decide (j < l.length) = true:=decide_eq_true cj;have CJ:=Aside0.mk cj;have hst:=gwFrom_step l j cj;have hsz:=okT_at HK.out j cj;obtain ⟨ad,e1,hx⟩:=Kd.at_string HR.out (j : Int) (by omega) (by omega);have e0 : rdOf ByteArray.empty l (j : Int) = l.getD j ByteArray.empty:=rfl;rw [e0,Int.toNat_natCast] at hx;have hx2:=hc_ HB hx;subst e1;obtain ⟨s,hs⟩ : ∃ s,l.getD j ByteArray.empty = s:=⟨_,rfl⟩;rw [hs] at hx2 hst hsz;have HN : Aside0 (impl_goodName.f s = some (nameB s)):=⟨by unfold impl_goodName.f;rw [if_pos (by omega)];rfl⟩;have hps:=hst;rw [hps] at HS;have HT2:=Aside0.mk hs;have cjt:=eq_true cj;clear hst hps hx hs e0 cj hsz;generalize nameB s = nb at HN HS
       cases nb with
       | false =>
        have hr : Aside0 (r = false):=⟨by rw [← HS.out];simp⟩;go_wp2_with (go_at_call 65;refine (impl_goodName.calls s false _ HN.out).mono ?_;rintro e w5 ⟨rfl,hb⟩);go_ret;exact ⟨by rw [hr.out];rfl,below_step HB.out hb⟩
       | true =>
        obtain ⟨k,hk⟩:=has_k (l.take j) s (by rw [List.length_take];have:=C6.out;omega);have HK2:=Aside0.mk hk;have HCT:=Aside0.mk (Kd.C_take HR.out (m:=j) (by have:=CJ.out;omega));(have hln : (l.take j).length = j:=by rw [List.length_take];have:=CJ.out;omega);have HLN:=Aside0.mk hln;clear hk hln;generalize inB (l.take j) s = ib at HK2 HS;(have hjc : j ≤ l.length:=by have:=CJ.out;omega);have hjk:=eq_true (Nat.le_trans hjc HC.out);replace hjc:=eq_true hjc
        cases ib with
        | true =>
         have hr : Aside0 (r = false):=⟨by rw [← HS.out];simp⟩;go_wp2_with (first | (go_at_call 65;refine (impl_goodName.calls s true _ HN.out).mono ?_;rintro e w5 ⟨rfl,hb⟩;have HB5:=Aside0.mk (below_step HB.out hb);clear hx2) | (go_at_call 73;refine calls_of_args (args':=#[.slice (some ad) (l.take j).length c,.string s]) (by rw [HLN.out]) ?_;refine (slices_Contains_string_string.calls k (some ad) c (l.take j) s true _ (Kd.C_below HCT.out HB5.out) (by rw [HLN.out];exact of_eq_true hjk) HK2.out).mono ?_;rintro e w6 ⟨rfl,hd⟩));go_ret;exact ⟨by rw [hr.out];rfl,below_step HB5.out hd.below⟩
        | false =>
         go_wp2_with (first | (go_at_call 65;refine (impl_goodName.calls s true _ HN.out).mono ?_;rintro e w5 ⟨rfl,hb⟩;have HB5:=Aside0.mk (below_step HB.out hb);have BK5:=Aside0.mk (blk_below BK.out hb);clear hx2) | (go_at_call 73;refine calls_of_args (args':=#[.slice (some ad) (l.take j).length c,.string s]) (by rw [HLN.out]) ?_;refine (slices_Contains_string_string.calls k (some ad) c (l.take j) s false _ (Kd.C_below HCT.out HB5.out) (by rw [HLN.out];exact of_eq_true hjk) HK2.out).mono ?_;rintro e w6 ⟨rfl,hd⟩));go_roundg (gk - 1)
         case measure => have:=HJ.out;have:=CJ.out;omega
         case rel => exact ⟨j + 1,by rw [show wrap64 ((j : Int) + 1) = ((j + 1 : Nat) : Int) by have:=CJ.out;have:=C6.out;unfold wrap64;omega],⟨by have:=HJ.out;have:=CJ.out;omega⟩,⟨by rw [← HS.out];simp⟩,⟨below_step HB5.out hd.below⟩,⟨blk_below BK5.out hd.below⟩⟩
      ·have cjb : decide ((j : Int) < (l.length : Int)) = false:=decide_eq_false (by omega)
       have cjc : decide (j < l.length) = false:=decide_eq_false cj;have hr : Aside0 (gwRes l0 l1 (i + 1) = r):=⟨by rw [← HS.out,show l.length - j = 0 by omega];simp [gwFrom]⟩;clear cj;go_wp2_with fail;go_roundg (2 - (i + 1))
       case measure => have:=HG.out;have:=CI.out;omega
       case rel => exact ⟨i + 1,by go_num,⟨by have:=CI.out;omega⟩,hr,HB,BK⟩
   ·have cib : decide ((i : Int) < 2) = false:=decide_eq_false (by omega)
    have hr : Aside0 (r = true):=⟨by have e2 : i = 2:=(by have:=HG.out;omega);subst e2;exact H.out.symm⟩;clear ci;go_wp2_with fail;go_ret;exact ⟨by rw [hr.out];rfl,HB.out⟩
theorem impl_goodWish.calls (z2 : Option Addr) (c0_0 : Nat) (z0 : List ByteArray) (z3 : Option Addr) (c0_1 : Nat) (z1 : List ByteArray) (r : Bool) (w : World) (hr0_0 : Kd.C Kd.string w z2 z0.length z0) (hc0_0 : z0.length ≤ c0_0) (hr0_1 : Kd.C Kd.string w z3 z1.length z1) (hc0_1 : z1.length ≤ c0_1) (h : impl_goodWish.f z0 z1 = some r) (ht_ : Tabs w:=by exact tb_ HTb_) :
    Calls Tryd.prog 55 #[.agg #[.slice z2 z0.length c0_0,.slice z3 z1.length c0_1]] w fun e w' => e = .returned (.bool r) ∧ Below w.heap.size w w':=by
  unfold impl_goodWish.f at h;by_cases k0 : okT z0 = true
  · rw [if_pos k0] at h
    by_cases k1 : okT z1 = true
    · rw [if_pos k1] at h
      injection h with h
      exact gw_walk z2 c0_0 z0 z3 c0_1 z1 r w hr0_0 hc0_0 hr0_1 hc0_1 k0 k1 h ht_
    · rw [if_neg k1] at h;cases h
  · rw [if_neg k0] at h;cases h
end Go.Proofs.YtdihodboopeakaaDoor.Pr
namespace Go.Proofs.YtdihodboopeakaaDoor.Pr
open Go.RowKit Go.Proofs.YtdihodboopeakaaDoorW.PrintWords Go.Proofs.YtdihodboopeakaaDoorW.PrintLast Go.Proofs.YtdihodboopeakaaDoorW.PrintMore
attribute [local go_sem] max2_int min2_int max_two min_two max_three min_three max_four min_four
set_option linter.unusedVariables false
set_option linter.unusedSimpArgs false

set_option maxHeartbeats 8000000 in
set_option maxRecDepth 100000 in
theorem impl_WishMet.calls (k : Nat) (j7 : Option Addr) (c0_0 : Nat) (z5 : List ByteArray) (j8 : Option Addr) (c0_1 : Nat) (z6 : List Bool) (j9 : Option Addr) (c0_2 : Nat) (z2 : List (List Int)) (r5 : Option Addr) (c1_0 : Nat) (z7 : List ByteArray) (r6 : Option Addr) (c1_1 : Nat) (z8 : List ByteArray) (A2 : Option Addr) (c2 : Nat) (l2 : List Int) (r1 : Bool) (r2 : Bool) (w : World) (hr0_0 : Kd.C Kd.string w j7 z5.length z5) (hc0_0 : z5.length ≤ c0_0) (hr0_1 : Kd.C Kd.bool w j8 z6.length z6) (hc0_1 : z6.length ≤ c0_1) (hr0_2 : Kd.C (Kd.slice 3 (Kd.int .i64)) w j9 z2.length z2) (hc0_2 : z2.length ≤ c0_2) (hr1_0 : Kd.C Kd.string w r5 z7.length z7) (hc1_0 : z7.length ≤ c1_0) (hr1_1 : Kd.C Kd.string w r6 z8.length z8) (hc1_1 : z8.length ≤ c1_1) (hr2 : Kd.C (Kd.int .i64) w A2 l2.length l2) (hc2 : l2.length ≤ c2) (h : impl_WishMet.f k z5 z6 z2 z7 z8 l2 = some (r1,r2)) (ht_ : Tabs w:=by exact tb_ HTb_) :
   Calls Tryd.prog 38 #[.agg #[.slice j7 z5.length c0_0,.slice j8 z6.length c0_1,.slice j9 z2.length c0_2],.agg #[.slice r5 z7.length c1_0,.slice r6 z8.length c1_1],.slice A2 l2.length c2] w fun e w' => e = .returned (.tuple #[.bool r1,.bool r2]) ∧ Below w.heap.size w w':=by
  have HTb_:=Aside0.mk ht_;clear ht_;have zs6:=Tryd.underlying34;have zs7:=Tryd.underlying36;have m2:=Aside0.mk hr0_0;have m3:=Aside0.mk hc0_0;clear hr0_0 hc0_0;have m4:=Aside0.mk hr0_1;have m5:=Aside0.mk hc0_1;clear hr0_1 hc0_1;have m0:=Aside0.mk hr0_2;have m6:=Aside0.mk hc0_2;clear hr0_2 hc0_2;have za2:=Aside0.mk hr1_0;have za3:=Aside0.mk hc1_0;clear hr1_0 hc1_0;have za4:=Aside0.mk hr1_1;have za5:=Aside0.mk hc1_1;clear hr1_1 hc1_1;have HR2:=Aside0.mk hr2;have HC2:=Aside0.mk hc2;clear hr2 hc2;have HB:=ak (Below.refl w.heap.size w);have H : ((impl_GoodBoard.f k z5 z6 z2).bind fun zc0 => (if zc0 = true then ((impl_goodWish.f z7 z8).bind fun zb7 => (if zb7 = true then (if (l2.length : Int) < 1 then (impl_WishMet.j0 k l2 true z5 z6 z2 z7 z8) else (impl_WishMet.j0 k l2 (decide ((l2.length : Int) > 60)) z5 z6 z2 z7 z8)) else (impl_WishMet.j0 k l2 true z5 z6 z2 z7 z8))) else (impl_WishMet.j0 k l2 true z5 z6 z2 z7 z8))) = some (r1,r2):=h;clear h;have HC4:=Aside0.mk H;clear H;go_enter Tryd.func38,Tryd.ntmps38
  go_upto_region 1 with (first | ((with_reducible refine gate_dst (N:=3) rfl ?_);(try (refine gate_guard (by rfl) ?_;dsimp only));refine box_event ?hg (N:=3) ?hd (cs:=#[.slice j7 z5.length c0_0,.slice j8 z6.length c0_1,.slice j9 z2.length c0_2]) (t:=34) ?hr ?_;(case hd => rfl);(case hg => rfl);(case hr => first | (go_simp;done) | (go_simp;rfl));intro z3 hg w5 hbox hb;have z0:=ak (hbox);have zd1 : Aside0 (w.heap.size ≤ z3):=gz_;have zd2 : Aside0 (w.heap.size ≤ z3):=gz_;replace HB:=ak (below_step hb_ hb);clear hb hbox hg) | ((with_reducible refine gate_dst (N:=4) rfl ?_);(try (refine gate_guard (by rfl) ?_;dsimp only));refine box_event ?hg (N:=4) ?hd (cs:=#[.slice r5 z7.length c1_0,.slice r6 z8.length c1_1]) (t:=36) ?hr ?_;(case hd => rfl);(case hg => rfl);(case hr => first | (go_simp;done) | (go_simp;rfl));intro j1 hg w6 hbox hb;have z1:=ak (hbox);have zd3 : Aside0 (w.heap.size ≤ j1):=gz_;have zd4 : Aside0 (w.heap.size ≤ j1):=gz_;have j3:=ak ((by rw [hg];exact Nat.ne_of_lt (blk_lt (g:=z3) (o:=.cells #[.slice j7 z5.length c0_0,.slice j8 z6.length c0_1,.slice j9 z2.length c0_2] 34 (0,0)) (bk_ z0.out)) : z3 ≠ j1));have j4:=ak ((by rw [hg];exact Nat.ne_of_gt (blk_lt (g:=z3) (o:=.cells #[.slice j7 z5.length c0_0,.slice j8 z6.length c0_1,.slice j9 z2.length c0_2] 34 (0,0)) (bk_ z0.out)) : j1 ≠ z3));replace z0:=bb_ z0 hb;replace HB:=ak (below_step hb_ hb);clear hb hbox hg))
  (repeat (go_quiet (fail);go_upto_region 1 with (first | ((with_reducible refine gate_dst (N:=3) rfl ?_);(try (refine gate_guard (by rfl) ?_;dsimp only));refine box_event ?hg (N:=3) ?hd (cs:=#[.slice j7 z5.length c0_0,.slice j8 z6.length c0_1,.slice j9 z2.length c0_2]) (t:=34) ?hr ?_;(case hd => rfl);(case hg => rfl);(case hr => first | (go_simp;done) | (go_simp;rfl));intro z3 hg w5 hbox hb;have z0:=ak (hbox);have zd1 : Aside0 (w.heap.size ≤ z3):=gz_;have zd2 : Aside0 (w.heap.size ≤ z3):=gz_;replace HB:=ak (below_step hb_ hb);clear hb hbox hg) | ((with_reducible refine gate_dst (N:=4) rfl ?_);(try (refine gate_guard (by rfl) ?_;dsimp only));refine box_event ?hg (N:=4) ?hd (cs:=#[.slice r5 z7.length c1_0,.slice r6 z8.length c1_1]) (t:=36) ?hr ?_;(case hd => rfl);(case hg => rfl);(case hr => first | (go_simp;done) | (go_simp;rfl));intro j1 hg w6 hbox hb;have z1:=ak (hbox);have zd3 : Aside0 (w.heap.size ≤ j1):=gz_;have zd4 : Aside0 (w.heap.size ≤ j1):=gz_;have j3:=ak ((by rw [hg];exact Nat.ne_of_lt (blk_lt (g:=z3) (o:=.cells #[.slice j7 z5.length c0_0,.slice j8 z6.length c0_1,.slice j9 z2.length c0_2] 34 (0,0)) (bk_ z0.out)) : z3 ≠ j1));have j4:=ak ((by rw [hg];exact Nat.ne_of_gt (blk_lt (g:=z3) (o:=.cells #[.slice j7 z5.length c0_0,.slice j8 z6.length c0_1,.slice j9 z2.length c0_2] 34 (0,0)) (bk_ z0.out)) : j1 ≠ z3));replace z0:=bb_ z0 hb;replace HB:=ak (below_step hb_ hb);clear hb hbox hg))));(try simp only [Act.put,List.setIfInBounds_toArray,List.set_cons_zero,List.set_cons_succ])
  go_cut [29] (fun v29 wc => ∃ (kq : Nat) (zb9 : Bool),v29 = .bool zb9 ∧ Aside0 (impl_WishMet.j0 kq l2 zb9 z5 z6 z2 z7 z8 = some (r1,r2)) ∧ Aside0 (kq ≤ k) ∧ Aside0 (wc.heap[z3]? = some (.cells #[(.slice j7 z5.length c0_0),(.slice j8 z6.length c0_1),(.slice j9 z2.length c0_2)] 34 (0,0))) ∧ Aside0 (wc.heap[j1]? = some (.cells #[(.slice r5 z7.length c1_0),(.slice r6 z8.length c1_1)] 36 (0,0))) ∧ Aside0 (Below w.heap.size w wc))
  case first =>
   have H:=HC4.out;clear HC4;replace H:=Option.bind_eq_some_iff.mp H;obtain ⟨zc0,A70,H⟩:=H;replace H : (if zc0 = true then ((impl_goodWish.f z7 z8).bind fun zb7 => (if zb7 = true then (if (l2.length : Int) < 1 then (impl_WishMet.j0 k l2 true z5 z6 z2 z7 z8) else (impl_WishMet.j0 k l2 (decide ((l2.length : Int) > 60)) z5 z6 z2 z7 z8)) else (impl_WishMet.j0 k l2 true z5 z6 z2 z7 z8))) else (impl_WishMet.j0 k l2 true z5 z6 z2 z7 z8)) = some (r1,r2):=H;have A7:=Aside0.mk A70;clear A70;by_cases c8 : zc0 = true
   ·subst c8
    rw [if_pos rfl] at H;replace H:=Option.bind_eq_some_iff.mp H;obtain ⟨zb7,A90,H⟩:=H;replace H : (if zb7 = true then (if (l2.length : Int) < 1 then (impl_WishMet.j0 k l2 true z5 z6 z2 z7 z8) else (impl_WishMet.j0 k l2 (decide ((l2.length : Int) > 60)) z5 z6 z2 z7 z8)) else (impl_WishMet.j0 k l2 true z5 z6 z2 z7 z8)) = some (r1,r2):=H;have A9:=Aside0.mk A90;clear A90;by_cases c10 : zb7 = true
    ·subst c10
     rw [if_pos rfl] at H;by_cases c11 : (l2.length : Int) < 1
     ·rw [if_pos c11] at H
      have zb5 : decide ((l2.length : Int) < 1) = true:=decide_eq_true c11;have zd5 : decide (l2.length < 1) = true:=decide_eq_true (by omega);clear c11;(first | rw [zb5] | (simp only [i64_w,i32_w];rw [zb5]) | skip);have H':=Aside0.mk H;clear H;have zp4:=j3.out;have zp5:=j4.out;have ze0:=b30 z0;have ze1:=b31 z0;have ze2:=b32 z0;have ze3:=blk_frozen z0.out 0;have ze4:=blk_frozen z0.out 1;have ze5:=blk_frozen z0.out 2;go_wp2_with (first | (go_at_call 28;(with_reducible refine (impl_GoodBoard.calls k _ _ z5 _ _ z6 _ _ z2 true _ ?z9 ?j0 ?j5 ?j6 ?r0 ?r3 A7.out).mono ?_);(case z9 => exact cb_ m2.out);(case j0 => exact m3.out);(case j5 => exact cb_ m4.out);(case j6 => exact m5.out);(case r0 => exact cb_ m0.out);(case r3 => exact m6.out);rintro e w14 ⟨rfl,hb⟩;replace z0:=bb_ z0 hb;replace z1:=bb_ z1 hb;replace HB:=ak (below_step hb_ hb);(try clear hb);(try clear hb2);(try clear hk);(try clear hi);have ze6:=b20 z1;have ze7:=b21 z1;have ze8:=blk_frozen z1.out 0;have ze9:=blk_frozen z1.out 1) | (go_at_call 55;(with_reducible refine (impl_goodWish.calls _ _ z7 _ _ z8 true _ ?z9 ?j0 ?j5 ?j6 A9.out).mono ?_);(case z9 => exact cb_ za2.out);(case j0 => exact za3.out);(case j5 => exact cb_ za4.out);(case j6 => exact za5.out);rintro e w16 ⟨rfl,hb⟩;replace z0:=bb_ z0 hb;replace z1:=bb_ z1 hb;replace HB:=ak (below_step hb_ hb);(try clear hb);(try clear hb2);(try clear hk);(try clear hi)))
      skip
      go_meet
      case rel => exact ⟨_,(true),es_,H',⟨by first | omega | exact Nat.le_refl _⟩,⟨bk_ z0.out⟩,⟨bk_ z1.out⟩,⟨hb_⟩⟩
     ·rw [if_neg c11] at H
      have zb5 : decide ((l2.length : Int) < 1) = false:=decide_eq_false c11;have zd5 : decide (l2.length < 1) = false:=decide_eq_false (by omega);clear c11;(first | rw [zb5] | (simp only [i64_w,i32_w];rw [zb5]) | skip);have H':=Aside0.mk H;clear H;have zp6:=j3.out;have zp7:=j4.out;have zf0:=b30 z0;have zf1:=b31 z0;have zf2:=b32 z0;have zf3:=blk_frozen z0.out 0;have zf4:=blk_frozen z0.out 1;have zf5:=blk_frozen z0.out 2;go_wp2_with (first | (go_at_call 28;(with_reducible refine (impl_GoodBoard.calls k _ _ z5 _ _ z6 _ _ z2 true _ ?z9 ?j0 ?j5 ?j6 ?r0 ?r3 A7.out).mono ?_);(case z9 => exact cb_ m2.out);(case j0 => exact m3.out);(case j5 => exact cb_ m4.out);(case j6 => exact m5.out);(case r0 => exact cb_ m0.out);(case r3 => exact m6.out);rintro e w19 ⟨rfl,hb⟩;replace z0:=bb_ z0 hb;replace z1:=bb_ z1 hb;replace HB:=ak (below_step hb_ hb);(try clear hb);(try clear hb2);(try clear hk);(try clear hi);have zf6:=b20 z1;have zf7:=b21 z1;have zf8:=blk_frozen z1.out 0;have zf9:=blk_frozen z1.out 1) | (go_at_call 55;(with_reducible refine (impl_goodWish.calls _ _ z7 _ _ z8 true _ ?z9 ?j0 ?j5 ?j6 A9.out).mono ?_);(case z9 => exact cb_ za2.out);(case j0 => exact za3.out);(case j5 => exact cb_ za4.out);(case j6 => exact za5.out);rintro e w21 ⟨rfl,hb⟩;replace z0:=bb_ z0 hb;replace z1:=bb_ z1 hb;replace HB:=ak (below_step hb_ hb);(try clear hb);(try clear hb2);(try clear hk);(try clear hi)))
      skip
      go_meet
      case rel => exact ⟨_,(decide ((l2.length : Int) > 60)),es_,H',⟨by first | omega | exact Nat.le_refl _⟩,⟨bk_ z0.out⟩,⟨bk_ z1.out⟩,⟨hb_⟩⟩
    ·replace c10:=Bool.eq_false_iff.mpr c10
     subst c10;rw [if_neg (show ¬ (false = true) by decide)] at H;have H':=Aside0.mk H;clear H;have zp8:=j3.out;have zp9:=j4.out;have zg0:=b30 z0;have zg1:=b31 z0;have zg2:=b32 z0;have zg3:=blk_frozen z0.out 0;have zg4:=blk_frozen z0.out 1;have zg5:=blk_frozen z0.out 2;go_wp2_with (first | (go_at_call 28;(with_reducible refine (impl_GoodBoard.calls k _ _ z5 _ _ z6 _ _ z2 true _ ?z9 ?j0 ?j5 ?j6 ?r0 ?r3 A7.out).mono ?_);(case z9 => exact cb_ m2.out);(case j0 => exact m3.out);(case j5 => exact cb_ m4.out);(case j6 => exact m5.out);(case r0 => exact cb_ m0.out);(case r3 => exact m6.out);rintro e w24 ⟨rfl,hb⟩;replace z0:=bb_ z0 hb;replace z1:=bb_ z1 hb;replace HB:=ak (below_step hb_ hb);(try clear hb);(try clear hb2);(try clear hk);(try clear hi);have zg6:=b20 z1;have zg7:=b21 z1;have zg8:=blk_frozen z1.out 0;have zg9:=blk_frozen z1.out 1) | (go_at_call 55;(with_reducible refine (impl_goodWish.calls _ _ z7 _ _ z8 false _ ?z9 ?j0 ?j5 ?j6 A9.out).mono ?_);(case z9 => exact cb_ za2.out);(case j0 => exact za3.out);(case j5 => exact cb_ za4.out);(case j6 => exact za5.out);rintro e w26 ⟨rfl,hb⟩;replace z0:=bb_ z0 hb;replace z1:=bb_ z1 hb;replace HB:=ak (below_step hb_ hb);(try clear hb);(try clear hb2);(try clear hk);(try clear hi)))
     skip
     go_meet
     case rel => exact ⟨_,(true),es_,H',⟨by first | omega | exact Nat.le_refl _⟩,⟨bk_ z0.out⟩,⟨bk_ z1.out⟩,⟨hb_⟩⟩
   ·replace c8:=Bool.eq_false_iff.mpr c8
    subst c8;rw [if_neg (show ¬ (false = true) by decide)] at H;have H':=Aside0.mk H;clear H;have zq0:=j3.out;have zq1:=j4.out;have zh0:=b30 z0;have zh1:=b31 z0;have zh2:=b32 z0;have zh3:=blk_frozen z0.out 0;have zh4:=blk_frozen z0.out 1;have zh5:=blk_frozen z0.out 2;go_wp2_with (first | (go_at_call 28;(with_reducible refine (impl_GoodBoard.calls k _ _ z5 _ _ z6 _ _ z2 false _ ?z9 ?j0 ?j5 ?j6 ?r0 ?r3 A7.out).mono ?_);(case z9 => exact cb_ m2.out);(case j0 => exact m3.out);(case j5 => exact cb_ m4.out);(case j6 => exact m5.out);(case r0 => exact cb_ m0.out);(case r3 => exact m6.out);rintro e w29 ⟨rfl,hb⟩;replace z0:=bb_ z0 hb;replace z1:=bb_ z1 hb;replace HB:=ak (below_step hb_ hb);(try clear hb);(try clear hb2);(try clear hk);(try clear hi)))
    skip
    go_meet
    case rel => exact ⟨_,(true),es_,H',⟨by first | omega | exact Nat.le_refl _⟩,⟨bk_ z0.out⟩,⟨bk_ z1.out⟩,⟨hb_⟩⟩
  case rest =>
   clear HC4;obtain ⟨kq,zb9,rfl,HA,HJ3,z0,z1,HB⟩:=hcut
   cases kq with
   | zero => exact absurd HA.out (by simp [impl_WishMet.j0])
   | succ kj3 =>
    have H:=HA.out;clear HA;simp only [impl_WishMet.j0] at H;by_cases c30 : zb9 = true
    ·subst c30
     rw [if_pos rfl] at H;simp only [Option.some.injEq,Prod.mk.injEq] at H;obtain ⟨rfl,rfl⟩:=H;go_wp2;(repeat (go_quiet (fail);try go_wp2))
     go_ret2
     exact ⟨er_,hb_⟩
    ·replace c30:=Bool.eq_false_iff.mpr c30
     subst c30;rw [if_neg (show ¬ (false = true) by decide)] at H;have H':=Aside0.mk H;clear H;go_wp2;(repeat (go_quiet (fail);try go_wp2))
     go_loopg [32] kj3 (fun kq v32 w' => ∃ (z4 : Int),v32 = .int .i64 z4 ∧ Aside0 (impl_WishMet.l0 kq l2 l2 (l2.length : Int) z4 z5 z6 z2 z7 z8 = some (r1,r2)) ∧ Aside0 (kq ≤ kj3) ∧ Aside0 (w'.heap[z3]? = some (.cells #[(.slice j7 z5.length c0_0),(.slice j8 z6.length c0_1),(.slice j9 z2.length c0_2)] 34 (0,0))) ∧ Aside0 (w'.heap[j1]? = some (.cells #[(.slice r5 z7.length c1_0),(.slice r6 z8.length c1_1)] 36 (0,0))) ∧ Aside0 (Below w.heap.size w w'))
     case atStart => exact ⟨(0),es_,H',⟨Nat.le_refl _⟩,⟨bk_ z0.out⟩,⟨bk_ z1.out⟩,⟨hb_⟩⟩
     case round =>
      clear H';obtain ⟨z4,rfl,HA,HK2,z0,z1,HB⟩:=hrel
      cases gk with
      | zero => exact absurd HA.out (by simp [impl_WishMet.l0])
      | succ k2 =>
       have H:=HA.out;clear HA;simp only [impl_WishMet.l0] at H;by_cases c31 : z4 < (l2.length : Int)
       ·rw [if_pos c31] at H
        have zd6 : decide (z4 < (l2.length : Int)) = true:=decide_eq_true c31;clear c31;by_cases c32 : 0 ≤ z4
        ·rw [if_pos c32] at H
         have zq2 : decide (0 ≤ z4) = true:=decide_eq_true c32;clear c32;by_cases c33 : z4 < (l2.length : Int)
         ·rw [if_pos c33] at H
          have zq3 : decide (z4 < (l2.length : Int)) = true:=decide_eq_true c33;clear c33;replace H:=Option.bind_eq_some_iff.mp H;obtain ⟨zc4,zc5,H⟩:=H;replace H : (if zc4 = true then (if z4 > 0 then (if 0 ≤ (wrap64 (z4 - 1)) then (if (wrap64 (z4 - 1)) < (l2.length : Int) then (if 0 ≤ (rd l2 (wrap64 (z4 - 1))) then (if (rd l2 (wrap64 (z4 - 1))) < (z2.length : Int) then ((slices_Contains_int_int.f k2 (rd_L3 z2 (rd l2 (wrap64 (z4 - 1)))) (rd l2 z4)).bind fun zb8 => (if zb8 = true then (impl_WishMet.l0 k2 l2 l2 (l2.length : Int) (wrap64 (z4 + 1)) z5 z6 z2 z7 z8) else (some (false,false)))) else (none)) else (none)) else (none)) else (none)) else (impl_WishMet.l0 k2 l2 l2 (l2.length : Int) (wrap64 (z4 + 1)) z5 z6 z2 z7 z8)) else (some (false,false))) = some (r1,r2):=H;have A34:=Aside0.mk zc5;clear zc5;by_cases c35 : zc4 = true
          ·subst c35
           rw [if_pos rfl] at H;by_cases c36 : z4 > 0
           ·rw [if_pos c36] at H
            have zd7 : decide (0 < z4) = true:=decide_eq_true c36;clear c36;obtain ⟨ji37,hji37⟩ : ∃ j_ : Int,(wrap64 (z4 - 1)) = j_:=⟨_,rfl⟩;(replace H : (if 0 ≤ (ji37) then (if (ji37) < (l2.length : Int) then (if 0 ≤ (rd l2 (ji37)) then (if (rd l2 (ji37)) < (z2.length : Int) then ((slices_Contains_int_int.f k2 (rd_L3 z2 (rd l2 (ji37))) (rd l2 z4)).bind fun zb8 => (if zb8 = true then (impl_WishMet.l0 k2 l2 l2 (l2.length : Int) (wrap64 (z4 + 1)) z5 z6 z2 z7 z8) else (some (false,false)))) else (none)) else (none)) else (none)) else (none)) = some (r1,r2):=by first | (rw [hji37] at H;exact H) | (simp only [hji37] at H ⊢;exact H));(try rw [hji37] at A34);have hji37w : (IntKind.i64.wrap (z4 - 1)) = ji37:=(i64_w _).trans hji37;by_cases c38 : 0 ≤ (ji37)
            ·rw [if_pos c38] at H
             have zq4 : decide (0 ≤ (ji37)) = true:=decide_eq_true c38;clear c38;by_cases c39 : (ji37) < (l2.length : Int)
             ·rw [if_pos c39] at H
              have zq5 : decide ((ji37) < (l2.length : Int)) = true:=decide_eq_true c39;clear c39;by_cases c40 : 0 ≤ (rd l2 (ji37))
              ·rw [if_pos c40] at H
               have zq6 : decide (0 ≤ (rd l2 (ji37))) = true:=decide_eq_true c40;clear c40;by_cases c41 : (rd l2 (ji37)) < (z2.length : Int)
               ·rw [if_pos c41] at H
                have zq7 : decide ((rd l2 (ji37)) < (z2.length : Int)) = true:=decide_eq_true c41;clear c41;replace H:=Option.bind_eq_some_iff.mp H;obtain ⟨zb8,zc6,H⟩:=H;replace H : (if zb8 = true then (impl_WishMet.l0 k2 l2 l2 (l2.length : Int) (wrap64 (z4 + 1)) z5 z6 z2 z7 z8) else (some (false,false))) = some (r1,r2):=H;have A42:=Aside0.mk zc6;clear zc6;by_cases c43 : zb8 = true
                ·subst c43
                 rw [if_pos rfl] at H;have H':=Aside0.mk H;clear H;have r7 : 0 ≤ (z4 : Int):=of_decide_eq_true as_;have r8 : z4 < (l2.length : Int):=of_decide_eq_true as_;obtain ⟨zb6,e264,r4⟩:=Kd.at_int HR2.out z4 r7 r8;cases e264;replace r4:=hc_ HB r4;replace r7:=eq_true r7;replace r8:=eq_true r8;have zq8:=j3.out;have zq9:=j4.out;have zh6:=b30 z0;have zh7:=b31 z0;have zh8:=b32 z0;have zh9:=blk_frozen z0.out 0;have zi0:=blk_frozen z0.out 1;have zi1:=blk_frozen z0.out 2;have zb1 : 0 ≤ ((ji37) : Int):=of_decide_eq_true as_;have zb2 : (ji37) < (l2.length : Int):=of_decide_eq_true as_;obtain ⟨zc1,e266,za6⟩:=Kd.at_int HR2.out (ji37) zb1 zb2;obtain rfl : zb6 = zc1:=(by injection e266);replace za6:=hc_ HB za6;replace zb1:=eq_true zb1;replace zb2:=eq_true zb2;have zb3 : 0 ≤ ((rd l2 (ji37)) : Int):=of_decide_eq_true as_;have zb4 : (rd l2 (ji37)) < (z2.length : Int):=of_decide_eq_true as_;obtain ⟨zd8,zc7,c267_0,e267,za7,za8,hi267_0⟩:=at_L3 m0.out (rd l2 (ji37)) zb3 zb4;cases e267;replace za7:=hc_ HB za7;have za9:=Aside0.mk hi267_0;have zb0:=Aside0.mk za8;clear hi267_0 za8;replace zb3:=eq_true zb3;replace zb4:=eq_true zb4;go_wp2_with fail;(repeat (go_quiet (first | (go_at_call 77;(with_reducible refine (impl_between.calls (rd l2 z4) 0 (wrap64 ((z5.length : Int) - 1)) true _ A34.out).mono ?_);rintro e w' ⟨rfl,⟨nd,rfl⟩⟩;(try first | exact ⟨rfl,_,World.drewN_drewN _ _ _⟩ | exact ⟨rfl,_,Eq.trans (World.drewN_drewN _ _ _) (congrArg (World.drewN _) (Nat.add_assoc _ _ _))⟩)) | (go_at_call 78;(with_reducible refine (slices_Contains_int_int.calls k2 _ _ (rd_L3 z2 (rd l2 (ji37))) (rd l2 z4) true _ ?z9 ?j0 A42.out).mono ?_);(case z9 => repeat (first | exact (Kd.C_below za9.out hb_) | (with_reducible refine Kd.C_alloc ?_ _) | (with_reducible refine Kd.C_drewN ?_ _) | (with_reducible refine Kd.C_drew ?_)));(case j0 => exact zb0.out);rintro e w' ⟨rfl,⟨nd,rfl⟩⟩;(try first | exact ⟨rfl,_,World.drewN_drewN _ _ _⟩ | exact ⟨rfl,_,Eq.trans (World.drewN_drewN _ _ _) (congrArg (World.drewN _) (Nat.add_assoc _ _ _))⟩)));try go_wp2_with (first | (go_at_call 77;(with_reducible refine (impl_between.calls (rd l2 z4) 0 (wrap64 ((z5.length : Int) - 1)) true _ A34.out).mono ?_);rintro e w' ⟨rfl,⟨nd,rfl⟩⟩;(try first | exact ⟨rfl,_,World.drewN_drewN _ _ _⟩ | exact ⟨rfl,_,Eq.trans (World.drewN_drewN _ _ _) (congrArg (World.drewN _) (Nat.add_assoc _ _ _))⟩)) | (go_at_call 78;(with_reducible refine (slices_Contains_int_int.calls k2 _ _ (rd_L3 z2 (rd l2 (ji37))) (rd l2 z4) true _ ?z9 ?j0 A42.out).mono ?_);(case z9 => repeat (first | exact (Kd.C_below za9.out hb_) | (with_reducible refine Kd.C_alloc ?_ _) | (with_reducible refine Kd.C_drewN ?_ _) | (with_reducible refine Kd.C_drew ?_)));(case j0 => exact zb0.out);rintro e w' ⟨rfl,⟨nd,rfl⟩⟩;(try first | exact ⟨rfl,_,World.drewN_drewN _ _ _⟩ | exact ⟨rfl,_,Eq.trans (World.drewN_drewN _ _ _) (congrArg (World.drewN _) (Nat.add_assoc _ _ _))⟩)))));go_roundg k2
                 case measure => have:=HJ3.out;have:=HK2.out;omega
                 case rel => exact ⟨(wrap64 (z4 + 1)),es_,H',⟨by have:=HJ3.out;have:=HK2.out;omega⟩,⟨bk_ z0.out⟩,⟨bk_ z1.out⟩,⟨hb_⟩⟩
                ·replace c43:=Bool.eq_false_iff.mpr c43
                 subst c43;rw [if_neg (show ¬ (false = true) by decide)] at H;simp only [Option.some.injEq,Prod.mk.injEq] at H;obtain ⟨rfl,rfl⟩:=H;have r7 : 0 ≤ (z4 : Int):=of_decide_eq_true as_;have r8 : z4 < (l2.length : Int):=of_decide_eq_true as_;obtain ⟨zb6,e264,r4⟩:=Kd.at_int HR2.out z4 r7 r8;cases e264;replace r4:=hc_ HB r4;replace r7:=eq_true r7;replace r8:=eq_true r8;have zr0:=j3.out;have zr1:=j4.out;have zi2:=b30 z0;have zi3:=b31 z0;have zi4:=b32 z0;have zi5:=blk_frozen z0.out 0;have zi6:=blk_frozen z0.out 1;have zi7:=blk_frozen z0.out 2;have zb1 : 0 ≤ ((ji37) : Int):=of_decide_eq_true as_;have zb2 : (ji37) < (l2.length : Int):=of_decide_eq_true as_;obtain ⟨zc1,e266,za6⟩:=Kd.at_int HR2.out (ji37) zb1 zb2;obtain rfl : zb6 = zc1:=(by injection e266);replace za6:=hc_ HB za6;replace zb1:=eq_true zb1;replace zb2:=eq_true zb2;have zb3 : 0 ≤ ((rd l2 (ji37)) : Int):=of_decide_eq_true as_;have zb4 : (rd l2 (ji37)) < (z2.length : Int):=of_decide_eq_true as_;obtain ⟨zd8,zc7,c267_0,e267,za7,za8,hi267_0⟩:=at_L3 m0.out (rd l2 (ji37)) zb3 zb4;cases e267;replace za7:=hc_ HB za7;have za9:=Aside0.mk hi267_0;have zb0:=Aside0.mk za8;clear hi267_0 za8;replace zb3:=eq_true zb3;replace zb4:=eq_true zb4;go_wp2_with fail;(repeat (go_quiet (first | (go_at_call 77;(with_reducible refine (impl_between.calls (rd l2 z4) 0 (wrap64 ((z5.length : Int) - 1)) true _ A34.out).mono ?_);rintro e w' ⟨rfl,⟨nd,rfl⟩⟩;(try first | exact ⟨rfl,_,World.drewN_drewN _ _ _⟩ | exact ⟨rfl,_,Eq.trans (World.drewN_drewN _ _ _) (congrArg (World.drewN _) (Nat.add_assoc _ _ _))⟩)) | (go_at_call 78;(with_reducible refine (slices_Contains_int_int.calls k2 _ _ (rd_L3 z2 (rd l2 (ji37))) (rd l2 z4) false _ ?z9 ?j0 A42.out).mono ?_);(case z9 => repeat (first | exact (Kd.C_below za9.out hb_) | (with_reducible refine Kd.C_alloc ?_ _) | (with_reducible refine Kd.C_drewN ?_ _) | (with_reducible refine Kd.C_drew ?_)));(case j0 => exact zb0.out);rintro e w' ⟨rfl,⟨nd,rfl⟩⟩;(try first | exact ⟨rfl,_,World.drewN_drewN _ _ _⟩ | exact ⟨rfl,_,Eq.trans (World.drewN_drewN _ _ _) (congrArg (World.drewN _) (Nat.add_assoc _ _ _))⟩)));try go_wp2_with (first | (go_at_call 77;(with_reducible refine (impl_between.calls (rd l2 z4) 0 (wrap64 ((z5.length : Int) - 1)) true _ A34.out).mono ?_);rintro e w' ⟨rfl,⟨nd,rfl⟩⟩;(try first | exact ⟨rfl,_,World.drewN_drewN _ _ _⟩ | exact ⟨rfl,_,Eq.trans (World.drewN_drewN _ _ _) (congrArg (World.drewN _) (Nat.add_assoc _ _ _))⟩)) | (go_at_call 78;(with_reducible refine (slices_Contains_int_int.calls k2 _ _ (rd_L3 z2 (rd l2 (ji37))) (rd l2 z4) false _ ?z9 ?j0 A42.out).mono ?_);(case z9 => repeat (first | exact (Kd.C_below za9.out hb_) | (with_reducible refine Kd.C_alloc ?_ _) | (with_reducible refine Kd.C_drewN ?_ _) | (with_reducible refine Kd.C_drew ?_)));(case j0 => exact zb0.out);rintro e w' ⟨rfl,⟨nd,rfl⟩⟩;(try first | exact ⟨rfl,_,World.drewN_drewN _ _ _⟩ | exact ⟨rfl,_,Eq.trans (World.drewN_drewN _ _ _) (congrArg (World.drewN _) (Nat.add_assoc _ _ _))⟩)))))
                 go_ret2
                 exact ⟨by first | rfl | (simp [errW_none,errW_some] <;> rfl) | (simp only [← hji37];first | rfl | (simp [errW_none,errW_some] <;> rfl)) | (simp [*,errW_none,errW_some] <;> rfl),hb_⟩
               ·rw [if_neg c41] at H
                exact absurd H (by simp)
              ·rw [if_neg c40] at H
               exact absurd H (by simp)
             ·rw [if_neg c39] at H
              exact absurd H (by simp)
            ·rw [if_neg c38] at H
             exact absurd H (by simp)
           ·rw [if_neg c36] at H
            have zd7 : decide (0 < z4) = false:=decide_eq_false c36;clear c36;have H':=Aside0.mk H;clear H;have r7 : 0 ≤ (z4 : Int):=of_decide_eq_true as_;have r8 : z4 < (l2.length : Int):=of_decide_eq_true as_;obtain ⟨zb6,e264,r4⟩:=Kd.at_int HR2.out z4 r7 r8;cases e264;replace r4:=hc_ HB r4;replace r7:=eq_true r7;replace r8:=eq_true r8;have zr2:=j3.out;have zr3:=j4.out;have zi8:=b30 z0;have zi9:=b31 z0;have zj0:=b32 z0;have zj1:=blk_frozen z0.out 0;have zj2:=blk_frozen z0.out 1;have zj3:=blk_frozen z0.out 2;go_wp2_with (first | (go_at_call 77;(with_reducible refine (impl_between.calls (rd l2 z4) 0 (wrap64 ((z5.length : Int) - 1)) true _ A34.out).mono ?_);rintro e w' ⟨rfl,⟨nd,rfl⟩⟩;(try first | exact ⟨rfl,_,World.drewN_drewN _ _ _⟩ | exact ⟨rfl,_,Eq.trans (World.drewN_drewN _ _ _) (congrArg (World.drewN _) (Nat.add_assoc _ _ _))⟩)));(repeat (go_quiet (first | (go_at_call 77;(with_reducible refine (impl_between.calls (rd l2 z4) 0 (wrap64 ((z5.length : Int) - 1)) true _ A34.out).mono ?_);rintro e w' ⟨rfl,⟨nd,rfl⟩⟩;(try first | exact ⟨rfl,_,World.drewN_drewN _ _ _⟩ | exact ⟨rfl,_,Eq.trans (World.drewN_drewN _ _ _) (congrArg (World.drewN _) (Nat.add_assoc _ _ _))⟩)));try go_wp2_with (first | (go_at_call 77;(with_reducible refine (impl_between.calls (rd l2 z4) 0 (wrap64 ((z5.length : Int) - 1)) true _ A34.out).mono ?_);rintro e w' ⟨rfl,⟨nd,rfl⟩⟩;(try first | exact ⟨rfl,_,World.drewN_drewN _ _ _⟩ | exact ⟨rfl,_,Eq.trans (World.drewN_drewN _ _ _) (congrArg (World.drewN _) (Nat.add_assoc _ _ _))⟩)))));go_roundg k2
            case measure => have:=HJ3.out;have:=HK2.out;omega
            case rel => exact ⟨(wrap64 (z4 + 1)),es_,H',⟨by have:=HJ3.out;have:=HK2.out;omega⟩,⟨bk_ z0.out⟩,⟨bk_ z1.out⟩,⟨hb_⟩⟩
          ·replace c35:=Bool.eq_false_iff.mpr c35
           subst c35;rw [if_neg (show ¬ (false = true) by decide)] at H;simp only [Option.some.injEq,Prod.mk.injEq] at H;obtain ⟨rfl,rfl⟩:=H;have r7 : 0 ≤ (z4 : Int):=of_decide_eq_true as_;have r8 : z4 < (l2.length : Int):=of_decide_eq_true as_;obtain ⟨zb6,e264,r4⟩:=Kd.at_int HR2.out z4 r7 r8;cases e264;replace r4:=hc_ HB r4;replace r7:=eq_true r7;replace r8:=eq_true r8;have zr4:=j3.out;have zr5:=j4.out;have zj4:=b30 z0;have zj5:=b31 z0;have zj6:=b32 z0;have zj7:=blk_frozen z0.out 0;have zj8:=blk_frozen z0.out 1;have zj9:=blk_frozen z0.out 2;go_wp2_with (first | (go_at_call 77;(with_reducible refine (impl_between.calls (rd l2 z4) 0 (wrap64 ((z5.length : Int) - 1)) false _ A34.out).mono ?_);rintro e w' ⟨rfl,⟨nd,rfl⟩⟩;(try first | exact ⟨rfl,_,World.drewN_drewN _ _ _⟩ | exact ⟨rfl,_,Eq.trans (World.drewN_drewN _ _ _) (congrArg (World.drewN _) (Nat.add_assoc _ _ _))⟩)));(repeat (go_quiet (first | (go_at_call 77;(with_reducible refine (impl_between.calls (rd l2 z4) 0 (wrap64 ((z5.length : Int) - 1)) false _ A34.out).mono ?_);rintro e w' ⟨rfl,⟨nd,rfl⟩⟩;(try first | exact ⟨rfl,_,World.drewN_drewN _ _ _⟩ | exact ⟨rfl,_,Eq.trans (World.drewN_drewN _ _ _) (congrArg (World.drewN _) (Nat.add_assoc _ _ _))⟩)));try go_wp2_with (first | (go_at_call 77;(with_reducible refine (impl_between.calls (rd l2 z4) 0 (wrap64 ((z5.length : Int) - 1)) false _ A34.out).mono ?_);rintro e w' ⟨rfl,⟨nd,rfl⟩⟩;(try first | exact ⟨rfl,_,World.drewN_drewN _ _ _⟩ | exact ⟨rfl,_,Eq.trans (World.drewN_drewN _ _ _) (congrArg (World.drewN _) (Nat.add_assoc _ _ _))⟩)))))
           go_ret2
           exact ⟨er_,hb_⟩
         ·rw [if_neg c33] at H
          exact absurd H (by simp)
        ·rw [if_neg c32] at H
         exact absurd H (by simp)
       ·rw [if_neg c31] at H
        have zd6 : decide (z4 < (l2.length : Int)) = false:=decide_eq_false c31;clear c31;have H':=Aside0.mk H;clear H;go_wp2;(repeat (go_quiet (fail);try go_wp2))
        go_loopg [65] k2 (fun kq v65 w' => ∃ (j2 : Int),v65 = .int .i64 j2 ∧ Aside0 (impl_WishMet.l1 kq l2 (l2.length : Int) j2 z5 z6 z2 z7 z8 = some (r1,r2)) ∧ Aside0 (kq ≤ k2) ∧ Aside0 (w'.heap[z3]? = some (.cells #[(.slice j7 z5.length c0_0),(.slice j8 z6.length c0_1),(.slice j9 z2.length c0_2)] 34 (0,0))) ∧ Aside0 (w'.heap[j1]? = some (.cells #[(.slice r5 z7.length c1_0),(.slice r6 z8.length c1_1)] 36 (0,0))) ∧ Aside0 (Below w.heap.size w w'))
        case atStart => exact ⟨(0),es_,H',⟨Nat.le_refl _⟩,⟨bk_ z0.out⟩,⟨bk_ z1.out⟩,⟨hb_⟩⟩
        case round =>
         clear H';obtain ⟨j2,rfl,HA,HK3,z0,z1,HB⟩:=hrel
         cases gk with
         | zero => exact absurd HA.out (by simp [impl_WishMet.l1])
         | succ k3 =>
          have H:=HA.out;clear HA;simp only [impl_WishMet.l1] at H;by_cases c52 : j2 < (l2.length : Int)
          ·rw [if_pos c52] at H
           have zd9 : decide (j2 < (l2.length : Int)) = true:=decide_eq_true c52;clear c52;by_cases c53 : 0 ≤ j2
           ·rw [if_pos c53] at H
            have zr6 : decide (0 ≤ j2) = true:=decide_eq_true c53;clear c53;by_cases c54 : j2 < (l2.length : Int)
            ·rw [if_pos c54] at H
             have zr7 : decide (j2 < (l2.length : Int)) = true:=decide_eq_true c54;clear c54;replace H:=Option.bind_eq_some_iff.mp H;obtain ⟨zc8,zc9,H⟩:=H;replace H : (if zc8 = true then (some (false,true)) else ((impl_Board_aims.f k3 z5 z6 z2 z7 z8 (rd l2 j2)).bind fun zc2 => (if zc2 = true then (some (true,true)) else (impl_WishMet.l1 k3 l2 (l2.length : Int) (wrap64 (j2 + 1)) z5 z6 z2 z7 z8)))) = some (r1,r2):=H;have A55:=Aside0.mk zc9;clear zc9;by_cases c56 : zc8 = true
             ·subst c56
              rw [if_pos rfl] at H;simp only [Option.some.injEq,Prod.mk.injEq] at H;obtain ⟨rfl,rfl⟩:=H;have za0 : 0 ≤ (j2 : Int):=of_decide_eq_true as_;have za1 : j2 < (l2.length : Int):=of_decide_eq_true as_;obtain ⟨zc3,e269,r9⟩:=Kd.at_int HR2.out j2 za0 za1;cases e269;replace r9:=hc_ HB r9;replace za0:=eq_true za0;replace za1:=eq_true za1;have zr8:=j3.out;have zr9:=j4.out;have zk0:=b30 z0;have zk1:=b31 z0;have zk2:=b32 z0;have zk3:=blk_frozen z0.out 0;have zk4:=blk_frozen z0.out 1;have zk5:=blk_frozen z0.out 2;have zk6:=b20 z1;have zk7:=b21 z1;have zk8:=blk_frozen z1.out 0;have zk9:=blk_frozen z1.out 1;go_wp2_with (first | (go_at_call 79;(with_reducible refine (impl_Board_shuns.calls k3 _ _ z5 _ _ z6 _ _ z2 _ _ z7 _ _ z8 (rd l2 j2) true _ ?z9 ?j0 ?j5 ?j6 ?r0 ?r3 ?m7 ?m8 ?m9 ?m1 A55.out).mono ?_);(case z9 => exact cb_ m2.out);(case j0 => exact m3.out);(case j5 => exact cb_ m4.out);(case j6 => exact m5.out);(case r0 => exact cb_ m0.out);(case r3 => exact m6.out);(case m7 => exact cb_ za2.out);(case m8 => exact za3.out);(case m9 => exact cb_ za4.out);(case m1 => exact za5.out);rintro e w60 ⟨rfl,hb⟩;replace z0:=bb_ z0 hb;replace z1:=bb_ z1 hb;replace HB:=ak (below_step hb_ hb);(try clear hb);(try clear hb2);(try clear hk);(try clear hi)))
              skip
              go_ret2
              exact ⟨er_,hb_⟩
             ·replace c56:=Bool.eq_false_iff.mpr c56
              subst c56;rw [if_neg (show ¬ (false = true) by decide)] at H;replace H:=Option.bind_eq_some_iff.mp H;obtain ⟨zc2,zd0,H⟩:=H;replace H : (if zc2 = true then (some (true,true)) else (impl_WishMet.l1 k3 l2 (l2.length : Int) (wrap64 (j2 + 1)) z5 z6 z2 z7 z8)) = some (r1,r2):=H;have A61:=Aside0.mk zd0;clear zd0;by_cases c62 : zc2 = true
              ·subst c62
               rw [if_pos rfl] at H;simp only [Option.some.injEq,Prod.mk.injEq] at H;obtain ⟨rfl,rfl⟩:=H;have za0 : 0 ≤ (j2 : Int):=of_decide_eq_true as_;have za1 : j2 < (l2.length : Int):=of_decide_eq_true as_;obtain ⟨zc3,e269,r9⟩:=Kd.at_int HR2.out j2 za0 za1;cases e269;replace r9:=hc_ HB r9;replace za0:=eq_true za0;replace za1:=eq_true za1;have zs0:=j3.out;have zs1:=j4.out;have zl0:=b30 z0;have zl1:=b31 z0;have zl2:=b32 z0;have zl3:=blk_frozen z0.out 0;have zl4:=blk_frozen z0.out 1;have zl5:=blk_frozen z0.out 2;have zl6:=b20 z1;have zl7:=b21 z1;have zl8:=blk_frozen z1.out 0;have zl9:=blk_frozen z1.out 1;go_wp2_with (first | (go_at_call 79;(with_reducible refine (impl_Board_shuns.calls k3 _ _ z5 _ _ z6 _ _ z2 _ _ z7 _ _ z8 (rd l2 j2) false _ ?z9 ?j0 ?j5 ?j6 ?r0 ?r3 ?m7 ?m8 ?m9 ?m1 A55.out).mono ?_);(case z9 => exact cb_ m2.out);(case j0 => exact m3.out);(case j5 => exact cb_ m4.out);(case j6 => exact m5.out);(case r0 => exact cb_ m0.out);(case r3 => exact m6.out);(case m7 => exact cb_ za2.out);(case m8 => exact za3.out);(case m9 => exact cb_ za4.out);(case m1 => exact za5.out);rintro e w66 ⟨rfl,hb⟩;replace z0:=bb_ z0 hb;replace z1:=bb_ z1 hb;replace HB:=ak (below_step hb_ hb);(try clear hb);(try clear hb2);(try clear hk);(try clear hi);have zm0:=b30 z0;have zm1:=b31 z0;have zm2:=b32 z0;have zm3:=blk_frozen z0.out 0;have zm4:=blk_frozen z0.out 1;have zm5:=blk_frozen z0.out 2;have zm6:=b20 z1;have zm7:=b21 z1;have zm8:=blk_frozen z1.out 0;have zm9:=blk_frozen z1.out 1) | (go_at_call 63;(with_reducible refine (impl_Board_aims.calls k3 _ _ z5 _ _ z6 _ _ z2 _ _ z7 _ _ z8 (rd l2 j2) true _ ?z9 ?j0 ?j5 ?j6 ?r0 ?r3 ?m7 ?m8 ?m9 ?m1 A61.out).mono ?_);(case z9 => exact cb_ m2.out);(case j0 => exact m3.out);(case j5 => exact cb_ m4.out);(case j6 => exact m5.out);(case r0 => exact cb_ m0.out);(case r3 => exact m6.out);(case m7 => exact cb_ za2.out);(case m8 => exact za3.out);(case m9 => exact cb_ za4.out);(case m1 => exact za5.out);rintro e w69 ⟨rfl,hb⟩;replace z0:=bb_ z0 hb;replace z1:=bb_ z1 hb;replace HB:=ak (below_step hb_ hb);(try clear hb);(try clear hb2);(try clear hk);(try clear hi)))
               skip
               go_ret2
               exact ⟨er_,hb_⟩
              ·replace c62:=Bool.eq_false_iff.mpr c62
               subst c62;rw [if_neg (show ¬ (false = true) by decide)] at H;have H':=Aside0.mk H;clear H;have za0 : 0 ≤ (j2 : Int):=of_decide_eq_true as_;have za1 : j2 < (l2.length : Int):=of_decide_eq_true as_;obtain ⟨zc3,e269,r9⟩:=Kd.at_int HR2.out j2 za0 za1;cases e269;replace r9:=hc_ HB r9;replace za0:=eq_true za0;replace za1:=eq_true za1;have zs2:=j3.out;have zs3:=j4.out;have zn0:=b30 z0;have zn1:=b31 z0;have zn2:=b32 z0;have zn3:=blk_frozen z0.out 0;have zn4:=blk_frozen z0.out 1;have zn5:=blk_frozen z0.out 2;have zn6:=b20 z1;have zn7:=b21 z1;have zn8:=blk_frozen z1.out 0;have zn9:=blk_frozen z1.out 1;go_wp2_with (first | (go_at_call 79;(with_reducible refine (impl_Board_shuns.calls k3 _ _ z5 _ _ z6 _ _ z2 _ _ z7 _ _ z8 (rd l2 j2) false _ ?z9 ?j0 ?j5 ?j6 ?r0 ?r3 ?m7 ?m8 ?m9 ?m1 A55.out).mono ?_);(case z9 => exact cb_ m2.out);(case j0 => exact m3.out);(case j5 => exact cb_ m4.out);(case j6 => exact m5.out);(case r0 => exact cb_ m0.out);(case r3 => exact m6.out);(case m7 => exact cb_ za2.out);(case m8 => exact za3.out);(case m9 => exact cb_ za4.out);(case m1 => exact za5.out);rintro e w73 ⟨rfl,hb⟩;replace z0:=bb_ z0 hb;replace z1:=bb_ z1 hb;replace HB:=ak (below_step hb_ hb);(try clear hb);(try clear hb2);(try clear hk);(try clear hi);have zo0:=b30 z0;have zo1:=b31 z0;have zo2:=b32 z0;have zo3:=blk_frozen z0.out 0;have zo4:=blk_frozen z0.out 1;have zo5:=blk_frozen z0.out 2;have zo6:=b20 z1;have zo7:=b21 z1;have zo8:=blk_frozen z1.out 0;have zo9:=blk_frozen z1.out 1) | (go_at_call 63;(with_reducible refine (impl_Board_aims.calls k3 _ _ z5 _ _ z6 _ _ z2 _ _ z7 _ _ z8 (rd l2 j2) false _ ?z9 ?j0 ?j5 ?j6 ?r0 ?r3 ?m7 ?m8 ?m9 ?m1 A61.out).mono ?_);(case z9 => exact cb_ m2.out);(case j0 => exact m3.out);(case j5 => exact cb_ m4.out);(case j6 => exact m5.out);(case r0 => exact cb_ m0.out);(case r3 => exact m6.out);(case m7 => exact cb_ za2.out);(case m8 => exact za3.out);(case m9 => exact cb_ za4.out);(case m1 => exact za5.out);rintro e w76 ⟨rfl,hb⟩;replace z0:=bb_ z0 hb;replace z1:=bb_ z1 hb;replace HB:=ak (below_step hb_ hb);(try clear hb);(try clear hb2);(try clear hk);(try clear hi)))
               skip
               go_roundg k3
               case measure => have:=HJ3.out;have:=HK2.out;have:=HK3.out;omega
               case rel => exact ⟨(wrap64 (j2 + 1)),es_,H',⟨by have:=HJ3.out;have:=HK2.out;have:=HK3.out;omega⟩,⟨bk_ z0.out⟩,⟨bk_ z1.out⟩,⟨hb_⟩⟩
            ·rw [if_neg c54] at H
             exact absurd H (by simp)
           ·rw [if_neg c53] at H
            exact absurd H (by simp)
          ·rw [if_neg c52] at H
           have zd9 : decide (j2 < (l2.length : Int)) = false:=decide_eq_false c52;clear c52;simp only [Option.some.injEq,Prod.mk.injEq] at H;obtain ⟨rfl,rfl⟩:=H;have zs4:=j4.out;have zs5:=j3.out;have zp0:=b20 z1;have zp1:=b21 z1;have zp2:=blk_frozen z1.out 0;have zp3:=blk_frozen z1.out 1;go_wp2;(repeat (go_quiet (fail);try go_wp2))
           go_ret2
           exact ⟨er_,hb_⟩

end Go.Proofs.YtdihodboopeakaaDoor.Pr
namespace Go.Proofs.YtdihodboopeakaaDoor.Pr
open Go.RowKit Go.Proofs.YtdihodboopeakaaDoorW.PrintWords Go.Proofs.YtdihodboopeakaaDoorW.PrintLast Go.Proofs.YtdihodboopeakaaDoorW.PrintMore
attribute [local go_sem] max2_int min2_int max_two min_two max_three min_three max_four min_four
set_option linter.unusedVariables false
set_option linter.unusedSimpArgs false

set_option maxHeartbeats 8000000 in
set_option maxRecDepth 100000 in
theorem spec_l22Rune.calls (k : Nat) (a0 : ByteArray) (a1 : Int) (r : Int) (w : World) (h : spec_l22Rune.f k a0 a1 = some r) :
   Calls Tryd.prog 91 #[.string a0,.int .i64 a1] w fun e w' => e = .returned (.int .i64 r) ∧ Drawn0 w w':=by
  have H : (if 0 ≤ a1 then (if a1 < (a0.size : Int) then (if (wrap64 (bt a0 a1)) < 128 then (some 1) else (if (wrap64 (bt a0 a1)) ≥ 194 then (spec_l22Rune.j0 k a0 a1 (wrap64 (bt a0 a1)) 128 191 (decide ((wrap64 (bt a0 a1)) ≤ 223))) else (spec_l22Rune.j0 k a0 a1 (wrap64 (bt a0 a1)) 128 191 false))) else (none)) else (none)) = some r:=h;clear h;by_cases c3 : 0 ≤ a1
  ·rw [if_pos c3] at H
   have m8 : decide (0 ≤ a1) = true:=decide_eq_true c3;clear c3;by_cases c4 : a1 < (a0.size : Int)
   ·rw [if_pos c4] at H
    have m9 : decide (a1 < (a0.size : Int)) = true:=decide_eq_true c4;clear c4;have HC6:=Aside0.mk H;clear H;have p5 : 0 ≤ (a1 : Int):=of_decide_eq_true as_;have q5 : a1 < (a0.size : Int):=of_decide_eq_true as_;have hx5:=bt_at a0 a1;replace p5:=eq_true p5;replace q5:=eq_true q5;go_enter Tryd.func91,Tryd.ntmps91
    go_upto_block 0 with (fail)
    go_cut [6,7,8] (fun v6 v7 v8 wc => ∃ (kq : Nat) (z2 : Int) (j2 : Int) (j3 : Int),v6 = .int .i64 z2 ∧ v7 = .int .i64 j2 ∧ v8 = .int .i64 j3 ∧ Aside0 (spec_l22Rune.j3 kq a0 a1 z2 j2 j3 = some r) ∧ Aside0 (kq ≤ k) ∧ Drawn0 w wc)
    case first =>
     have H:=HC6.out;clear HC6;by_cases c7 : (wrap64 (bt a0 a1)) < 128
     ·rw [if_pos c7] at H
      have j0 : decide ((wrap64 (bt a0 a1)) < 128) = true:=decide_eq_true c7;clear c7;(first | rw [j0] | (simp only [i64_w,i32_w];rw [j0]) | skip)
      obtain rfl:=Option.some.inj H
      go_wp2;go_ret;exact ⟨es_,by repeat (first | exact Drawn0.refl _ | apply Drawn0.step)⟩
     ·rw [if_neg c7] at H
      have j0 : decide ((wrap64 (bt a0 a1)) < 128) = false:=decide_eq_false c7;clear c7;(first | rw [j0] | (simp only [i64_w,i32_w];rw [j0]) | skip);have HC8:=Aside0.mk H;clear H
      go_upto_region 8 with (fail)
      go_cut [18] (fun v18 wc => ∃ (kq : Nat) (z9 : Bool),v18 = .bool z9 ∧ Aside0 (spec_l22Rune.j0 kq a0 a1 (wrap64 (bt a0 a1)) 128 191 z9 = some r) ∧ Aside0 (kq ≤ k) ∧ Drawn0 w wc)
      case first =>
       have H:=HC8.out;clear HC8;by_cases c9 : (wrap64 (bt a0 a1)) ≥ 194
       ·rw [if_pos c9] at H
        have j1 : decide (194 ≤ (wrap64 (bt a0 a1))) = true:=decide_eq_true c9;clear c9;(first | rw [j1] | (simp only [i64_w,i32_w];rw [j1]) | skip);have H':=Aside0.mk H;clear H;go_wp2;go_meet
        case rel => exact ⟨_,(decide ((wrap64 (bt a0 a1)) ≤ 223)),es_,H',⟨by first | omega | exact Nat.le_refl _⟩,by repeat (first | exact Drawn0.refl _ | apply Drawn0.step)⟩
       ·rw [if_neg c9] at H
        have j1 : decide (194 ≤ (wrap64 (bt a0 a1))) = false:=decide_eq_false c9;clear c9;(first | rw [j1] | (simp only [i64_w,i32_w];rw [j1]) | skip);have H':=Aside0.mk H;clear H;go_wp2;go_meet
        case rel => exact ⟨_,(false),es_,H',⟨by first | omega | exact Nat.le_refl _⟩,by repeat (first | exact Drawn0.refl _ | apply Drawn0.step)⟩
      case rest =>
       clear HC8;obtain ⟨kq,z9,rfl,HA,HJ7,⟨mc7,rfl⟩⟩:=hcut
       cases kq with
       | zero => exact absurd HA.out (by simp [spec_l22Rune.j0])
       | succ kj7 =>
        have H:=HA.out;clear HA;simp only [spec_l22Rune.j0] at H;by_cases c10 : z9 = true
        ·subst c10
         rw [if_pos rfl] at H;have H':=Aside0.mk H;clear H;go_wp2;go_meet
         case rel => exact ⟨_,(2),(128),(191),es_,es_,es_,H',⟨by have:=HJ7.out;first | omega | exact Nat.le_refl _⟩,by repeat (first | exact Drawn0.refl _ | apply Drawn0.step)⟩
        ·replace c10:=Bool.eq_false_iff.mpr c10
         subst c10;rw [if_neg (show ¬ (false = true) by decide)] at H;have j5:=Aside0.mk H;clear H
         go_upto_region 10 with (fail)
         go_cut [25] (fun v25 wc => ∃ (kq : Nat) (z5 : Bool),v25 = .bool z5 ∧ Aside0 (spec_l22Rune.j1 kq a0 a1 (wrap64 (bt a0 a1)) 128 191 z5 = some r) ∧ Aside0 (kq ≤ kj7) ∧ Drawn0 w wc)
         case first =>
          have H:=j5.out;clear j5;by_cases c12 : (wrap64 (bt a0 a1)) ≥ 224
          ·rw [if_pos c12] at H
           have z6 : decide (224 ≤ (wrap64 (bt a0 a1))) = true:=decide_eq_true c12;clear c12;(first | rw [z6] | (simp only [i64_w,i32_w];rw [z6]) | skip);have H':=Aside0.mk H;clear H;go_wp2;go_meet
           case rel => exact ⟨_,(decide ((wrap64 (bt a0 a1)) ≤ 239)),es_,H',⟨by have:=HJ7.out;first | omega | exact Nat.le_refl _⟩,by repeat (first | exact Drawn0.refl _ | apply Drawn0.step)⟩
          ·rw [if_neg c12] at H
           have z6 : decide (224 ≤ (wrap64 (bt a0 a1))) = false:=decide_eq_false c12;clear c12;(first | rw [z6] | (simp only [i64_w,i32_w];rw [z6]) | skip);have H':=Aside0.mk H;clear H;go_wp2;go_meet
           case rel => exact ⟨_,(false),es_,H',⟨by have:=HJ7.out;first | omega | exact Nat.le_refl _⟩,by repeat (first | exact Drawn0.refl _ | apply Drawn0.step)⟩
         case rest =>
          clear j5;obtain ⟨kq,z5,rfl,HA,z1,⟨mc10,rfl⟩⟩:=hcut
          cases kq with
          | zero => exact absurd HA.out (by simp [spec_l22Rune.j1])
          | succ m5 =>
           have H:=HA.out;clear HA;simp only [spec_l22Rune.j1] at H;by_cases c13 : z5 = true
           ·subst c13
            rw [if_pos rfl] at H;by_cases c14 : (wrap64 (bt a0 a1)) = 224
            ·rw [if_pos c14] at H
             have j9 : ((wrap64 (bt a0 a1)) == 224) = true:=beq_iff_eq.mpr c14;have r0 : ((wrap64 (bt a0 a1)) != 224) = false:=bne_eq_false_iff_eq.mpr c14;clear c14;by_cases c15 : (wrap64 (bt a0 a1)) = 237
             ·rw [if_pos c15] at H
              have r1 : ((wrap64 (bt a0 a1)) == 237) = true:=beq_iff_eq.mpr c15;have r2 : ((wrap64 (bt a0 a1)) != 237) = false:=bne_eq_false_iff_eq.mpr c15;clear c15;have H':=Aside0.mk H;clear H;go_wp2;go_meet
              case rel => exact ⟨_,(3),(160),(159),es_,es_,es_,H',⟨by have:=HJ7.out;have:=z1.out;first | omega | exact Nat.le_refl _⟩,by repeat (first | exact Drawn0.refl _ | apply Drawn0.step)⟩
             ·rw [if_neg c15] at H
              have r1 : ((wrap64 (bt a0 a1)) == 237) = false:=beq_eq_false_iff_ne.mpr c15;have r2 : ((wrap64 (bt a0 a1)) != 237) = true:=bne_iff_ne.mpr c15;have H':=Aside0.mk H;clear H;go_wp2;go_meet
              case rel => exact ⟨_,(3),(160),(191),es_,es_,es_,H',⟨by have:=HJ7.out;have:=z1.out;first | omega | exact Nat.le_refl _⟩,by repeat (first | exact Drawn0.refl _ | apply Drawn0.step)⟩
            ·rw [if_neg c14] at H
             have j9 : ((wrap64 (bt a0 a1)) == 224) = false:=beq_eq_false_iff_ne.mpr c14;have r0 : ((wrap64 (bt a0 a1)) != 224) = true:=bne_iff_ne.mpr c14;by_cases c16 : (wrap64 (bt a0 a1)) = 237
             ·rw [if_pos c16] at H
              have r3 : ((wrap64 (bt a0 a1)) == 237) = true:=beq_iff_eq.mpr c16;have r4 : ((wrap64 (bt a0 a1)) != 237) = false:=bne_eq_false_iff_eq.mpr c16;clear c16;have H':=Aside0.mk H;clear H;go_wp2;go_meet
              case rel => exact ⟨_,(3),(128),(159),es_,es_,es_,H',⟨by have:=HJ7.out;have:=z1.out;first | omega | exact Nat.le_refl _⟩,by repeat (first | exact Drawn0.refl _ | apply Drawn0.step)⟩
             ·rw [if_neg c16] at H
              have r3 : ((wrap64 (bt a0 a1)) == 237) = false:=beq_eq_false_iff_ne.mpr c16;have r4 : ((wrap64 (bt a0 a1)) != 237) = true:=bne_iff_ne.mpr c16;have H':=Aside0.mk H;clear H;go_wp2;go_meet
              case rel => exact ⟨_,(3),(128),(191),es_,es_,es_,H',⟨by have:=HJ7.out;have:=z1.out;first | omega | exact Nat.le_refl _⟩,by repeat (first | exact Drawn0.refl _ | apply Drawn0.step)⟩
           ·replace c13:=Bool.eq_false_iff.mpr c13
            subst c13;rw [if_neg (show ¬ (false = true) by decide)] at H;have j6:=Aside0.mk H;clear H
            go_upto_region 16 with (fail)
            go_cut [36] (fun v36 wc => ∃ (kq : Nat) (z7 : Bool),v36 = .bool z7 ∧ Aside0 (spec_l22Rune.j2 kq a0 a1 (wrap64 (bt a0 a1)) 128 191 z7 = some r) ∧ Aside0 (kq ≤ m5) ∧ Drawn0 w wc)
            case first =>
             have H:=j6.out;clear j6;by_cases c18 : (wrap64 (bt a0 a1)) ≥ 240
             ·rw [if_pos c18] at H
              have z8 : decide (240 ≤ (wrap64 (bt a0 a1))) = true:=decide_eq_true c18;clear c18;(first | rw [z8] | (simp only [i64_w,i32_w];rw [z8]) | skip);have H':=Aside0.mk H;clear H;go_wp2;go_meet
              case rel => exact ⟨_,(decide ((wrap64 (bt a0 a1)) ≤ 244)),es_,H',⟨by have:=HJ7.out;have:=z1.out;first | omega | exact Nat.le_refl _⟩,by repeat (first | exact Drawn0.refl _ | apply Drawn0.step)⟩
             ·rw [if_neg c18] at H
              have z8 : decide (240 ≤ (wrap64 (bt a0 a1))) = false:=decide_eq_false c18;clear c18;(first | rw [z8] | (simp only [i64_w,i32_w];rw [z8]) | skip);have H':=Aside0.mk H;clear H;go_wp2;go_meet
              case rel => exact ⟨_,(false),es_,H',⟨by have:=HJ7.out;have:=z1.out;first | omega | exact Nat.le_refl _⟩,by repeat (first | exact Drawn0.refl _ | apply Drawn0.step)⟩
            case rest =>
             clear j6;obtain ⟨kq,z7,rfl,HA,j4,⟨mc16,rfl⟩⟩:=hcut
             cases kq with
             | zero => exact absurd HA.out (by simp [spec_l22Rune.j2])
             | succ za0 =>
              have H:=HA.out;clear HA;simp only [spec_l22Rune.j2] at H;by_cases c19 : z7 = true
              ·subst c19
               rw [if_pos rfl] at H;by_cases c20 : (wrap64 (bt a0 a1)) = 240
               ·rw [if_pos c20] at H
                have r5 : ((wrap64 (bt a0 a1)) == 240) = true:=beq_iff_eq.mpr c20;have r6 : ((wrap64 (bt a0 a1)) != 240) = false:=bne_eq_false_iff_eq.mpr c20;clear c20;by_cases c21 : (wrap64 (bt a0 a1)) = 244
                ·rw [if_pos c21] at H
                 have r7 : ((wrap64 (bt a0 a1)) == 244) = true:=beq_iff_eq.mpr c21;have r8 : ((wrap64 (bt a0 a1)) != 244) = false:=bne_eq_false_iff_eq.mpr c21;clear c21;have H':=Aside0.mk H;clear H;go_wp2;go_meet
                 case rel => exact ⟨_,(4),(144),(143),es_,es_,es_,H',⟨by have:=HJ7.out;have:=z1.out;have:=j4.out;first | omega | exact Nat.le_refl _⟩,by repeat (first | exact Drawn0.refl _ | apply Drawn0.step)⟩
                ·rw [if_neg c21] at H
                 have r7 : ((wrap64 (bt a0 a1)) == 244) = false:=beq_eq_false_iff_ne.mpr c21;have r8 : ((wrap64 (bt a0 a1)) != 244) = true:=bne_iff_ne.mpr c21;have H':=Aside0.mk H;clear H;go_wp2;go_meet
                 case rel => exact ⟨_,(4),(144),(191),es_,es_,es_,H',⟨by have:=HJ7.out;have:=z1.out;have:=j4.out;first | omega | exact Nat.le_refl _⟩,by repeat (first | exact Drawn0.refl _ | apply Drawn0.step)⟩
               ·rw [if_neg c20] at H
                have r5 : ((wrap64 (bt a0 a1)) == 240) = false:=beq_eq_false_iff_ne.mpr c20;have r6 : ((wrap64 (bt a0 a1)) != 240) = true:=bne_iff_ne.mpr c20;by_cases c22 : (wrap64 (bt a0 a1)) = 244
                ·rw [if_pos c22] at H
                 have r9 : ((wrap64 (bt a0 a1)) == 244) = true:=beq_iff_eq.mpr c22;have m0 : ((wrap64 (bt a0 a1)) != 244) = false:=bne_eq_false_iff_eq.mpr c22;clear c22;have H':=Aside0.mk H;clear H;go_wp2;go_meet
                 case rel => exact ⟨_,(4),(128),(143),es_,es_,es_,H',⟨by have:=HJ7.out;have:=z1.out;have:=j4.out;first | omega | exact Nat.le_refl _⟩,by repeat (first | exact Drawn0.refl _ | apply Drawn0.step)⟩
                ·rw [if_neg c22] at H
                 have r9 : ((wrap64 (bt a0 a1)) == 244) = false:=beq_eq_false_iff_ne.mpr c22;have m0 : ((wrap64 (bt a0 a1)) != 244) = true:=bne_iff_ne.mpr c22;have H':=Aside0.mk H;clear H;go_wp2;go_meet
                 case rel => exact ⟨_,(4),(128),(191),es_,es_,es_,H',⟨by have:=HJ7.out;have:=z1.out;have:=j4.out;first | omega | exact Nat.le_refl _⟩,by repeat (first | exact Drawn0.refl _ | apply Drawn0.step)⟩
              ·replace c19:=Bool.eq_false_iff.mpr c19
               subst c19;rw [if_neg (show ¬ (false = true) by decide)] at H
               obtain rfl:=Option.some.inj H
               go_wp2;go_ret;exact ⟨es_,by repeat (first | exact Drawn0.refl _ | apply Drawn0.step)⟩
    case rest =>
     clear HC6;obtain ⟨kq,z2,j2,j3,rfl,rfl,rfl,HA,HJ5,⟨mc5,rfl⟩⟩:=hcut
     cases kq with
     | zero => exact absurd HA.out (by simp [spec_l22Rune.j3])
     | succ kj5 =>
      have H:=HA.out;clear HA;simp only [spec_l22Rune.j3] at H;have H':=Aside0.mk H;clear H;go_wp2
      go_loopg [7,8,9] kj5 (fun kq v7 v8 v9 w' => ∃ (z3 : Int) (z4 : Int) (z0 : Int),v7 = .int .i64 z3 ∧ v8 = .int .i64 z4 ∧ v9 = .int .i64 z0 ∧ Aside0 (spec_l22Rune.l0 kq a0 a1 z2 z3 z4 z0 = some r) ∧ Aside0 (kq ≤ kj5) ∧ Drawn0 w w')
      case atStart => exact ⟨(j2),(j3),(1),es_,es_,es_,H',⟨Nat.le_refl _⟩,by repeat (first | exact Drawn0.refl _ | apply Drawn0.step)⟩
      case round =>
       clear H';obtain ⟨z3,z4,z0,rfl,rfl,rfl,HA,HK2,⟨m2,rfl⟩⟩:=hrel
       cases gk with
       | zero => exact absurd HA.out (by simp [spec_l22Rune.l0])
       | succ k2 =>
        have H:=HA.out;clear HA;simp only [spec_l22Rune.l0] at H;by_cases c23 : z0 < z2
        ·rw [if_pos c23] at H
         have m1 : decide (z0 < z2) = true:=decide_eq_true c23;clear c23;by_cases c24 : (wrap64 (a1 + z0)) ≥ (a0.size : Int)
         ·rw [if_pos c24] at H
          have j7 : decide ((a0.size : Int) ≤ (wrap64 (a1 + z0))) = true:=decide_eq_true c24;clear c24
          obtain rfl:=Option.some.inj H
          go_wp2;go_ret;exact ⟨es_,by repeat (first | exact Drawn0.refl _ | apply Drawn0.step)⟩
         ·rw [if_neg c24] at H
          have j7 : decide ((a0.size : Int) ≤ (wrap64 (a1 + z0))) = false:=decide_eq_false c24;clear c24;obtain ⟨ji25,hji25⟩ : ∃ j_ : Int,(wrap64 (a1 + z0)) = j_:=⟨_,rfl⟩;(replace H : (if 0 ≤ (ji25) then (if (ji25) < (a0.size : Int) then (if (wrap64 (bt a0 (ji25))) < z3 then (some 0) else (if (wrap64 (bt a0 (ji25))) > z4 then (some 0) else (spec_l22Rune.l0 k2 a0 a1 z2 128 191 (wrap64 (z0 + 1))))) else (none)) else (none)) = some r:=by first | (rw [hji25] at H;exact H) | (simp only [hji25] at H ⊢;exact H));(try rw [hji25] at j7);have hji25w : (IntKind.i64.wrap (a1 + z0)) = ji25:=(i64_w _).trans hji25;by_cases c26 : 0 ≤ (ji25)
          ·rw [if_pos c26] at H
           have m6 : decide (0 ≤ (ji25)) = true:=decide_eq_true c26;clear c26;by_cases c27 : (ji25) < (a0.size : Int)
           ·rw [if_pos c27] at H
            have m7 : decide ((ji25) < (a0.size : Int)) = true:=decide_eq_true c27;clear c27;by_cases c29 : (wrap64 (bt a0 (ji25))) < z3
            ·rw [if_pos c29] at H
             have m3 : decide ((wrap64 (bt a0 (ji25))) < z3) = true:=decide_eq_true c29;clear c29
             obtain rfl:=Option.some.inj H
             have p28 : 0 ≤ ((ji25) : Int):=of_decide_eq_true as_;have q28 : (ji25) < (a0.size : Int):=of_decide_eq_true as_;have j8:=bt_at a0 (ji25);replace p28:=eq_true p28;replace q28:=eq_true q28;go_wp2;go_ret;exact ⟨by first | rfl | (simp;done) | (simp only [← hji25] <;> (first | rfl | simp)) | (simp [*];done),by repeat (first | exact Drawn0.refl _ | apply Drawn0.step)⟩
            ·rw [if_neg c29] at H
             have m3 : decide ((wrap64 (bt a0 (ji25))) < z3) = false:=decide_eq_false c29;clear c29;by_cases c30 : (wrap64 (bt a0 (ji25))) > z4
             ·rw [if_pos c30] at H
              have m4 : decide (z4 < (wrap64 (bt a0 (ji25)))) = true:=decide_eq_true c30;clear c30
              obtain rfl:=Option.some.inj H
              have p28 : 0 ≤ ((ji25) : Int):=of_decide_eq_true as_;have q28 : (ji25) < (a0.size : Int):=of_decide_eq_true as_;have j8:=bt_at a0 (ji25);replace p28:=eq_true p28;replace q28:=eq_true q28;go_wp2;go_ret;exact ⟨by first | rfl | (simp;done) | (simp only [← hji25] <;> (first | rfl | simp)) | (simp [*];done),by repeat (first | exact Drawn0.refl _ | apply Drawn0.step)⟩
             ·rw [if_neg c30] at H
              have m4 : decide (z4 < (wrap64 (bt a0 (ji25)))) = false:=decide_eq_false c30;clear c30;have H':=Aside0.mk H;clear H;have p28 : 0 ≤ ((ji25) : Int):=of_decide_eq_true as_;have q28 : (ji25) < (a0.size : Int):=of_decide_eq_true as_;have j8:=bt_at a0 (ji25);replace p28:=eq_true p28;replace q28:=eq_true q28;go_wp2;go_roundg k2
              case measure => have:=HJ5.out;have:=HK2.out;omega
              case rel => exact ⟨(128),(191),(wrap64 (z0 + 1)),es_,es_,es_,H',⟨by have:=HJ5.out;have:=HK2.out;omega⟩,by repeat (first | exact Drawn0.refl _ | apply Drawn0.step)⟩
           ·rw [if_neg c27] at H
            exact absurd H (by simp)
          ·rw [if_neg c26] at H
           exact absurd H (by simp)
        ·rw [if_neg c23] at H
         have m1 : decide (z0 < z2) = false:=decide_eq_false c23;clear c23
         obtain rfl:=Option.some.inj H
         go_wp2;go_ret;exact ⟨es_,by repeat (first | exact Drawn0.refl _ | apply Drawn0.step)⟩
   ·rw [if_neg c4] at H
    exact absurd H (by simp)
  ·rw [if_neg c3] at H
   exact absurd H (by simp)

end Go.Proofs.YtdihodboopeakaaDoor.Pr
namespace Go.Proofs.YtdihodboopeakaaDoor.Pr
open Go.RowKit Go.Proofs.YtdihodboopeakaaDoorW.PrintWords Go.Proofs.YtdihodboopeakaaDoorW.PrintLast Go.Proofs.YtdihodboopeakaaDoorW.PrintMore
attribute [local go_sem] max2_int min2_int max_two min_two max_three min_three max_four min_four
set_option linter.unusedVariables false
set_option linter.unusedSimpArgs false

set_option maxHeartbeats 8000000 in
set_option maxRecDepth 100000 in
theorem spec_l22Letter.calls (a0 : Int) (r : Bool) (w : World) (h : spec_l22Letter.f a0 = some r) :
   Calls Tryd.prog 92 #[.int .u8 a0] w fun e w' => e = .returned (.bool r) ∧ Drawn0 w w':=by
  have H : (if a0 ≥ 97 then (if a0 ≤ 122 then (some true) else (if a0 ≥ 65 then (some (decide (a0 ≤ 90))) else (some false))) else (if a0 ≥ 65 then (some (decide (a0 ≤ 90))) else (some false))) = some r:=h;clear h;by_cases c2 : a0 ≥ 97
  ·rw [if_pos c2] at H
   have z0 : decide (97 ≤ a0) = true:=decide_eq_true c2;clear c2;by_cases c3 : a0 ≤ 122
   ·rw [if_pos c3] at H
    have z1 : decide (a0 ≤ 122) = true:=decide_eq_true c3;clear c3
    obtain rfl:=Option.some.inj H
    go_enter Tryd.func92,Tryd.ntmps92;go_wp2;go_ret;exact ⟨es_,by repeat (first | exact Drawn0.refl _ | apply Drawn0.step)⟩
   ·rw [if_neg c3] at H
    have z1 : decide (a0 ≤ 122) = false:=decide_eq_false c3;clear c3;by_cases c4 : a0 ≥ 65
    ·rw [if_pos c4] at H
     have z2 : decide (65 ≤ a0) = true:=decide_eq_true c4;clear c4
     obtain rfl:=Option.some.inj H
     go_enter Tryd.func92,Tryd.ntmps92;go_wp2;go_ret;exact ⟨es_,by repeat (first | exact Drawn0.refl _ | apply Drawn0.step)⟩
    ·rw [if_neg c4] at H
     have z2 : decide (65 ≤ a0) = false:=decide_eq_false c4;clear c4
     obtain rfl:=Option.some.inj H
     go_enter Tryd.func92,Tryd.ntmps92;go_wp2;go_ret;exact ⟨es_,by repeat (first | exact Drawn0.refl _ | apply Drawn0.step)⟩
  ·rw [if_neg c2] at H
   have z0 : decide (97 ≤ a0) = false:=decide_eq_false c2;clear c2;by_cases c5 : a0 ≥ 65
   ·rw [if_pos c5] at H
    have z3 : decide (65 ≤ a0) = true:=decide_eq_true c5;clear c5
    obtain rfl:=Option.some.inj H
    go_enter Tryd.func92,Tryd.ntmps92;go_wp2;go_ret;exact ⟨es_,by repeat (first | exact Drawn0.refl _ | apply Drawn0.step)⟩
   ·rw [if_neg c5] at H
    have z3 : decide (65 ≤ a0) = false:=decide_eq_false c5;clear c5
    obtain rfl:=Option.some.inj H
    go_enter Tryd.func92,Tryd.ntmps92;go_wp2;go_ret;exact ⟨es_,by repeat (first | exact Drawn0.refl _ | apply Drawn0.step)⟩

set_option maxHeartbeats 8000000 in
set_option maxRecDepth 100000 in
theorem spec_l22Odd.calls (k : Nat) (a0 : ByteArray) (r1 : Int) (r2 : Int) (w : World) (h : spec_l22Odd.f k a0 = some (r1,r2)) :
   Calls Tryd.prog 67 #[.string a0] w fun e w' => e = .returned (.tuple #[.int .i64 r1,.int .i64 r2]) ∧ Drawn0 w w':=by
  have H : (spec_l22Odd.l0 k a0 0 0) = some (r1,r2):=h;clear h;have H':=Aside0.mk H;clear H;go_enter Tryd.func67,Tryd.ntmps67;go_wp2
  go_loopg [4,5] k (fun kq v4 v5 w' => ∃ (z2 : Int) (z0 : Int),v4 = .int .i64 z2 ∧ v5 = .int .i64 z0 ∧ Aside0 (spec_l22Odd.l0 kq a0 z2 z0 = some (r1,r2)) ∧ Aside0 (kq ≤ k) ∧ Drawn0 w w')
  case atStart => exact ⟨(0),(0),es_,es_,H',⟨Nat.le_refl _⟩,by repeat (first | exact Drawn0.refl _ | apply Drawn0.step)⟩
  case round =>
   clear H';obtain ⟨z2,z0,rfl,rfl,HA,HK1,⟨m1,rfl⟩⟩:=hrel
   cases gk with
   | zero => exact absurd HA.out (by simp [spec_l22Odd.l0])
   | succ k1 =>
    have H:=HA.out;clear HA;simp only [spec_l22Odd.l0] at H;by_cases c2 : z0 < (a0.size : Int)
    ·rw [if_pos c2] at H
     have z4 : decide (z0 < (a0.size : Int)) = true:=decide_eq_true c2;clear c2;replace H:=Option.bind_eq_some_iff.mp H;obtain ⟨z1,A30,H⟩:=H;replace H : (if z1 = 0 then (some (z0,0)) else (if z1 = 1 then (if 0 ≤ z0 then ((spec_l22Letter.f (bt a0 z0)).bind fun z3 => (if z3 = true then (spec_l22Odd.l0 k1 a0 (wrap64 (z2 + 1)) (wrap64 (z0 + z1))) else (some (z0,0)))) else (none)) else (spec_l22Odd.l0 k1 a0 (wrap64 (z2 + 1)) (wrap64 (z0 + z1))))) = some (r1,r2):=H;have A3:=Aside0.mk A30;clear A30;by_cases c4 : z1 = 0
     ·rw [if_pos c4] at H
      have z5 : (z1 == 0) = true:=beq_iff_eq.mpr c4;have z6 : (z1 != 0) = false:=bne_eq_false_iff_eq.mpr c4;clear c4;simp only [Option.some.injEq,Prod.mk.injEq] at H;obtain ⟨rfl,rfl⟩:=H;go_wp2_with (first | ((with_reducible refine gate_callee (f:=91) rfl ?_);refine goesL_ (some 13) rfl rfl Tryd.func91 (by kernel_rfl) rfl #[.string a0,.int .i64 z0] rfl ls_ ?_;(with_reducible refine (spec_l22Rune.calls k1 a0 z0 z1 _ A3.out).mono ?_);rintro e w' ⟨rfl,⟨nd,rfl⟩⟩;refine ⟨_,rfl,?_⟩))
      go_ret2
      exact ⟨es_,by repeat (first | exact Drawn0.refl _ | apply Drawn0.step)⟩
     ·rw [if_neg c4] at H
      have z5 : (z1 == 0) = false:=beq_eq_false_iff_ne.mpr c4;have z6 : (z1 != 0) = true:=bne_iff_ne.mpr c4;by_cases c5 : z1 = 1
      ·rw [if_pos c5] at H
       have z7 : (z1 == 1) = true:=beq_iff_eq.mpr c5;have z8 : (z1 != 1) = false:=bne_eq_false_iff_eq.mpr c5;clear c5;by_cases c6 : 0 ≤ z0
       ·rw [if_pos c6] at H
        have z9 : decide (0 ≤ z0) = true:=decide_eq_true c6;clear c6;replace H:=Option.bind_eq_some_iff.mp H;obtain ⟨z3,A80,H⟩:=H;replace H : (if z3 = true then (spec_l22Odd.l0 k1 a0 (wrap64 (z2 + 1)) (wrap64 (z0 + z1))) else (some (z0,0))) = some (r1,r2):=H;have A8:=Aside0.mk A80;clear A80;by_cases c9 : z3 = true
        ·subst c9
         rw [if_pos rfl] at H;have H':=Aside0.mk H;clear H;go_wp2_with (first | ((with_reducible refine gate_callee (f:=91) rfl ?_);refine goesL_ (some 13) rfl rfl Tryd.func91 (by kernel_rfl) rfl #[.string a0,.int .i64 z0] rfl ls_ ?_;(with_reducible refine (spec_l22Rune.calls k1 a0 z0 z1 _ A3.out).mono ?_);rintro e w' ⟨rfl,⟨nd,rfl⟩⟩;refine ⟨_,rfl,?_⟩;have p7 : 0 ≤ (z0 : Int):=of_decide_eq_true as_;have q7 : z0 < (a0.size : Int):=of_decide_eq_true as_;have hx7:=bt_at a0 z0;replace p7:=eq_true p7;replace q7:=eq_true q7) | (go_at_call 92;(with_reducible refine (spec_l22Letter.calls (bt a0 z0) true _ A8.out).mono ?_);rintro e w' ⟨rfl,⟨nd,rfl⟩⟩));go_roundg k1
         case measure => have:=HK1.out;omega
         case rel => exact ⟨(wrap64 (z2 + 1)),(wrap64 (z0 + z1)),es_,es_,H',⟨by have:=HK1.out;omega⟩,by repeat (first | exact Drawn0.refl _ | apply Drawn0.step)⟩
        ·replace c9:=Bool.eq_false_iff.mpr c9
         subst c9;rw [if_neg (show ¬ (false = true) by decide)] at H;simp only [Option.some.injEq,Prod.mk.injEq] at H;obtain ⟨rfl,rfl⟩:=H;go_wp2_with (first | ((with_reducible refine gate_callee (f:=91) rfl ?_);refine goesL_ (some 13) rfl rfl Tryd.func91 (by kernel_rfl) rfl #[.string a0,.int .i64 z0] rfl ls_ ?_;(with_reducible refine (spec_l22Rune.calls k1 a0 z0 z1 _ A3.out).mono ?_);rintro e w' ⟨rfl,⟨nd,rfl⟩⟩;refine ⟨_,rfl,?_⟩;have p7 : 0 ≤ (z0 : Int):=of_decide_eq_true as_;have q7 : z0 < (a0.size : Int):=of_decide_eq_true as_;have hx7:=bt_at a0 z0;replace p7:=eq_true p7;replace q7:=eq_true q7) | (go_at_call 92;(with_reducible refine (spec_l22Letter.calls (bt a0 z0) false _ A8.out).mono ?_);rintro e w' ⟨rfl,⟨nd,rfl⟩⟩))
         go_ret2
         exact ⟨es_,by repeat (first | exact Drawn0.refl _ | apply Drawn0.step)⟩
       ·rw [if_neg c6] at H
        exact absurd H (by simp)
      ·rw [if_neg c5] at H
       have z7 : (z1 == 1) = false:=beq_eq_false_iff_ne.mpr c5;have z8 : (z1 != 1) = true:=bne_iff_ne.mpr c5;have H':=Aside0.mk H;clear H;go_wp2_with (first | ((with_reducible refine gate_callee (f:=91) rfl ?_);refine goesL_ (some 13) rfl rfl Tryd.func91 (by kernel_rfl) rfl #[.string a0,.int .i64 z0] rfl ls_ ?_;(with_reducible refine (spec_l22Rune.calls k1 a0 z0 z1 _ A3.out).mono ?_);rintro e w' ⟨rfl,⟨nd,rfl⟩⟩;refine ⟨_,rfl,?_⟩));go_roundg k1
       case measure => have:=HK1.out;omega
       case rel => exact ⟨(wrap64 (z2 + 1)),(wrap64 (z0 + z1)),es_,es_,H',⟨by have:=HK1.out;omega⟩,by repeat (first | exact Drawn0.refl _ | apply Drawn0.step)⟩
    ·rw [if_neg c2] at H
     have z4 : decide (z0 < (a0.size : Int)) = false:=decide_eq_false c2;clear c2;simp only [Option.some.injEq,Prod.mk.injEq] at H;obtain ⟨rfl,rfl⟩:=H;go_wp2
     go_ret2
     exact ⟨es_,by repeat (first | exact Drawn0.refl _ | apply Drawn0.step)⟩

set_option maxHeartbeats 8000000 in
set_option maxRecDepth 100000 in
theorem spec_l22Name.calls (k : Nat) (a0 : ByteArray) (r : Bool) (w : World) (h : spec_l22Name.f k a0 = some r) :
   Calls Tryd.prog 64 #[.string a0] w fun e w' => e = .returned (.bool r) ∧ Drawn0 w w':=by
  have H : ((spec_l22Odd.f k a0).bind fun bt159 => (if bt159.1 < 0 then (if bt159.2 ≥ 1 then (some (decide (bt159.2 ≤ 12))) else (some false)) else (some false))) = some r:=h;clear h;replace H:=Option.bind_eq_some_iff.mp H;obtain ⟨⟨z1,z0⟩,A20,H⟩:=H;replace H : (if z1 < 0 then (if z0 ≥ 1 then (some (decide (z0 ≤ 12))) else (some false)) else (some false)) = some r:=H;have A2:=Aside0.mk A20;clear A20;by_cases c3 : z1 < 0
  ·rw [if_pos c3] at H
   have z2 : decide (z1 < 0) = true:=decide_eq_true c3;clear c3;by_cases c4 : z0 ≥ 1
   ·rw [if_pos c4] at H
    have z3 : decide (1 ≤ z0) = true:=decide_eq_true c4;clear c4
    obtain rfl:=Option.some.inj H
    go_enter Tryd.func64,Tryd.ntmps64;go_wp2_with (first | ((with_reducible refine gate_callee (f:=67) rfl ?_);refine goesL_ (some 7) rfl rfl Tryd.func67 (by kernel_rfl) rfl #[.string a0] rfl ls_ ?_;(with_reducible refine (spec_l22Odd.calls k a0 z1 z0 _ A2.out).mono ?_);rintro e w' ⟨rfl,⟨nd,rfl⟩⟩;refine ⟨_,rfl,?_⟩));go_ret;exact ⟨es_,by repeat (first | exact Drawn0.refl _ | apply Drawn0.step)⟩
   ·rw [if_neg c4] at H
    have z3 : decide (1 ≤ z0) = false:=decide_eq_false c4;clear c4
    obtain rfl:=Option.some.inj H
    go_enter Tryd.func64,Tryd.ntmps64;go_wp2_with (first | ((with_reducible refine gate_callee (f:=67) rfl ?_);refine goesL_ (some 7) rfl rfl Tryd.func67 (by kernel_rfl) rfl #[.string a0] rfl ls_ ?_;(with_reducible refine (spec_l22Odd.calls k a0 z1 z0 _ A2.out).mono ?_);rintro e w' ⟨rfl,⟨nd,rfl⟩⟩;refine ⟨_,rfl,?_⟩));go_ret;exact ⟨es_,by repeat (first | exact Drawn0.refl _ | apply Drawn0.step)⟩
  ·rw [if_neg c3] at H
   have z2 : decide (z1 < 0) = false:=decide_eq_false c3;clear c3
   obtain rfl:=Option.some.inj H
   go_enter Tryd.func64,Tryd.ntmps64;go_wp2_with (first | ((with_reducible refine gate_callee (f:=67) rfl ?_);refine goesL_ (some 7) rfl rfl Tryd.func67 (by kernel_rfl) rfl #[.string a0] rfl ls_ ?_;(with_reducible refine (spec_l22Odd.calls k a0 z1 z0 _ A2.out).mono ?_);rintro e w' ⟨rfl,⟨nd,rfl⟩⟩;refine ⟨_,rfl,?_⟩));go_ret;exact ⟨es_,by repeat (first | exact Drawn0.refl _ | apply Drawn0.step)⟩

end Go.Proofs.YtdihodboopeakaaDoor.Pr
