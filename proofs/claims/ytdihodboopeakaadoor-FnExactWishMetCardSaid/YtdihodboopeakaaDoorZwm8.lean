-- Joined and pruned by wip/tools/prune.py out of this session's own texts (Gw, Pr19)
import Derived.Test.YtdihodboopeakaaDoorZwm7
import Derived.Outline
/- impl.goodWish by hand: the walk. -/
namespace Go.Proofs.YtdihodboopeakaaDoor.Pr
open Go.RowKit Go.Proofs.YtdihodboopeakaaDoorW.PrintWords Go.Proofs.YtdihodboopeakaaDoorW.PrintLast Go.Proofs.YtdihodboopeakaaDoorW.PrintMore
set_option linter.unusedVariables false
set_option linter.unusedSimpArgs false
open EvKit in
theorem has_k (l : List ByteArray) (s : ByteArray) (hl : l.length ≤ 1048576) : ∃ k, slices_Contains_string_string.f k l s = some (inB l s) := by
  have key (d : Nat) : ∀ i : Nat, i + d = l.length → ∃ r : Int, Ev (fun k => slices_Index_string_string.l0 k l s l.length i) r ∧ (decide (r ≥ 0) = inB (l.drop i) s) := by
    induction d with
    | zero =>
      intro i hi
      refine ⟨-1, ?_, ?_⟩
      · apply Ev.succ
        simp only [slices_Index_string_string.l0, show ¬ ((i : Int) < (l.length : Int)) by omega, if_false]
        exact Ev.some rfl
      · rw [List.drop_of_length_le (by omega)]
        rfl
    | succ d ih =>
      intro i hi
      have hd : l.drop i = l.getD i ByteArray.empty :: l.drop (i + 1) := by
        rw [List.drop_eq_getElem_cons (by omega)]
        congr 1
        simp [List.getD_eq_getElem?_getD, List.getElem?_eq_getElem (show i < l.length by omega)]
      have e : rdOf ByteArray.empty l (i : Int) = l.getD i ByteArray.empty := rfl
      by_cases c : s.toList = (l.getD i ByteArray.empty).toList
      · refine ⟨i, ?_, ?_⟩
        · apply Ev.succ
          simp only [slices_Index_string_string.l0, show ((i : Int) < (l.length : Int)) by omega, show (0 : Int) ≤ (i : Int) by omega, if_true, e]
          exact Ev.pos c (Ev.some rfl)
        · rw [hd]
          unfold inB
          rw [List.any_cons, decide_eq_true c.symm, Bool.true_or]
          exact decide_eq_true (by omega)
      · obtain ⟨r, h1, h2⟩ := ih (i + 1) (by omega)
        refine ⟨r, ?_, ?_⟩
        · apply Ev.succ
          simp only [slices_Index_string_string.l0, show ((i : Int) < (l.length : Int)) by omega, show (0 : Int) ≤ (i : Int) by omega, if_true, e]
          rw [show wrap64 ((i : Int) + 1) = ((i + 1 : Nat) : Int) by rw [wrap64_id (by omega) (by omega)]; omega]
          exact Ev.neg c h1
        · rw [h2, hd]
          unfold inB
          rw [List.any_cons, decide_eq_false (fun h => c h.symm), Bool.false_or]
  obtain ⟨r, h1, h2⟩ := key l.length 0 (by omega)
  have h3 : Ev (fun k => slices_Contains_string_string.f k l s) (inB l s) := by
    unfold slices_Contains_string_string.f slices_Index_string_string.f
    exact Ev.bnd (by simpa using h1) (Ev.some (by simpa using h2))
  exact Ev.rounds h3
/-- The answer from the i-th list on. -/
def gwRes (l0 l1 : List ByteArray) : Nat → Bool
  | 0 => gwB l0 && gwB l1
  | 1 => gwB l1
  | _ => true
theorem gwFrom_step (l : List ByteArray) (j : Nat) (h : j < l.length) : gwFrom l (l.length - j) = ((nameB (l.getD j ByteArray.empty) && !inB (l.take j) (l.getD j ByteArray.empty)) && gwFrom l (l.length - (j + 1))) := by
  have e : l.length - j = (l.length - (j + 1)) + 1 := by omega
  rw [e]
  simp only [gwFrom]
  rw [show l.length - (l.length - (j + 1) + 1) = j by omega]
theorem okT_at {l : List ByteArray} (h : okT l = true) (j : Nat) (hj : j < l.length) : (l.getD j ByteArray.empty).size ≤ 1048576 := by
  have h2 := List.all_eq_true.1 (Bool.and_eq_true_iff.1 h).2 (l.getD j ByteArray.empty) (EvKit.getD_mem l j _ hj)
  exact of_decide_eq_true h2
set_option maxHeartbeats 4000000 in
set_option maxRecDepth 100000 in
theorem gw_walk (A0 : Option Addr) (c0 : Nat) (l0 : List ByteArray) (A1 : Option Addr) (c1 : Nat) (l1 : List ByteArray) (r : Bool) (w : World) (hr0 : Kd.C Kd.string w A0 l0.length l0) (hc0 : l0.length ≤ c0) (hr1 : Kd.C Kd.string w A1 l1.length l1) (hc1 : l1.length ≤ c1)
    (k0 : okT l0 = true) (k1 : okT l1 = true) (h : gwRes l0 l1 0 = r) (ht : Tabs w) :
    Calls Tryd.prog 55 #[.agg #[.slice A0 l0.length c0, .slice A1 l1.length c1]] w fun e w' => e = .returned (.bool r) ∧ Below w.heap.size w w' := by
  have hu36 := Tryd.underlying36
  have HR0 := Aside0.mk hr0
  have HC0 := Aside0.mk hc0
  have HR1 := Aside0.mk hr1
  have HC1 := Aside0.mk hc1
  have K0 := Aside0.mk k0
  have K1 := Aside0.mk k1
  have H := Aside0.mk h
  have HTb_ := Aside0.mk ht
  clear hr0 hc0 hr1 hc1 k0 k1 h ht
  go_enter Tryd.func55, Tryd.ntmps55
  go_wp2_with (first | ((with_reducible refine gate_dst (N := 1) rfl ?_); refine box_event ?hg (N := 1) ?hd (cs := #[.slice A0 l0.length c0, .slice A1 l1.length c1]) (t := 36) ?hr ?_; (case hd => rfl); (case hg => rfl); (case hr => first | (go_simp; done) | (go_simp; rfl)); intro gb hg w1 hbox hb; have hcz0 : w1.cell? ⟨gb, 0, none⟩ = some (.slice A0 l0.length c0) := (blk_cell hbox 0).trans rfl; have hcz1 : w1.cell? ⟨gb, 1, none⟩ = some (.slice A1 l1.length c1) := (blk_cell hbox 1).trans rfl; have hfz0 := blk_frozen hbox 0; have HB1 := Aside0.mk hb; clear hg hb hbox))
  have HB2 : Aside0 (Below w.heap.size w (w1.alloc (.cells #[.slice A0 l0.length c0, .slice A1 l1.length c1] 22))) := ⟨below_step HB1.out (below_alloc (Below.refl _ _) _)⟩
  have BK2 : Aside0 ((w1.alloc (.cells #[.slice A0 l0.length c0, .slice A1 l1.length c1] 22)).heap[w1.heap.size]? = some (.cells #[.slice A0 l0.length c0, .slice A1 l1.length c1] 22 (0, 0))) := ⟨blk_new _ _⟩
  obtain ⟨gy, hgy⟩ : ∃ g, w1.heap.size = g := ⟨_, rfl⟩
  rw [hgy] at BK2 ⊢
  generalize w1.alloc (.cells #[.slice A0 l0.length c0, .slice A1 l1.length c1] 22) = w2 at *
  clear hgy HB1 hcz0 hcz1 hfz0
  go_loopg [13] 2 (fun g v13 w' => ∃ i : Nat, v13 = .int .i64 i ∧ Aside0 (i + g = 2) ∧ Aside0 (gwRes l0 l1 i = r) ∧ Aside0 (Below w.heap.size w w') ∧ Aside0 (w'.heap[gy]? = some (.cells #[.slice A0 l0.length c0, .slice A1 l1.length c1] 22 (0, 0))))
  case atStart => exact ⟨0, rfl, ⟨rfl⟩, H, HB2, BK2⟩
  case round =>
   clear H HB2 BK2
   obtain ⟨i, rfl, HG, H, HB, BK⟩ := hrel
   by_cases ci : i < 2
   ·obtain ⟨A, c, l, hcell, HR, HC, HK, HS⟩ : ∃ (A : Option Addr) (c : Nat) (l : List ByteArray), wr.cell? ⟨gy, i, none⟩ = some (.slice A l.length c) ∧ Aside0 (Kd.C Kd.string w A l.length l) ∧ Aside0 (l.length ≤ c) ∧ Aside0 (okT l = true) ∧ Aside0 ((gwB l && gwRes l0 l1 (i + 1)) = r) := by
      have h01 : i = 0 ∨ i = 1 := by omega
      rcases h01 with rfl | rfl
      · exact ⟨A0, c0, l0, (blk_cell BK.out 0).trans rfl, HR0, HC0, K0, H⟩
      · exact ⟨A1, c1, l1, (blk_cell BK.out 1).trans rfl, HR1, HC1, K1, ⟨by rw [← H.out]; simp [gwRes]⟩⟩
    have cib : decide ((i : Int) < 2) = true := decide_eq_true (by omega)
    have CI := Aside0.mk ci
    by_cases c6 : l.length ≤ 6
    case neg =>
     have c6b : decide (6 < (l.length : Int)) = true := decide_eq_true (by omega)
     have hr : Aside0 (r = false) := ⟨by rw [← HS.out]; unfold gwB; rw [decide_eq_false c6]; rfl⟩
     clear c6
     go_wp2_with fail
     go_ret
     exact ⟨by rw [hr.out]; rfl, HB.out⟩
    case pos =>
     have c6b : decide (6 < (l.length : Int)) = false := decide_eq_false (by omega)
     have HS2 : Aside0 ((gwFrom l (l.length - 0) && gwRes l0 l1 (i + 1)) = r) := ⟨by rw [← HS.out]; unfold gwB; rw [decide_eq_true c6, Bool.true_and]; rfl⟩
     have C6 := Aside0.mk c6
     clear c6 HS
     go_wp2_with fail
     go_loopg [22] l.length (fun g v22 w' => ∃ j : Nat, v22 = .int .i64 j ∧ Aside0 (j + g = l.length) ∧ Aside0 ((gwFrom l (l.length - j) && gwRes l0 l1 (i + 1)) = r) ∧ Aside0 (Below w.heap.size w w') ∧ Aside0 (w'.heap[gy]? = some (.cells #[.slice A0 l0.length c0, .slice A1 l1.length c1] 22 (0, 0))))
     case atStart => exact ⟨0, rfl, ⟨Nat.zero_add _⟩, HS2, HB, BK⟩
     case round =>
      clear HS2 HB BK hcell
      obtain ⟨j, rfl, HJ, HS, HB, BK⟩ := hrel
      by_cases cj : j < l.length
      ·have cjb : decide ((j : Int) < (l.length : Int)) = true := decide_eq_true (by omega)
       have cjc : decide (j < l.length) = true := decide_eq_true cj
       have CJ := Aside0.mk cj
       have hst := gwFrom_step l j cj
       have hsz := okT_at HK.out j cj
       obtain ⟨ad, e1, hx⟩ := Kd.at_string HR.out (j : Int) (by omega) (by omega)
       have e0 : rdOf ByteArray.empty l (j : Int) = l.getD j ByteArray.empty := rfl
       rw [e0, Int.toNat_natCast] at hx
       have hx2 := hc_ HB hx
       subst e1
       obtain ⟨s, hs⟩ : ∃ s, l.getD j ByteArray.empty = s := ⟨_, rfl⟩
       rw [hs] at hx2 hst hsz
       have HN : Aside0 (impl_goodName.f s = some (nameB s)) := ⟨by unfold impl_goodName.f; rw [if_pos (by omega)]; rfl⟩
       have hps := hst
       rw [hps] at HS
       have HT2 := Aside0.mk hs
       have cjt := eq_true cj
       clear hst hps hx hs e0 cj hsz
       generalize nameB s = nb at HN HS
       cases nb with
       | false =>
        have hr : Aside0 (r = false) := ⟨by rw [← HS.out]; simp⟩
        go_wp2_with (go_at_call 65; refine (impl_goodName.calls s false _ HN.out).mono ?_; rintro e w5 ⟨rfl, hb⟩)
        go_ret
        exact ⟨by rw [hr.out]; rfl, below_step HB.out hb⟩
       | true =>
        obtain ⟨k, hk⟩ := has_k (l.take j) s (by rw [List.length_take]; have := C6.out; omega)
        have HK2 := Aside0.mk hk
        have HCT := Aside0.mk (Kd.C_take HR.out (m := j) (by have := CJ.out; omega))
        have hln : (l.take j).length = j := by rw [List.length_take]; have := CJ.out; omega
        have HLN := Aside0.mk hln
        clear hk hln
        generalize inB (l.take j) s = ib at HK2 HS
        have hjc : j ≤ l.length := by have := CJ.out; omega
        have hjk := eq_true (Nat.le_trans hjc HC.out)
        replace hjc := eq_true hjc
        cases ib with
        | true =>
         have hr : Aside0 (r = false) := ⟨by rw [← HS.out]; simp⟩
         go_wp2_with (first | (go_at_call 65; refine (impl_goodName.calls s true _ HN.out).mono ?_; rintro e w5 ⟨rfl, hb⟩; have HB5 := Aside0.mk (below_step HB.out hb); clear hx2) | (go_at_call 73; refine calls_of_args (args' := #[.slice (some ad) (l.take j).length c, .string s]) (by rw [HLN.out]) ?_; refine (slices_Contains_string_string.calls k (some ad) c (l.take j) s true _ (Kd.C_below HCT.out HB5.out) (by rw [HLN.out]; exact of_eq_true hjk) HK2.out).mono ?_; rintro e w6 ⟨rfl, hd⟩))
         go_ret
         exact ⟨by rw [hr.out]; rfl, below_step HB5.out hd.below⟩
        | false =>
         go_wp2_with (first | (go_at_call 65; refine (impl_goodName.calls s true _ HN.out).mono ?_; rintro e w5 ⟨rfl, hb⟩; have HB5 := Aside0.mk (below_step HB.out hb); have BK5 := Aside0.mk (blk_below BK.out hb); clear hx2) | (go_at_call 73; refine calls_of_args (args' := #[.slice (some ad) (l.take j).length c, .string s]) (by rw [HLN.out]) ?_; refine (slices_Contains_string_string.calls k (some ad) c (l.take j) s false _ (Kd.C_below HCT.out HB5.out) (by rw [HLN.out]; exact of_eq_true hjk) HK2.out).mono ?_; rintro e w6 ⟨rfl, hd⟩))
         go_roundg (gk - 1)
         case measure => have := HJ.out; have := CJ.out; omega
         case rel => exact ⟨j + 1, by rw [show wrap64 ((j : Int) + 1) = ((j + 1 : Nat) : Int) by have := CJ.out; have := C6.out; unfold wrap64; omega], ⟨by have := HJ.out; have := CJ.out; omega⟩, ⟨by rw [← HS.out]; simp⟩, ⟨below_step HB5.out hd.below⟩, ⟨blk_below BK5.out hd.below⟩⟩
      ·have cjb : decide ((j : Int) < (l.length : Int)) = false := decide_eq_false (by omega)
       have cjc : decide (j < l.length) = false := decide_eq_false cj
       have hr : Aside0 (gwRes l0 l1 (i + 1) = r) := ⟨by rw [← HS.out, show l.length - j = 0 by omega]; simp [gwFrom]⟩
       clear cj
       go_wp2_with fail
       go_roundg (2 - (i + 1))
       case measure => have := HG.out; have := CI.out; omega
       case rel => exact ⟨i + 1, by go_num, ⟨by have := CI.out; omega⟩, hr, HB, BK⟩
   ·have cib : decide ((i : Int) < 2) = false := decide_eq_false (by omega)
    have hr : Aside0 (r = true) := ⟨by have e2 : i = 2 := (by have := HG.out; omega); subst e2; exact H.out.symm⟩
    clear ci
    go_wp2_with fail
    go_ret
    exact ⟨by rw [hr.out]; rfl, HB.out⟩
theorem impl_goodWish.calls (A0_0 : Option Addr) (c0_0 : Nat) (l0_0 : List ByteArray) (A0_1 : Option Addr) (c0_1 : Nat) (l0_1 : List ByteArray) (r : Bool) (w : World) (hr0_0 : Kd.C Kd.string w A0_0 l0_0.length l0_0) (hc0_0 : l0_0.length ≤ c0_0) (hr0_1 : Kd.C Kd.string w A0_1 l0_1.length l0_1) (hc0_1 : l0_1.length ≤ c0_1) (h : impl_goodWish.f l0_0 l0_1 = some r) (ht_ : Tabs w := by exact tb_ HTb_) :
    Calls Tryd.prog 55 #[.agg #[.slice A0_0 l0_0.length c0_0, .slice A0_1 l0_1.length c0_1]] w fun e w' => e = .returned (.bool r) ∧ Below w.heap.size w w' := by
  unfold impl_goodWish.f at h
  by_cases k0 : okT l0_0 = true
  · rw [if_pos k0] at h
    by_cases k1 : okT l0_1 = true
    · rw [if_pos k1] at h
      injection h with h
      exact gw_walk A0_0 c0_0 l0_0 A0_1 c0_1 l0_1 r w hr0_0 hc0_0 hr0_1 hc0_1 k0 k1 h ht_
    · rw [if_neg k1] at h; cases h
  · rw [if_neg k0] at h; cases h
end Go.Proofs.YtdihodboopeakaaDoor.Pr
-- Written by this session's own print (wip/tools/mkmp.py) out of the translation. Lean checks it.
namespace Go.Proofs.YtdihodboopeakaaDoor.Pr
open Go.RowKit Go.Proofs.YtdihodboopeakaaDoorW.PrintWords Go.Proofs.YtdihodboopeakaaDoorW.PrintLast Go.Proofs.YtdihodboopeakaaDoorW.PrintMore
attribute [local go_sem] max2_int min2_int max_two min_two max_three min_three max_four min_four   -- for this text's walks alone
set_option linter.unusedVariables false
set_option linter.unusedSimpArgs false

set_option maxHeartbeats 8000000 in
set_option maxRecDepth 100000 in
theorem impl_WishMet.calls (k : Nat) (A0_0 : Option Addr) (c0_0 : Nat) (l0_0 : List ByteArray) (A0_1 : Option Addr) (c0_1 : Nat) (l0_1 : List Bool) (A0_2 : Option Addr) (c0_2 : Nat) (l0_2 : List (List Int)) (A1_0 : Option Addr) (c1_0 : Nat) (l1_0 : List ByteArray) (A1_1 : Option Addr) (c1_1 : Nat) (l1_1 : List ByteArray) (A2 : Option Addr) (c2 : Nat) (l2 : List Int) (r1 : Bool) (r2 : Bool) (w : World) (hr0_0 : Kd.C Kd.string w A0_0 l0_0.length l0_0) (hc0_0 : l0_0.length ≤ c0_0) (hr0_1 : Kd.C Kd.bool w A0_1 l0_1.length l0_1) (hc0_1 : l0_1.length ≤ c0_1) (hr0_2 : Kd.C (Kd.slice 3 (Kd.int .i64)) w A0_2 l0_2.length l0_2) (hc0_2 : l0_2.length ≤ c0_2) (hr1_0 : Kd.C Kd.string w A1_0 l1_0.length l1_0) (hc1_0 : l1_0.length ≤ c1_0) (hr1_1 : Kd.C Kd.string w A1_1 l1_1.length l1_1) (hc1_1 : l1_1.length ≤ c1_1) (hr2 : Kd.C (Kd.int .i64) w A2 l2.length l2) (hc2 : l2.length ≤ c2) (h : impl_WishMet.f k l0_0 l0_1 l0_2 l1_0 l1_1 l2 = some (r1, r2)) (ht_ : Tabs w := by exact tb_ HTb_) :
   Calls Tryd.prog 38 #[.agg #[.slice A0_0 l0_0.length c0_0, .slice A0_1 l0_1.length c0_1, .slice A0_2 l0_2.length c0_2], .agg #[.slice A1_0 l1_0.length c1_0, .slice A1_1 l1_1.length c1_1], .slice A2 l2.length c2] w fun e w' => e = .returned (.tuple #[.bool r1, .bool r2]) ∧ Below w.heap.size w w' := by
  have HTb_ := Aside0.mk ht_
  clear ht_
  have hu34 := Tryd.underlying34
  have hu36 := Tryd.underlying36
  have HR0_0 := Aside0.mk hr0_0
  have HC0_0 := Aside0.mk hc0_0
  clear hr0_0 hc0_0
  have HR0_1 := Aside0.mk hr0_1
  have HC0_1 := Aside0.mk hc0_1
  clear hr0_1 hc0_1
  have HR0_2 := Aside0.mk hr0_2
  have HC0_2 := Aside0.mk hc0_2
  clear hr0_2 hc0_2
  have HR1_0 := Aside0.mk hr1_0
  have HC1_0 := Aside0.mk hc1_0
  clear hr1_0 hc1_0
  have HR1_1 := Aside0.mk hr1_1
  have HC1_1 := Aside0.mk hc1_1
  clear hr1_1 hc1_1
  have HR2 := Aside0.mk hr2
  have HC2 := Aside0.mk hc2
  clear hr2 hc2
  have HB := Aside0.mk (Below.refl w.heap.size w)
  have H : ((impl_GoodBoard.f k l0_0 l0_1 l0_2).bind fun t262 => (if t262 = true then ((impl_goodWish.f l1_0 l1_1).bind fun t263 => (if t263 = true then (if (l2.length : Int) < 1 then (impl_WishMet.j0 k l2 true l0_0 l0_1 l0_2 l1_0 l1_1) else (impl_WishMet.j0 k l2 (decide ((l2.length : Int) > 60)) l0_0 l0_1 l0_2 l1_0 l1_1)) else (impl_WishMet.j0 k l2 true l0_0 l0_1 l0_2 l1_0 l1_1))) else (impl_WishMet.j0 k l2 true l0_0 l0_1 l0_2 l1_0 l1_1))) = some (r1, r2) := h
  clear h
  have HC4 := Aside0.mk H
  clear H
  go_enter Tryd.func38, Tryd.ntmps38
  go_upto_region 1 with (first | ((with_reducible refine gate_dst (N := 3) rfl ?_); (try (refine gate_guard (by rfl) ?_; dsimp only)); refine box_event ?hg (N := 3) ?hd (cs := #[.slice A0_0 l0_0.length c0_0, .slice A0_1 l0_1.length c0_1, .slice A0_2 l0_2.length c0_2]) (t := 34) ?hr ?_; (case hd => rfl); (case hg => rfl); (case hr => first | (go_simp; done) | (go_simp; rfl)); intro gb260 hg w5 hbox hb; have n0_ := Aside0.mk (below_step hb_ hb); have n1_ := Aside0.mk (hbox); have n2_ : Aside0 (w.heap.size ≤ gb260) := gz_; have n3_ : Aside0 (w.heap.size ≤ gb260) := gz_; clear HB; have HB := n0_; have BK260 := n1_; have GW260 := n2_; have GE260 := n3_; clear n0_ n1_ n2_ n3_; clear hb hbox hg) | ((with_reducible refine gate_dst (N := 4) rfl ?_); (try (refine gate_guard (by rfl) ?_; dsimp only)); refine box_event ?hg (N := 4) ?hd (cs := #[.slice A1_0 l1_0.length c1_0, .slice A1_1 l1_1.length c1_1]) (t := 36) ?hr ?_; (case hd => rfl); (case hg => rfl); (case hr => first | (go_simp; done) | (go_simp; rfl)); intro gb261 hg w6 hbox hb; have n0_ := bb_ BK260 hb; have n1_ := Aside0.mk (below_step hb_ hb); have n2_ := Aside0.mk (hbox); have n3_ : Aside0 (w.heap.size ≤ gb261) := gz_; have n4_ : Aside0 (w.heap.size ≤ gb261) := gz_; have n5_ := Aside0.mk ((by rw [hg]; exact Nat.ne_of_lt (blk_lt (g := gb260) (o := .cells #[.slice A0_0 l0_0.length c0_0, .slice A0_1 l0_1.length c0_1, .slice A0_2 l0_2.length c0_2] 34 (0, 0)) (bk_ BK260.out)) : gb260 ≠ gb261)); have n6_ := Aside0.mk ((by rw [hg]; exact Nat.ne_of_gt (blk_lt (g := gb260) (o := .cells #[.slice A0_0 l0_0.length c0_0, .slice A0_1 l0_1.length c0_1, .slice A0_2 l0_2.length c0_2] 34 (0, 0)) (bk_ BK260.out)) : gb261 ≠ gb260)); clear BK260; clear HB; have BK260 := n0_; have HB := n1_; have BK261 := n2_; have GW261 := n3_; have GE261 := n4_; have NB260_261 := n5_; have NB261_260 := n6_; clear n0_ n1_ n2_ n3_ n4_ n5_ n6_; clear hb hbox hg))
  repeat (go_quiet (first | ((with_reducible refine gate_dst (N := 3) rfl ?_); (try (refine gate_guard (by rfl) ?_; dsimp only)); refine box_event ?hg (N := 3) ?hd (cs := #[.slice A0_0 l0_0.length c0_0, .slice A0_1 l0_1.length c0_1, .slice A0_2 l0_2.length c0_2]) (t := 34) ?hr ?_; (case hd => rfl); (case hg => rfl); (case hr => first | (go_simp; done) | (go_simp; rfl)); intro gb260 hg w5 hbox hb; have n0_ := Aside0.mk (below_step hb_ hb); have n1_ := Aside0.mk (hbox); have n2_ : Aside0 (w.heap.size ≤ gb260) := gz_; have n3_ : Aside0 (w.heap.size ≤ gb260) := gz_; clear HB; have HB := n0_; have BK260 := n1_; have GW260 := n2_; have GE260 := n3_; clear n0_ n1_ n2_ n3_; clear hb hbox hg) | ((with_reducible refine gate_dst (N := 4) rfl ?_); (try (refine gate_guard (by rfl) ?_; dsimp only)); refine box_event ?hg (N := 4) ?hd (cs := #[.slice A1_0 l1_0.length c1_0, .slice A1_1 l1_1.length c1_1]) (t := 36) ?hr ?_; (case hd => rfl); (case hg => rfl); (case hr => first | (go_simp; done) | (go_simp; rfl)); intro gb261 hg w6 hbox hb; have n0_ := bb_ BK260 hb; have n1_ := Aside0.mk (below_step hb_ hb); have n2_ := Aside0.mk (hbox); have n3_ : Aside0 (w.heap.size ≤ gb261) := gz_; have n4_ : Aside0 (w.heap.size ≤ gb261) := gz_; have n5_ := Aside0.mk ((by rw [hg]; exact Nat.ne_of_lt (blk_lt (g := gb260) (o := .cells #[.slice A0_0 l0_0.length c0_0, .slice A0_1 l0_1.length c0_1, .slice A0_2 l0_2.length c0_2] 34 (0, 0)) (bk_ BK260.out)) : gb260 ≠ gb261)); have n6_ := Aside0.mk ((by rw [hg]; exact Nat.ne_of_gt (blk_lt (g := gb260) (o := .cells #[.slice A0_0 l0_0.length c0_0, .slice A0_1 l0_1.length c0_1, .slice A0_2 l0_2.length c0_2] 34 (0, 0)) (bk_ BK260.out)) : gb261 ≠ gb260)); clear BK260; clear HB; have BK260 := n0_; have HB := n1_; have BK261 := n2_; have GW261 := n3_; have GE261 := n4_; have NB260_261 := n5_; have NB261_260 := n6_; clear n0_ n1_ n2_ n3_ n4_ n5_ n6_; clear hb hbox hg)); go_upto_region 1 with (first | ((with_reducible refine gate_dst (N := 3) rfl ?_); (try (refine gate_guard (by rfl) ?_; dsimp only)); refine box_event ?hg (N := 3) ?hd (cs := #[.slice A0_0 l0_0.length c0_0, .slice A0_1 l0_1.length c0_1, .slice A0_2 l0_2.length c0_2]) (t := 34) ?hr ?_; (case hd => rfl); (case hg => rfl); (case hr => first | (go_simp; done) | (go_simp; rfl)); intro gb260 hg w5 hbox hb; have n0_ := Aside0.mk (below_step hb_ hb); have n1_ := Aside0.mk (hbox); have n2_ : Aside0 (w.heap.size ≤ gb260) := gz_; have n3_ : Aside0 (w.heap.size ≤ gb260) := gz_; clear HB; have HB := n0_; have BK260 := n1_; have GW260 := n2_; have GE260 := n3_; clear n0_ n1_ n2_ n3_; clear hb hbox hg) | ((with_reducible refine gate_dst (N := 4) rfl ?_); (try (refine gate_guard (by rfl) ?_; dsimp only)); refine box_event ?hg (N := 4) ?hd (cs := #[.slice A1_0 l1_0.length c1_0, .slice A1_1 l1_1.length c1_1]) (t := 36) ?hr ?_; (case hd => rfl); (case hg => rfl); (case hr => first | (go_simp; done) | (go_simp; rfl)); intro gb261 hg w6 hbox hb; have n0_ := bb_ BK260 hb; have n1_ := Aside0.mk (below_step hb_ hb); have n2_ := Aside0.mk (hbox); have n3_ : Aside0 (w.heap.size ≤ gb261) := gz_; have n4_ : Aside0 (w.heap.size ≤ gb261) := gz_; have n5_ := Aside0.mk ((by rw [hg]; exact Nat.ne_of_lt (blk_lt (g := gb260) (o := .cells #[.slice A0_0 l0_0.length c0_0, .slice A0_1 l0_1.length c0_1, .slice A0_2 l0_2.length c0_2] 34 (0, 0)) (bk_ BK260.out)) : gb260 ≠ gb261)); have n6_ := Aside0.mk ((by rw [hg]; exact Nat.ne_of_gt (blk_lt (g := gb260) (o := .cells #[.slice A0_0 l0_0.length c0_0, .slice A0_1 l0_1.length c0_1, .slice A0_2 l0_2.length c0_2] 34 (0, 0)) (bk_ BK260.out)) : gb261 ≠ gb260)); clear BK260; clear HB; have BK260 := n0_; have HB := n1_; have BK261 := n2_; have GW261 := n3_; have GE261 := n4_; have NB260_261 := n5_; have NB261_260 := n6_; clear n0_ n1_ n2_ n3_ n4_ n5_ n6_; clear hb hbox hg)))
  (try simp only [Act.put, List.setIfInBounds_toArray, List.set_cons_zero, List.set_cons_succ])
  go_cut [29] (fun v29 wc => ∃ (kq : Nat) (x29_3 : Bool), v29 = .bool x29_3 ∧ Aside0 (impl_WishMet.j0 kq l2 x29_3 l0_0 l0_1 l0_2 l1_0 l1_1 = some (r1, r2)) ∧ Aside0 (kq ≤ k) ∧ Aside0 (wc.heap[gb260]? = some (.cells #[(.slice A0_0 l0_0.length c0_0), (.slice A0_1 l0_1.length c0_1), (.slice A0_2 l0_2.length c0_2)] 34 (0, 0))) ∧ Aside0 (wc.heap[gb261]? = some (.cells #[(.slice A1_0 l1_0.length c1_0), (.slice A1_1 l1_1.length c1_1)] 36 (0, 0))) ∧ Aside0 (Below w.heap.size w wc))
  case first =>
   have H := HC4.out
   clear HC4
   replace H := Option.bind_eq_some_iff.mp H
   obtain ⟨t262, A70, H⟩ := H
   replace H : (if t262 = true then ((impl_goodWish.f l1_0 l1_1).bind fun t263 => (if t263 = true then (if (l2.length : Int) < 1 then (impl_WishMet.j0 k l2 true l0_0 l0_1 l0_2 l1_0 l1_1) else (impl_WishMet.j0 k l2 (decide ((l2.length : Int) > 60)) l0_0 l0_1 l0_2 l1_0 l1_1)) else (impl_WishMet.j0 k l2 true l0_0 l0_1 l0_2 l1_0 l1_1))) else (impl_WishMet.j0 k l2 true l0_0 l0_1 l0_2 l1_0 l1_1)) = some (r1, r2) := H
   have A7 := Aside0.mk A70
   clear A70
   by_cases c8 : t262 = true
   ·subst c8
    rw [if_pos rfl] at H
    replace H := Option.bind_eq_some_iff.mp H
    obtain ⟨t263, A90, H⟩ := H
    replace H : (if t263 = true then (if (l2.length : Int) < 1 then (impl_WishMet.j0 k l2 true l0_0 l0_1 l0_2 l1_0 l1_1) else (impl_WishMet.j0 k l2 (decide ((l2.length : Int) > 60)) l0_0 l0_1 l0_2 l1_0 l1_1)) else (impl_WishMet.j0 k l2 true l0_0 l0_1 l0_2 l1_0 l1_1)) = some (r1, r2) := H
    have A9 := Aside0.mk A90
    clear A90
    by_cases c10 : t263 = true
    ·subst c10
     rw [if_pos rfl] at H
     by_cases c11 : (l2.length : Int) < 1
     ·rw [if_pos c11] at H
      have c11b0 : decide ((l2.length : Int) < 1) = true := decide_eq_true c11
      have c11b1 : decide (l2.length < 1) = true := decide_eq_true (by omega)
      clear c11
      (first | rw [c11b0] | (simp only [i64_w, i32_w]; rw [c11b0]) | skip)
      have H' := Aside0.mk H
      clear H
      have hnb12 := NB260_261.out
      have hnc12 := NB261_260.out
      have hcz13_0 : w6.cell? ⟨gb260, 0, none⟩ = some (.slice A0_0 l0_0.length c0_0) := (blk_cell BK260.out 0).trans rfl
      have hcz13_1 : w6.cell? ⟨gb260, 1, none⟩ = some (.slice A0_1 l0_1.length c0_1) := (blk_cell BK260.out 1).trans rfl
      have hcz13_2 : w6.cell? ⟨gb260, 2, none⟩ = some (.slice A0_2 l0_2.length c0_2) := (blk_cell BK260.out 2).trans rfl
      have hfz13_0 := blk_frozen BK260.out 0
      have hfz13_1 := blk_frozen BK260.out 1
      have hfz13_2 := blk_frozen BK260.out 2
      go_wp2_with (first | (go_at_call 28; (with_reducible refine (impl_GoodBoard.calls k _ _ l0_0 _ _ l0_1 _ _ l0_2 true _ ?side1 ?side2 ?side3 ?side4 ?side5 ?side6 A7.out).mono ?_); (case side1 => exact cb_ HR0_0.out); (case side2 => exact HC0_0.out); (case side3 => exact cb_ HR0_1.out); (case side4 => exact HC0_1.out); (case side5 => exact cb_ HR0_2.out); (case side6 => exact HC0_2.out); rintro e w14 ⟨rfl, hb⟩; have n0_ := bb_ BK260 hb; have n1_ := bb_ BK261 hb; have n2_ := Aside0.mk (below_step hb_ hb); clear BK260; clear BK261; clear HB; have BK260 := n0_; have BK261 := n1_; have HB := n2_; clear n0_ n1_ n2_; (try clear hb); (try clear hb2); (try clear hk); (try clear hi); have hcz15_0 : w14.cell? ⟨gb261, 0, none⟩ = some (.slice A1_0 l1_0.length c1_0) := (blk_cell BK261.out 0).trans rfl; have hcz15_1 : w14.cell? ⟨gb261, 1, none⟩ = some (.slice A1_1 l1_1.length c1_1) := (blk_cell BK261.out 1).trans rfl; have hfz15_0 := blk_frozen BK261.out 0; have hfz15_1 := blk_frozen BK261.out 1) | (go_at_call 55; (with_reducible refine (impl_goodWish.calls _ _ l1_0 _ _ l1_1 true _ ?side1 ?side2 ?side3 ?side4 A9.out).mono ?_); (case side1 => exact cb_ HR1_0.out); (case side2 => exact HC1_0.out); (case side3 => exact cb_ HR1_1.out); (case side4 => exact HC1_1.out); rintro e w16 ⟨rfl, hb⟩; have n0_ := bb_ BK260 hb; have n1_ := bb_ BK261 hb; have n2_ := Aside0.mk (below_step hb_ hb); clear BK260; clear BK261; clear HB; have BK260 := n0_; have BK261 := n1_; have HB := n2_; clear n0_ n1_ n2_; (try clear hb); (try clear hb2); (try clear hk); (try clear hi)))
      repeat (go_quiet (first | (go_at_call 28; (with_reducible refine (impl_GoodBoard.calls k _ _ l0_0 _ _ l0_1 _ _ l0_2 true _ ?side1 ?side2 ?side3 ?side4 ?side5 ?side6 A7.out).mono ?_); (case side1 => exact cb_ HR0_0.out); (case side2 => exact HC0_0.out); (case side3 => exact cb_ HR0_1.out); (case side4 => exact HC0_1.out); (case side5 => exact cb_ HR0_2.out); (case side6 => exact HC0_2.out); rintro e w14 ⟨rfl, hb⟩; have n0_ := bb_ BK260 hb; have n1_ := bb_ BK261 hb; have n2_ := Aside0.mk (below_step hb_ hb); clear BK260; clear BK261; clear HB; have BK260 := n0_; have BK261 := n1_; have HB := n2_; clear n0_ n1_ n2_; (try clear hb); (try clear hb2); (try clear hk); (try clear hi); have hcz15_0 : w14.cell? ⟨gb261, 0, none⟩ = some (.slice A1_0 l1_0.length c1_0) := (blk_cell BK261.out 0).trans rfl; have hcz15_1 : w14.cell? ⟨gb261, 1, none⟩ = some (.slice A1_1 l1_1.length c1_1) := (blk_cell BK261.out 1).trans rfl; have hfz15_0 := blk_frozen BK261.out 0; have hfz15_1 := blk_frozen BK261.out 1) | (go_at_call 55; (with_reducible refine (impl_goodWish.calls _ _ l1_0 _ _ l1_1 true _ ?side1 ?side2 ?side3 ?side4 A9.out).mono ?_); (case side1 => exact cb_ HR1_0.out); (case side2 => exact HC1_0.out); (case side3 => exact cb_ HR1_1.out); (case side4 => exact HC1_1.out); rintro e w16 ⟨rfl, hb⟩; have n0_ := bb_ BK260 hb; have n1_ := bb_ BK261 hb; have n2_ := Aside0.mk (below_step hb_ hb); clear BK260; clear BK261; clear HB; have BK260 := n0_; have BK261 := n1_; have HB := n2_; clear n0_ n1_ n2_; (try clear hb); (try clear hb2); (try clear hk); (try clear hi))); try go_wp2_with (first | (go_at_call 28; (with_reducible refine (impl_GoodBoard.calls k _ _ l0_0 _ _ l0_1 _ _ l0_2 true _ ?side1 ?side2 ?side3 ?side4 ?side5 ?side6 A7.out).mono ?_); (case side1 => exact cb_ HR0_0.out); (case side2 => exact HC0_0.out); (case side3 => exact cb_ HR0_1.out); (case side4 => exact HC0_1.out); (case side5 => exact cb_ HR0_2.out); (case side6 => exact HC0_2.out); rintro e w14 ⟨rfl, hb⟩; have n0_ := bb_ BK260 hb; have n1_ := bb_ BK261 hb; have n2_ := Aside0.mk (below_step hb_ hb); clear BK260; clear BK261; clear HB; have BK260 := n0_; have BK261 := n1_; have HB := n2_; clear n0_ n1_ n2_; (try clear hb); (try clear hb2); (try clear hk); (try clear hi); have hcz15_0 : w14.cell? ⟨gb261, 0, none⟩ = some (.slice A1_0 l1_0.length c1_0) := (blk_cell BK261.out 0).trans rfl; have hcz15_1 : w14.cell? ⟨gb261, 1, none⟩ = some (.slice A1_1 l1_1.length c1_1) := (blk_cell BK261.out 1).trans rfl; have hfz15_0 := blk_frozen BK261.out 0; have hfz15_1 := blk_frozen BK261.out 1) | (go_at_call 55; (with_reducible refine (impl_goodWish.calls _ _ l1_0 _ _ l1_1 true _ ?side1 ?side2 ?side3 ?side4 A9.out).mono ?_); (case side1 => exact cb_ HR1_0.out); (case side2 => exact HC1_0.out); (case side3 => exact cb_ HR1_1.out); (case side4 => exact HC1_1.out); rintro e w16 ⟨rfl, hb⟩; have n0_ := bb_ BK260 hb; have n1_ := bb_ BK261 hb; have n2_ := Aside0.mk (below_step hb_ hb); clear BK260; clear BK261; clear HB; have BK260 := n0_; have BK261 := n1_; have HB := n2_; clear n0_ n1_ n2_; (try clear hb); (try clear hb2); (try clear hk); (try clear hi))))
      go_meet
      case rel => exact ⟨_, (true), es_, H', ⟨by first | omega | exact Nat.le_refl _⟩, ⟨bk_ BK260.out⟩, ⟨bk_ BK261.out⟩, ⟨hb_⟩⟩
     ·rw [if_neg c11] at H
      have c11b0 : decide ((l2.length : Int) < 1) = false := decide_eq_false c11
      have c11b1 : decide (l2.length < 1) = false := decide_eq_false (by omega)
      clear c11
      (first | rw [c11b0] | (simp only [i64_w, i32_w]; rw [c11b0]) | skip)
      have H' := Aside0.mk H
      clear H
      have hnb17 := NB260_261.out
      have hnc17 := NB261_260.out
      have hcz18_0 : w6.cell? ⟨gb260, 0, none⟩ = some (.slice A0_0 l0_0.length c0_0) := (blk_cell BK260.out 0).trans rfl
      have hcz18_1 : w6.cell? ⟨gb260, 1, none⟩ = some (.slice A0_1 l0_1.length c0_1) := (blk_cell BK260.out 1).trans rfl
      have hcz18_2 : w6.cell? ⟨gb260, 2, none⟩ = some (.slice A0_2 l0_2.length c0_2) := (blk_cell BK260.out 2).trans rfl
      have hfz18_0 := blk_frozen BK260.out 0
      have hfz18_1 := blk_frozen BK260.out 1
      have hfz18_2 := blk_frozen BK260.out 2
      go_wp2_with (first | (go_at_call 28; (with_reducible refine (impl_GoodBoard.calls k _ _ l0_0 _ _ l0_1 _ _ l0_2 true _ ?side1 ?side2 ?side3 ?side4 ?side5 ?side6 A7.out).mono ?_); (case side1 => exact cb_ HR0_0.out); (case side2 => exact HC0_0.out); (case side3 => exact cb_ HR0_1.out); (case side4 => exact HC0_1.out); (case side5 => exact cb_ HR0_2.out); (case side6 => exact HC0_2.out); rintro e w19 ⟨rfl, hb⟩; have n0_ := bb_ BK260 hb; have n1_ := bb_ BK261 hb; have n2_ := Aside0.mk (below_step hb_ hb); clear BK260; clear BK261; clear HB; have BK260 := n0_; have BK261 := n1_; have HB := n2_; clear n0_ n1_ n2_; (try clear hb); (try clear hb2); (try clear hk); (try clear hi); have hcz20_0 : w19.cell? ⟨gb261, 0, none⟩ = some (.slice A1_0 l1_0.length c1_0) := (blk_cell BK261.out 0).trans rfl; have hcz20_1 : w19.cell? ⟨gb261, 1, none⟩ = some (.slice A1_1 l1_1.length c1_1) := (blk_cell BK261.out 1).trans rfl; have hfz20_0 := blk_frozen BK261.out 0; have hfz20_1 := blk_frozen BK261.out 1) | (go_at_call 55; (with_reducible refine (impl_goodWish.calls _ _ l1_0 _ _ l1_1 true _ ?side1 ?side2 ?side3 ?side4 A9.out).mono ?_); (case side1 => exact cb_ HR1_0.out); (case side2 => exact HC1_0.out); (case side3 => exact cb_ HR1_1.out); (case side4 => exact HC1_1.out); rintro e w21 ⟨rfl, hb⟩; have n0_ := bb_ BK260 hb; have n1_ := bb_ BK261 hb; have n2_ := Aside0.mk (below_step hb_ hb); clear BK260; clear BK261; clear HB; have BK260 := n0_; have BK261 := n1_; have HB := n2_; clear n0_ n1_ n2_; (try clear hb); (try clear hb2); (try clear hk); (try clear hi)))
      repeat (go_quiet (first | (go_at_call 28; (with_reducible refine (impl_GoodBoard.calls k _ _ l0_0 _ _ l0_1 _ _ l0_2 true _ ?side1 ?side2 ?side3 ?side4 ?side5 ?side6 A7.out).mono ?_); (case side1 => exact cb_ HR0_0.out); (case side2 => exact HC0_0.out); (case side3 => exact cb_ HR0_1.out); (case side4 => exact HC0_1.out); (case side5 => exact cb_ HR0_2.out); (case side6 => exact HC0_2.out); rintro e w19 ⟨rfl, hb⟩; have n0_ := bb_ BK260 hb; have n1_ := bb_ BK261 hb; have n2_ := Aside0.mk (below_step hb_ hb); clear BK260; clear BK261; clear HB; have BK260 := n0_; have BK261 := n1_; have HB := n2_; clear n0_ n1_ n2_; (try clear hb); (try clear hb2); (try clear hk); (try clear hi); have hcz20_0 : w19.cell? ⟨gb261, 0, none⟩ = some (.slice A1_0 l1_0.length c1_0) := (blk_cell BK261.out 0).trans rfl; have hcz20_1 : w19.cell? ⟨gb261, 1, none⟩ = some (.slice A1_1 l1_1.length c1_1) := (blk_cell BK261.out 1).trans rfl; have hfz20_0 := blk_frozen BK261.out 0; have hfz20_1 := blk_frozen BK261.out 1) | (go_at_call 55; (with_reducible refine (impl_goodWish.calls _ _ l1_0 _ _ l1_1 true _ ?side1 ?side2 ?side3 ?side4 A9.out).mono ?_); (case side1 => exact cb_ HR1_0.out); (case side2 => exact HC1_0.out); (case side3 => exact cb_ HR1_1.out); (case side4 => exact HC1_1.out); rintro e w21 ⟨rfl, hb⟩; have n0_ := bb_ BK260 hb; have n1_ := bb_ BK261 hb; have n2_ := Aside0.mk (below_step hb_ hb); clear BK260; clear BK261; clear HB; have BK260 := n0_; have BK261 := n1_; have HB := n2_; clear n0_ n1_ n2_; (try clear hb); (try clear hb2); (try clear hk); (try clear hi))); try go_wp2_with (first | (go_at_call 28; (with_reducible refine (impl_GoodBoard.calls k _ _ l0_0 _ _ l0_1 _ _ l0_2 true _ ?side1 ?side2 ?side3 ?side4 ?side5 ?side6 A7.out).mono ?_); (case side1 => exact cb_ HR0_0.out); (case side2 => exact HC0_0.out); (case side3 => exact cb_ HR0_1.out); (case side4 => exact HC0_1.out); (case side5 => exact cb_ HR0_2.out); (case side6 => exact HC0_2.out); rintro e w19 ⟨rfl, hb⟩; have n0_ := bb_ BK260 hb; have n1_ := bb_ BK261 hb; have n2_ := Aside0.mk (below_step hb_ hb); clear BK260; clear BK261; clear HB; have BK260 := n0_; have BK261 := n1_; have HB := n2_; clear n0_ n1_ n2_; (try clear hb); (try clear hb2); (try clear hk); (try clear hi); have hcz20_0 : w19.cell? ⟨gb261, 0, none⟩ = some (.slice A1_0 l1_0.length c1_0) := (blk_cell BK261.out 0).trans rfl; have hcz20_1 : w19.cell? ⟨gb261, 1, none⟩ = some (.slice A1_1 l1_1.length c1_1) := (blk_cell BK261.out 1).trans rfl; have hfz20_0 := blk_frozen BK261.out 0; have hfz20_1 := blk_frozen BK261.out 1) | (go_at_call 55; (with_reducible refine (impl_goodWish.calls _ _ l1_0 _ _ l1_1 true _ ?side1 ?side2 ?side3 ?side4 A9.out).mono ?_); (case side1 => exact cb_ HR1_0.out); (case side2 => exact HC1_0.out); (case side3 => exact cb_ HR1_1.out); (case side4 => exact HC1_1.out); rintro e w21 ⟨rfl, hb⟩; have n0_ := bb_ BK260 hb; have n1_ := bb_ BK261 hb; have n2_ := Aside0.mk (below_step hb_ hb); clear BK260; clear BK261; clear HB; have BK260 := n0_; have BK261 := n1_; have HB := n2_; clear n0_ n1_ n2_; (try clear hb); (try clear hb2); (try clear hk); (try clear hi))))
      go_meet
      case rel => exact ⟨_, (decide ((l2.length : Int) > 60)), es_, H', ⟨by first | omega | exact Nat.le_refl _⟩, ⟨bk_ BK260.out⟩, ⟨bk_ BK261.out⟩, ⟨hb_⟩⟩
    ·replace c10 := Bool.eq_false_iff.mpr c10
     subst c10
     rw [if_neg (show ¬ (false = true) by decide)] at H
     have H' := Aside0.mk H
     clear H
     have hnb22 := NB260_261.out
     have hnc22 := NB261_260.out
     have hcz23_0 : w6.cell? ⟨gb260, 0, none⟩ = some (.slice A0_0 l0_0.length c0_0) := (blk_cell BK260.out 0).trans rfl
     have hcz23_1 : w6.cell? ⟨gb260, 1, none⟩ = some (.slice A0_1 l0_1.length c0_1) := (blk_cell BK260.out 1).trans rfl
     have hcz23_2 : w6.cell? ⟨gb260, 2, none⟩ = some (.slice A0_2 l0_2.length c0_2) := (blk_cell BK260.out 2).trans rfl
     have hfz23_0 := blk_frozen BK260.out 0
     have hfz23_1 := blk_frozen BK260.out 1
     have hfz23_2 := blk_frozen BK260.out 2
     go_wp2_with (first | (go_at_call 28; (with_reducible refine (impl_GoodBoard.calls k _ _ l0_0 _ _ l0_1 _ _ l0_2 true _ ?side1 ?side2 ?side3 ?side4 ?side5 ?side6 A7.out).mono ?_); (case side1 => exact cb_ HR0_0.out); (case side2 => exact HC0_0.out); (case side3 => exact cb_ HR0_1.out); (case side4 => exact HC0_1.out); (case side5 => exact cb_ HR0_2.out); (case side6 => exact HC0_2.out); rintro e w24 ⟨rfl, hb⟩; have n0_ := bb_ BK260 hb; have n1_ := bb_ BK261 hb; have n2_ := Aside0.mk (below_step hb_ hb); clear BK260; clear BK261; clear HB; have BK260 := n0_; have BK261 := n1_; have HB := n2_; clear n0_ n1_ n2_; (try clear hb); (try clear hb2); (try clear hk); (try clear hi); have hcz25_0 : w24.cell? ⟨gb261, 0, none⟩ = some (.slice A1_0 l1_0.length c1_0) := (blk_cell BK261.out 0).trans rfl; have hcz25_1 : w24.cell? ⟨gb261, 1, none⟩ = some (.slice A1_1 l1_1.length c1_1) := (blk_cell BK261.out 1).trans rfl; have hfz25_0 := blk_frozen BK261.out 0; have hfz25_1 := blk_frozen BK261.out 1) | (go_at_call 55; (with_reducible refine (impl_goodWish.calls _ _ l1_0 _ _ l1_1 false _ ?side1 ?side2 ?side3 ?side4 A9.out).mono ?_); (case side1 => exact cb_ HR1_0.out); (case side2 => exact HC1_0.out); (case side3 => exact cb_ HR1_1.out); (case side4 => exact HC1_1.out); rintro e w26 ⟨rfl, hb⟩; have n0_ := bb_ BK260 hb; have n1_ := bb_ BK261 hb; have n2_ := Aside0.mk (below_step hb_ hb); clear BK260; clear BK261; clear HB; have BK260 := n0_; have BK261 := n1_; have HB := n2_; clear n0_ n1_ n2_; (try clear hb); (try clear hb2); (try clear hk); (try clear hi)))
     repeat (go_quiet (first | (go_at_call 28; (with_reducible refine (impl_GoodBoard.calls k _ _ l0_0 _ _ l0_1 _ _ l0_2 true _ ?side1 ?side2 ?side3 ?side4 ?side5 ?side6 A7.out).mono ?_); (case side1 => exact cb_ HR0_0.out); (case side2 => exact HC0_0.out); (case side3 => exact cb_ HR0_1.out); (case side4 => exact HC0_1.out); (case side5 => exact cb_ HR0_2.out); (case side6 => exact HC0_2.out); rintro e w24 ⟨rfl, hb⟩; have n0_ := bb_ BK260 hb; have n1_ := bb_ BK261 hb; have n2_ := Aside0.mk (below_step hb_ hb); clear BK260; clear BK261; clear HB; have BK260 := n0_; have BK261 := n1_; have HB := n2_; clear n0_ n1_ n2_; (try clear hb); (try clear hb2); (try clear hk); (try clear hi); have hcz25_0 : w24.cell? ⟨gb261, 0, none⟩ = some (.slice A1_0 l1_0.length c1_0) := (blk_cell BK261.out 0).trans rfl; have hcz25_1 : w24.cell? ⟨gb261, 1, none⟩ = some (.slice A1_1 l1_1.length c1_1) := (blk_cell BK261.out 1).trans rfl; have hfz25_0 := blk_frozen BK261.out 0; have hfz25_1 := blk_frozen BK261.out 1) | (go_at_call 55; (with_reducible refine (impl_goodWish.calls _ _ l1_0 _ _ l1_1 false _ ?side1 ?side2 ?side3 ?side4 A9.out).mono ?_); (case side1 => exact cb_ HR1_0.out); (case side2 => exact HC1_0.out); (case side3 => exact cb_ HR1_1.out); (case side4 => exact HC1_1.out); rintro e w26 ⟨rfl, hb⟩; have n0_ := bb_ BK260 hb; have n1_ := bb_ BK261 hb; have n2_ := Aside0.mk (below_step hb_ hb); clear BK260; clear BK261; clear HB; have BK260 := n0_; have BK261 := n1_; have HB := n2_; clear n0_ n1_ n2_; (try clear hb); (try clear hb2); (try clear hk); (try clear hi))); try go_wp2_with (first | (go_at_call 28; (with_reducible refine (impl_GoodBoard.calls k _ _ l0_0 _ _ l0_1 _ _ l0_2 true _ ?side1 ?side2 ?side3 ?side4 ?side5 ?side6 A7.out).mono ?_); (case side1 => exact cb_ HR0_0.out); (case side2 => exact HC0_0.out); (case side3 => exact cb_ HR0_1.out); (case side4 => exact HC0_1.out); (case side5 => exact cb_ HR0_2.out); (case side6 => exact HC0_2.out); rintro e w24 ⟨rfl, hb⟩; have n0_ := bb_ BK260 hb; have n1_ := bb_ BK261 hb; have n2_ := Aside0.mk (below_step hb_ hb); clear BK260; clear BK261; clear HB; have BK260 := n0_; have BK261 := n1_; have HB := n2_; clear n0_ n1_ n2_; (try clear hb); (try clear hb2); (try clear hk); (try clear hi); have hcz25_0 : w24.cell? ⟨gb261, 0, none⟩ = some (.slice A1_0 l1_0.length c1_0) := (blk_cell BK261.out 0).trans rfl; have hcz25_1 : w24.cell? ⟨gb261, 1, none⟩ = some (.slice A1_1 l1_1.length c1_1) := (blk_cell BK261.out 1).trans rfl; have hfz25_0 := blk_frozen BK261.out 0; have hfz25_1 := blk_frozen BK261.out 1) | (go_at_call 55; (with_reducible refine (impl_goodWish.calls _ _ l1_0 _ _ l1_1 false _ ?side1 ?side2 ?side3 ?side4 A9.out).mono ?_); (case side1 => exact cb_ HR1_0.out); (case side2 => exact HC1_0.out); (case side3 => exact cb_ HR1_1.out); (case side4 => exact HC1_1.out); rintro e w26 ⟨rfl, hb⟩; have n0_ := bb_ BK260 hb; have n1_ := bb_ BK261 hb; have n2_ := Aside0.mk (below_step hb_ hb); clear BK260; clear BK261; clear HB; have BK260 := n0_; have BK261 := n1_; have HB := n2_; clear n0_ n1_ n2_; (try clear hb); (try clear hb2); (try clear hk); (try clear hi))))
     go_meet
     case rel => exact ⟨_, (true), es_, H', ⟨by first | omega | exact Nat.le_refl _⟩, ⟨bk_ BK260.out⟩, ⟨bk_ BK261.out⟩, ⟨hb_⟩⟩
   ·replace c8 := Bool.eq_false_iff.mpr c8
    subst c8
    rw [if_neg (show ¬ (false = true) by decide)] at H
    have H' := Aside0.mk H
    clear H
    have hnb27 := NB260_261.out
    have hnc27 := NB261_260.out
    have hcz28_0 : w6.cell? ⟨gb260, 0, none⟩ = some (.slice A0_0 l0_0.length c0_0) := (blk_cell BK260.out 0).trans rfl
    have hcz28_1 : w6.cell? ⟨gb260, 1, none⟩ = some (.slice A0_1 l0_1.length c0_1) := (blk_cell BK260.out 1).trans rfl
    have hcz28_2 : w6.cell? ⟨gb260, 2, none⟩ = some (.slice A0_2 l0_2.length c0_2) := (blk_cell BK260.out 2).trans rfl
    have hfz28_0 := blk_frozen BK260.out 0
    have hfz28_1 := blk_frozen BK260.out 1
    have hfz28_2 := blk_frozen BK260.out 2
    go_wp2_with (first | (go_at_call 28; (with_reducible refine (impl_GoodBoard.calls k _ _ l0_0 _ _ l0_1 _ _ l0_2 false _ ?side1 ?side2 ?side3 ?side4 ?side5 ?side6 A7.out).mono ?_); (case side1 => exact cb_ HR0_0.out); (case side2 => exact HC0_0.out); (case side3 => exact cb_ HR0_1.out); (case side4 => exact HC0_1.out); (case side5 => exact cb_ HR0_2.out); (case side6 => exact HC0_2.out); rintro e w29 ⟨rfl, hb⟩; have n0_ := bb_ BK260 hb; have n1_ := bb_ BK261 hb; have n2_ := Aside0.mk (below_step hb_ hb); clear BK260; clear BK261; clear HB; have BK260 := n0_; have BK261 := n1_; have HB := n2_; clear n0_ n1_ n2_; (try clear hb); (try clear hb2); (try clear hk); (try clear hi)))
    repeat (go_quiet (first | (go_at_call 28; (with_reducible refine (impl_GoodBoard.calls k _ _ l0_0 _ _ l0_1 _ _ l0_2 false _ ?side1 ?side2 ?side3 ?side4 ?side5 ?side6 A7.out).mono ?_); (case side1 => exact cb_ HR0_0.out); (case side2 => exact HC0_0.out); (case side3 => exact cb_ HR0_1.out); (case side4 => exact HC0_1.out); (case side5 => exact cb_ HR0_2.out); (case side6 => exact HC0_2.out); rintro e w29 ⟨rfl, hb⟩; have n0_ := bb_ BK260 hb; have n1_ := bb_ BK261 hb; have n2_ := Aside0.mk (below_step hb_ hb); clear BK260; clear BK261; clear HB; have BK260 := n0_; have BK261 := n1_; have HB := n2_; clear n0_ n1_ n2_; (try clear hb); (try clear hb2); (try clear hk); (try clear hi))); try go_wp2_with (first | (go_at_call 28; (with_reducible refine (impl_GoodBoard.calls k _ _ l0_0 _ _ l0_1 _ _ l0_2 false _ ?side1 ?side2 ?side3 ?side4 ?side5 ?side6 A7.out).mono ?_); (case side1 => exact cb_ HR0_0.out); (case side2 => exact HC0_0.out); (case side3 => exact cb_ HR0_1.out); (case side4 => exact HC0_1.out); (case side5 => exact cb_ HR0_2.out); (case side6 => exact HC0_2.out); rintro e w29 ⟨rfl, hb⟩; have n0_ := bb_ BK260 hb; have n1_ := bb_ BK261 hb; have n2_ := Aside0.mk (below_step hb_ hb); clear BK260; clear BK261; clear HB; have BK260 := n0_; have BK261 := n1_; have HB := n2_; clear n0_ n1_ n2_; (try clear hb); (try clear hb2); (try clear hk); (try clear hi))))
    go_meet
    case rel => exact ⟨_, (true), es_, H', ⟨by first | omega | exact Nat.le_refl _⟩, ⟨bk_ BK260.out⟩, ⟨bk_ BK261.out⟩, ⟨hb_⟩⟩
  case rest =>
   clear HC4
   try clear c1
   try clear c2
   try clear p2
   try clear c3
   try clear c8
   try clear c10
   try clear c11
   try clear c11b0
   try clear c11b1
   try clear c12
   try clear c17
   try clear c22
   try clear c27
   try clear hcz13_0
   try clear hcz13_1
   try clear hcz13_2
   try clear hcz15_0
   try clear hcz15_1
   try clear hcz18_0
   try clear hcz18_1
   try clear hcz18_2
   try clear hcz20_0
   try clear hcz20_1
   try clear hcz23_0
   try clear hcz23_1
   try clear hcz23_2
   try clear hcz25_0
   try clear hcz25_1
   try clear hcz28_0
   try clear hcz28_1
   try clear hcz28_2
   try clear hfz13_0
   try clear hfz13_1
   try clear hfz13_2
   try clear hfz15_0
   try clear hfz15_1
   try clear hfz18_0
   try clear hfz18_1
   try clear hfz18_2
   try clear hfz20_0
   try clear hfz20_1
   try clear hfz23_0
   try clear hfz23_1
   try clear hfz23_2
   try clear hfz25_0
   try clear hfz25_1
   try clear hfz28_0
   try clear hfz28_1
   try clear hfz28_2
   obtain ⟨kq, x29_3, rfl, HA, HJ3, BK260, BK261, HB⟩ := hcut
   cases kq with
   | zero => exact absurd HA.out (by simp [impl_WishMet.j0])
   | succ kj3 =>
    have H := HA.out
    clear HA
    simp only [impl_WishMet.j0] at H
    by_cases c30 : x29_3 = true
    ·subst c30
     rw [if_pos rfl] at H
     simp only [Option.some.injEq, Prod.mk.injEq] at H
     obtain ⟨rfl, rfl⟩ := H
     go_wp2
     repeat (go_quiet (fail); try go_wp2)
     go_ret2
     exact ⟨er_, hb_⟩
    ·replace c30 := Bool.eq_false_iff.mpr c30
     subst c30
     rw [if_neg (show ¬ (false = true) by decide)] at H
     have H' := Aside0.mk H
     clear H
     go_wp2
     repeat (go_quiet (fail); try go_wp2)
     go_loopg [32] kj3 (fun kq v32 w' => ∃ (x32_2 : Int), v32 = .int .i64 x32_2 ∧ Aside0 (impl_WishMet.l0 kq l2 l2 (l2.length : Int) x32_2 l0_0 l0_1 l0_2 l1_0 l1_1 = some (r1, r2)) ∧ Aside0 (kq ≤ kj3) ∧ Aside0 (w'.heap[gb260]? = some (.cells #[(.slice A0_0 l0_0.length c0_0), (.slice A0_1 l0_1.length c0_1), (.slice A0_2 l0_2.length c0_2)] 34 (0, 0))) ∧ Aside0 (w'.heap[gb261]? = some (.cells #[(.slice A1_0 l1_0.length c1_0), (.slice A1_1 l1_1.length c1_1)] 36 (0, 0))) ∧ Aside0 (Below w.heap.size w w'))
     case atStart => exact ⟨(0), es_, H', ⟨Nat.le_refl _⟩, ⟨bk_ BK260.out⟩, ⟨bk_ BK261.out⟩, ⟨hb_⟩⟩
     case round =>
      clear H'
      try clear c1
      try clear c2
      try clear p2
      try clear c3
      try clear c8
      try clear c10
      try clear c11
      try clear c11b0
      try clear c11b1
      try clear c12
      try clear c17
      try clear c22
      try clear c27
      try clear c30
      try clear hcz13_0
      try clear hcz13_1
      try clear hcz13_2
      try clear hcz15_0
      try clear hcz15_1
      try clear hcz18_0
      try clear hcz18_1
      try clear hcz18_2
      try clear hcz20_0
      try clear hcz20_1
      try clear hcz23_0
      try clear hcz23_1
      try clear hcz23_2
      try clear hcz25_0
      try clear hcz25_1
      try clear hcz28_0
      try clear hcz28_1
      try clear hcz28_2
      try clear hfz13_0
      try clear hfz13_1
      try clear hfz13_2
      try clear hfz15_0
      try clear hfz15_1
      try clear hfz18_0
      try clear hfz18_1
      try clear hfz18_2
      try clear hfz20_0
      try clear hfz20_1
      try clear hfz23_0
      try clear hfz23_1
      try clear hfz23_2
      try clear hfz25_0
      try clear hfz25_1
      try clear hfz28_0
      try clear hfz28_1
      try clear hfz28_2
      try clear p2
      obtain ⟨x32_2, rfl, HA, HK2, BK260, BK261, HB⟩ := hrel
      cases gk with
      | zero => exact absurd HA.out (by simp [impl_WishMet.l0])
      | succ k2 =>
       have H := HA.out
       clear HA
       simp only [impl_WishMet.l0] at H
       by_cases c31 : x32_2 < (l2.length : Int)
       ·rw [if_pos c31] at H
        have c31b0 : decide (x32_2 < (l2.length : Int)) = true := decide_eq_true c31
        clear c31
        by_cases c32 : 0 ≤ x32_2
        ·rw [if_pos c32] at H
         have c32b0 : decide (0 ≤ x32_2) = true := decide_eq_true c32
         clear c32
         by_cases c33 : x32_2 < (l2.length : Int)
         ·rw [if_pos c33] at H
          have c33b0 : decide (x32_2 < (l2.length : Int)) = true := decide_eq_true c33
          clear c33
          replace H := Option.bind_eq_some_iff.mp H
          obtain ⟨t265, A340, H⟩ := H
          replace H : (if t265 = true then (if x32_2 > 0 then (if 0 ≤ (wrap64 (x32_2 - 1)) then (if (wrap64 (x32_2 - 1)) < (l2.length : Int) then (if 0 ≤ (rd l2 (wrap64 (x32_2 - 1))) then (if (rd l2 (wrap64 (x32_2 - 1))) < (l0_2.length : Int) then ((slices_Contains_int_int.f k2 (rd_L3 l0_2 (rd l2 (wrap64 (x32_2 - 1)))) (rd l2 x32_2)).bind fun t268 => (if t268 = true then (impl_WishMet.l0 k2 l2 l2 (l2.length : Int) (wrap64 (x32_2 + 1)) l0_0 l0_1 l0_2 l1_0 l1_1) else (some (false, false)))) else (none)) else (none)) else (none)) else (none)) else (impl_WishMet.l0 k2 l2 l2 (l2.length : Int) (wrap64 (x32_2 + 1)) l0_0 l0_1 l0_2 l1_0 l1_1)) else (some (false, false))) = some (r1, r2) := H
          have A34 := Aside0.mk A340
          clear A340
          by_cases c35 : t265 = true
          ·subst c35
           rw [if_pos rfl] at H
           by_cases c36 : x32_2 > 0
           ·rw [if_pos c36] at H
            have c36b0 : decide (0 < x32_2) = true := decide_eq_true c36
            clear c36
            obtain ⟨ji37, hji37⟩ : ∃ j_ : Int, (wrap64 (x32_2 - 1)) = j_ := ⟨_, rfl⟩
            replace H : (if 0 ≤ (ji37) then (if (ji37) < (l2.length : Int) then (if 0 ≤ (rd l2 (ji37)) then (if (rd l2 (ji37)) < (l0_2.length : Int) then ((slices_Contains_int_int.f k2 (rd_L3 l0_2 (rd l2 (ji37))) (rd l2 x32_2)).bind fun t268 => (if t268 = true then (impl_WishMet.l0 k2 l2 l2 (l2.length : Int) (wrap64 (x32_2 + 1)) l0_0 l0_1 l0_2 l1_0 l1_1) else (some (false, false)))) else (none)) else (none)) else (none)) else (none)) = some (r1, r2) := by first | (rw [hji37] at H; exact H) | (simp only [hji37] at H ⊢; exact H)
            (try rw [hji37] at A34)
            have hji37w : (IntKind.i64.wrap (x32_2 - 1)) = ji37 := (i64_w _).trans hji37
            by_cases c38 : 0 ≤ (ji37)
            ·rw [if_pos c38] at H
             have c38b0 : decide (0 ≤ (ji37)) = true := decide_eq_true c38
             clear c38
             by_cases c39 : (ji37) < (l2.length : Int)
             ·rw [if_pos c39] at H
              have c39b0 : decide ((ji37) < (l2.length : Int)) = true := decide_eq_true c39
              clear c39
              by_cases c40 : 0 ≤ (rd l2 (ji37))
              ·rw [if_pos c40] at H
               have c40b0 : decide (0 ≤ (rd l2 (ji37))) = true := decide_eq_true c40
               clear c40
               by_cases c41 : (rd l2 (ji37)) < (l0_2.length : Int)
               ·rw [if_pos c41] at H
                have c41b0 : decide ((rd l2 (ji37)) < (l0_2.length : Int)) = true := decide_eq_true c41
                clear c41
                replace H := Option.bind_eq_some_iff.mp H
                obtain ⟨t268, A420, H⟩ := H
                replace H : (if t268 = true then (impl_WishMet.l0 k2 l2 l2 (l2.length : Int) (wrap64 (x32_2 + 1)) l0_0 l0_1 l0_2 l1_0 l1_1) else (some (false, false))) = some (r1, r2) := H
                have A42 := Aside0.mk A420
                clear A420
                by_cases c43 : t268 = true
                ·subst c43
                 rw [if_pos rfl] at H
                 have H' := Aside0.mk H
                 clear H
                 have p264 : 0 ≤ (x32_2 : Int) := of_decide_eq_true as_
                 have q264 : x32_2 < (l2.length : Int) := of_decide_eq_true as_
                 obtain ⟨ad264, e264, hx264_0⟩ := Kd.at_int HR2.out x32_2 p264 q264
                 cases e264
                 replace hx264_0 := hc_ HB hx264_0
                 replace p264 := eq_true p264
                 replace q264 := eq_true q264
                 have hnb44 := NB260_261.out
                 have hnc44 := NB261_260.out
                 have hcz45_0 : wr.cell? ⟨gb260, 0, none⟩ = some (.slice A0_0 l0_0.length c0_0) := (blk_cell BK260.out 0).trans rfl
                 have hcz45_1 : wr.cell? ⟨gb260, 1, none⟩ = some (.slice A0_1 l0_1.length c0_1) := (blk_cell BK260.out 1).trans rfl
                 have hcz45_2 : wr.cell? ⟨gb260, 2, none⟩ = some (.slice A0_2 l0_2.length c0_2) := (blk_cell BK260.out 2).trans rfl
                 have hfz45_0 := blk_frozen BK260.out 0
                 have hfz45_1 := blk_frozen BK260.out 1
                 have hfz45_2 := blk_frozen BK260.out 2
                 have p266 : 0 ≤ ((ji37) : Int) := of_decide_eq_true as_; have q266 : (ji37) < (l2.length : Int) := of_decide_eq_true as_; obtain ⟨ad266, e266, hx266_0⟩ := Kd.at_int HR2.out (ji37) p266 q266; obtain rfl : ad264 = ad266 := (by injection e266); replace hx266_0 := hc_ HB hx266_0; replace p266 := eq_true p266; replace q266 := eq_true q266; have p267 : 0 ≤ ((rd l2 (ji37)) : Int) := of_decide_eq_true as_; have q267 : (rd l2 (ji37)) < (l0_2.length : Int) := of_decide_eq_true as_; obtain ⟨ad267, A267_0, c267_0, e267, hx267_0, hl267_0, hi267_0⟩ := at_L3 HR0_2.out (rd l2 (ji37)) p267 q267; cases e267; replace hx267_0 := hc_ HB hx267_0; have HR267_0 := Aside0.mk hi267_0; have HC267_0 := Aside0.mk hl267_0; clear hi267_0 hl267_0; replace p267 := eq_true p267; replace q267 := eq_true q267
                 go_wp2_with (first | (go_at_call 77; (with_reducible refine (impl_between.calls (rd l2 x32_2) 0 (wrap64 ((l0_0.length : Int) - 1)) true _ A34.out).mono ?_); rintro e w' ⟨rfl, ⟨nd, rfl⟩⟩; (try first | exact ⟨rfl, _, World.drewN_drewN _ _ _⟩ | exact ⟨rfl, _, Eq.trans (World.drewN_drewN _ _ _) (congrArg (World.drewN _) (Nat.add_assoc _ _ _))⟩)) | (go_at_call 78; (with_reducible refine (slices_Contains_int_int.calls k2 _ _ (rd_L3 l0_2 (rd l2 (ji37))) (rd l2 x32_2) true _ ?side1 ?side2 A42.out).mono ?_); (case side1 => repeat (first | exact (Kd.C_below HR267_0.out hb_) | (with_reducible refine Kd.C_alloc ?_ _) | (with_reducible refine Kd.C_drewN ?_ _) | (with_reducible refine Kd.C_drew ?_))); (case side2 => exact HC267_0.out); rintro e w' ⟨rfl, ⟨nd, rfl⟩⟩; (try first | exact ⟨rfl, _, World.drewN_drewN _ _ _⟩ | exact ⟨rfl, _, Eq.trans (World.drewN_drewN _ _ _) (congrArg (World.drewN _) (Nat.add_assoc _ _ _))⟩)))
                 repeat (go_quiet (first | (go_at_call 77; (with_reducible refine (impl_between.calls (rd l2 x32_2) 0 (wrap64 ((l0_0.length : Int) - 1)) true _ A34.out).mono ?_); rintro e w' ⟨rfl, ⟨nd, rfl⟩⟩; (try first | exact ⟨rfl, _, World.drewN_drewN _ _ _⟩ | exact ⟨rfl, _, Eq.trans (World.drewN_drewN _ _ _) (congrArg (World.drewN _) (Nat.add_assoc _ _ _))⟩)) | (go_at_call 78; (with_reducible refine (slices_Contains_int_int.calls k2 _ _ (rd_L3 l0_2 (rd l2 (ji37))) (rd l2 x32_2) true _ ?side1 ?side2 A42.out).mono ?_); (case side1 => repeat (first | exact (Kd.C_below HR267_0.out hb_) | (with_reducible refine Kd.C_alloc ?_ _) | (with_reducible refine Kd.C_drewN ?_ _) | (with_reducible refine Kd.C_drew ?_))); (case side2 => exact HC267_0.out); rintro e w' ⟨rfl, ⟨nd, rfl⟩⟩; (try first | exact ⟨rfl, _, World.drewN_drewN _ _ _⟩ | exact ⟨rfl, _, Eq.trans (World.drewN_drewN _ _ _) (congrArg (World.drewN _) (Nat.add_assoc _ _ _))⟩))); try go_wp2_with (first | (go_at_call 77; (with_reducible refine (impl_between.calls (rd l2 x32_2) 0 (wrap64 ((l0_0.length : Int) - 1)) true _ A34.out).mono ?_); rintro e w' ⟨rfl, ⟨nd, rfl⟩⟩; (try first | exact ⟨rfl, _, World.drewN_drewN _ _ _⟩ | exact ⟨rfl, _, Eq.trans (World.drewN_drewN _ _ _) (congrArg (World.drewN _) (Nat.add_assoc _ _ _))⟩)) | (go_at_call 78; (with_reducible refine (slices_Contains_int_int.calls k2 _ _ (rd_L3 l0_2 (rd l2 (ji37))) (rd l2 x32_2) true _ ?side1 ?side2 A42.out).mono ?_); (case side1 => repeat (first | exact (Kd.C_below HR267_0.out hb_) | (with_reducible refine Kd.C_alloc ?_ _) | (with_reducible refine Kd.C_drewN ?_ _) | (with_reducible refine Kd.C_drew ?_))); (case side2 => exact HC267_0.out); rintro e w' ⟨rfl, ⟨nd, rfl⟩⟩; (try first | exact ⟨rfl, _, World.drewN_drewN _ _ _⟩ | exact ⟨rfl, _, Eq.trans (World.drewN_drewN _ _ _) (congrArg (World.drewN _) (Nat.add_assoc _ _ _))⟩))))
                 go_roundg k2
                 case measure => have := HJ3.out; have := HK2.out; omega
                 case rel => exact ⟨(wrap64 (x32_2 + 1)), es_, H', ⟨by have := HJ3.out; have := HK2.out; omega⟩, ⟨bk_ BK260.out⟩, ⟨bk_ BK261.out⟩, ⟨hb_⟩⟩
                ·replace c43 := Bool.eq_false_iff.mpr c43
                 subst c43
                 rw [if_neg (show ¬ (false = true) by decide)] at H
                 simp only [Option.some.injEq, Prod.mk.injEq] at H
                 obtain ⟨rfl, rfl⟩ := H
                 have p264 : 0 ≤ (x32_2 : Int) := of_decide_eq_true as_
                 have q264 : x32_2 < (l2.length : Int) := of_decide_eq_true as_
                 obtain ⟨ad264, e264, hx264_0⟩ := Kd.at_int HR2.out x32_2 p264 q264
                 cases e264
                 replace hx264_0 := hc_ HB hx264_0
                 replace p264 := eq_true p264
                 replace q264 := eq_true q264
                 have hnb46 := NB260_261.out
                 have hnc46 := NB261_260.out
                 have hcz47_0 : wr.cell? ⟨gb260, 0, none⟩ = some (.slice A0_0 l0_0.length c0_0) := (blk_cell BK260.out 0).trans rfl
                 have hcz47_1 : wr.cell? ⟨gb260, 1, none⟩ = some (.slice A0_1 l0_1.length c0_1) := (blk_cell BK260.out 1).trans rfl
                 have hcz47_2 : wr.cell? ⟨gb260, 2, none⟩ = some (.slice A0_2 l0_2.length c0_2) := (blk_cell BK260.out 2).trans rfl
                 have hfz47_0 := blk_frozen BK260.out 0
                 have hfz47_1 := blk_frozen BK260.out 1
                 have hfz47_2 := blk_frozen BK260.out 2
                 have p266 : 0 ≤ ((ji37) : Int) := of_decide_eq_true as_; have q266 : (ji37) < (l2.length : Int) := of_decide_eq_true as_; obtain ⟨ad266, e266, hx266_0⟩ := Kd.at_int HR2.out (ji37) p266 q266; obtain rfl : ad264 = ad266 := (by injection e266); replace hx266_0 := hc_ HB hx266_0; replace p266 := eq_true p266; replace q266 := eq_true q266; have p267 : 0 ≤ ((rd l2 (ji37)) : Int) := of_decide_eq_true as_; have q267 : (rd l2 (ji37)) < (l0_2.length : Int) := of_decide_eq_true as_; obtain ⟨ad267, A267_0, c267_0, e267, hx267_0, hl267_0, hi267_0⟩ := at_L3 HR0_2.out (rd l2 (ji37)) p267 q267; cases e267; replace hx267_0 := hc_ HB hx267_0; have HR267_0 := Aside0.mk hi267_0; have HC267_0 := Aside0.mk hl267_0; clear hi267_0 hl267_0; replace p267 := eq_true p267; replace q267 := eq_true q267
                 go_wp2_with (first | (go_at_call 77; (with_reducible refine (impl_between.calls (rd l2 x32_2) 0 (wrap64 ((l0_0.length : Int) - 1)) true _ A34.out).mono ?_); rintro e w' ⟨rfl, ⟨nd, rfl⟩⟩; (try first | exact ⟨rfl, _, World.drewN_drewN _ _ _⟩ | exact ⟨rfl, _, Eq.trans (World.drewN_drewN _ _ _) (congrArg (World.drewN _) (Nat.add_assoc _ _ _))⟩)) | (go_at_call 78; (with_reducible refine (slices_Contains_int_int.calls k2 _ _ (rd_L3 l0_2 (rd l2 (ji37))) (rd l2 x32_2) false _ ?side1 ?side2 A42.out).mono ?_); (case side1 => repeat (first | exact (Kd.C_below HR267_0.out hb_) | (with_reducible refine Kd.C_alloc ?_ _) | (with_reducible refine Kd.C_drewN ?_ _) | (with_reducible refine Kd.C_drew ?_))); (case side2 => exact HC267_0.out); rintro e w' ⟨rfl, ⟨nd, rfl⟩⟩; (try first | exact ⟨rfl, _, World.drewN_drewN _ _ _⟩ | exact ⟨rfl, _, Eq.trans (World.drewN_drewN _ _ _) (congrArg (World.drewN _) (Nat.add_assoc _ _ _))⟩)))
                 repeat (go_quiet (first | (go_at_call 77; (with_reducible refine (impl_between.calls (rd l2 x32_2) 0 (wrap64 ((l0_0.length : Int) - 1)) true _ A34.out).mono ?_); rintro e w' ⟨rfl, ⟨nd, rfl⟩⟩; (try first | exact ⟨rfl, _, World.drewN_drewN _ _ _⟩ | exact ⟨rfl, _, Eq.trans (World.drewN_drewN _ _ _) (congrArg (World.drewN _) (Nat.add_assoc _ _ _))⟩)) | (go_at_call 78; (with_reducible refine (slices_Contains_int_int.calls k2 _ _ (rd_L3 l0_2 (rd l2 (ji37))) (rd l2 x32_2) false _ ?side1 ?side2 A42.out).mono ?_); (case side1 => repeat (first | exact (Kd.C_below HR267_0.out hb_) | (with_reducible refine Kd.C_alloc ?_ _) | (with_reducible refine Kd.C_drewN ?_ _) | (with_reducible refine Kd.C_drew ?_))); (case side2 => exact HC267_0.out); rintro e w' ⟨rfl, ⟨nd, rfl⟩⟩; (try first | exact ⟨rfl, _, World.drewN_drewN _ _ _⟩ | exact ⟨rfl, _, Eq.trans (World.drewN_drewN _ _ _) (congrArg (World.drewN _) (Nat.add_assoc _ _ _))⟩))); try go_wp2_with (first | (go_at_call 77; (with_reducible refine (impl_between.calls (rd l2 x32_2) 0 (wrap64 ((l0_0.length : Int) - 1)) true _ A34.out).mono ?_); rintro e w' ⟨rfl, ⟨nd, rfl⟩⟩; (try first | exact ⟨rfl, _, World.drewN_drewN _ _ _⟩ | exact ⟨rfl, _, Eq.trans (World.drewN_drewN _ _ _) (congrArg (World.drewN _) (Nat.add_assoc _ _ _))⟩)) | (go_at_call 78; (with_reducible refine (slices_Contains_int_int.calls k2 _ _ (rd_L3 l0_2 (rd l2 (ji37))) (rd l2 x32_2) false _ ?side1 ?side2 A42.out).mono ?_); (case side1 => repeat (first | exact (Kd.C_below HR267_0.out hb_) | (with_reducible refine Kd.C_alloc ?_ _) | (with_reducible refine Kd.C_drewN ?_ _) | (with_reducible refine Kd.C_drew ?_))); (case side2 => exact HC267_0.out); rintro e w' ⟨rfl, ⟨nd, rfl⟩⟩; (try first | exact ⟨rfl, _, World.drewN_drewN _ _ _⟩ | exact ⟨rfl, _, Eq.trans (World.drewN_drewN _ _ _) (congrArg (World.drewN _) (Nat.add_assoc _ _ _))⟩))))
                 go_ret2
                 exact ⟨by first | rfl | (simp [errW_none, errW_some] <;> rfl) | (simp only [← hji37]; first | rfl | (simp [errW_none, errW_some] <;> rfl)) | (simp [*, errW_none, errW_some] <;> rfl), hb_⟩
               ·rw [if_neg c41] at H
                exact absurd H (by simp)
              ·rw [if_neg c40] at H
               exact absurd H (by simp)
             ·rw [if_neg c39] at H
              exact absurd H (by simp)
            ·rw [if_neg c38] at H
             exact absurd H (by simp)
           ·rw [if_neg c36] at H
            have c36b0 : decide (0 < x32_2) = false := decide_eq_false c36
            clear c36
            have H' := Aside0.mk H
            clear H
            have p264 : 0 ≤ (x32_2 : Int) := of_decide_eq_true as_
            have q264 : x32_2 < (l2.length : Int) := of_decide_eq_true as_
            obtain ⟨ad264, e264, hx264_0⟩ := Kd.at_int HR2.out x32_2 p264 q264
            cases e264
            replace hx264_0 := hc_ HB hx264_0
            replace p264 := eq_true p264
            replace q264 := eq_true q264
            have hnb48 := NB260_261.out
            have hnc48 := NB261_260.out
            have hcz49_0 : wr.cell? ⟨gb260, 0, none⟩ = some (.slice A0_0 l0_0.length c0_0) := (blk_cell BK260.out 0).trans rfl
            have hcz49_1 : wr.cell? ⟨gb260, 1, none⟩ = some (.slice A0_1 l0_1.length c0_1) := (blk_cell BK260.out 1).trans rfl
            have hcz49_2 : wr.cell? ⟨gb260, 2, none⟩ = some (.slice A0_2 l0_2.length c0_2) := (blk_cell BK260.out 2).trans rfl
            have hfz49_0 := blk_frozen BK260.out 0
            have hfz49_1 := blk_frozen BK260.out 1
            have hfz49_2 := blk_frozen BK260.out 2
            go_wp2_with (first | (go_at_call 77; (with_reducible refine (impl_between.calls (rd l2 x32_2) 0 (wrap64 ((l0_0.length : Int) - 1)) true _ A34.out).mono ?_); rintro e w' ⟨rfl, ⟨nd, rfl⟩⟩; (try first | exact ⟨rfl, _, World.drewN_drewN _ _ _⟩ | exact ⟨rfl, _, Eq.trans (World.drewN_drewN _ _ _) (congrArg (World.drewN _) (Nat.add_assoc _ _ _))⟩)))
            repeat (go_quiet (first | (go_at_call 77; (with_reducible refine (impl_between.calls (rd l2 x32_2) 0 (wrap64 ((l0_0.length : Int) - 1)) true _ A34.out).mono ?_); rintro e w' ⟨rfl, ⟨nd, rfl⟩⟩; (try first | exact ⟨rfl, _, World.drewN_drewN _ _ _⟩ | exact ⟨rfl, _, Eq.trans (World.drewN_drewN _ _ _) (congrArg (World.drewN _) (Nat.add_assoc _ _ _))⟩))); try go_wp2_with (first | (go_at_call 77; (with_reducible refine (impl_between.calls (rd l2 x32_2) 0 (wrap64 ((l0_0.length : Int) - 1)) true _ A34.out).mono ?_); rintro e w' ⟨rfl, ⟨nd, rfl⟩⟩; (try first | exact ⟨rfl, _, World.drewN_drewN _ _ _⟩ | exact ⟨rfl, _, Eq.trans (World.drewN_drewN _ _ _) (congrArg (World.drewN _) (Nat.add_assoc _ _ _))⟩))))
            go_roundg k2
            case measure => have := HJ3.out; have := HK2.out; omega
            case rel => exact ⟨(wrap64 (x32_2 + 1)), es_, H', ⟨by have := HJ3.out; have := HK2.out; omega⟩, ⟨bk_ BK260.out⟩, ⟨bk_ BK261.out⟩, ⟨hb_⟩⟩
          ·replace c35 := Bool.eq_false_iff.mpr c35
           subst c35
           rw [if_neg (show ¬ (false = true) by decide)] at H
           simp only [Option.some.injEq, Prod.mk.injEq] at H
           obtain ⟨rfl, rfl⟩ := H
           have p264 : 0 ≤ (x32_2 : Int) := of_decide_eq_true as_
           have q264 : x32_2 < (l2.length : Int) := of_decide_eq_true as_
           obtain ⟨ad264, e264, hx264_0⟩ := Kd.at_int HR2.out x32_2 p264 q264
           cases e264
           replace hx264_0 := hc_ HB hx264_0
           replace p264 := eq_true p264
           replace q264 := eq_true q264
           have hnb50 := NB260_261.out
           have hnc50 := NB261_260.out
           have hcz51_0 : wr.cell? ⟨gb260, 0, none⟩ = some (.slice A0_0 l0_0.length c0_0) := (blk_cell BK260.out 0).trans rfl
           have hcz51_1 : wr.cell? ⟨gb260, 1, none⟩ = some (.slice A0_1 l0_1.length c0_1) := (blk_cell BK260.out 1).trans rfl
           have hcz51_2 : wr.cell? ⟨gb260, 2, none⟩ = some (.slice A0_2 l0_2.length c0_2) := (blk_cell BK260.out 2).trans rfl
           have hfz51_0 := blk_frozen BK260.out 0
           have hfz51_1 := blk_frozen BK260.out 1
           have hfz51_2 := blk_frozen BK260.out 2
           go_wp2_with (first | (go_at_call 77; (with_reducible refine (impl_between.calls (rd l2 x32_2) 0 (wrap64 ((l0_0.length : Int) - 1)) false _ A34.out).mono ?_); rintro e w' ⟨rfl, ⟨nd, rfl⟩⟩; (try first | exact ⟨rfl, _, World.drewN_drewN _ _ _⟩ | exact ⟨rfl, _, Eq.trans (World.drewN_drewN _ _ _) (congrArg (World.drewN _) (Nat.add_assoc _ _ _))⟩)))
           repeat (go_quiet (first | (go_at_call 77; (with_reducible refine (impl_between.calls (rd l2 x32_2) 0 (wrap64 ((l0_0.length : Int) - 1)) false _ A34.out).mono ?_); rintro e w' ⟨rfl, ⟨nd, rfl⟩⟩; (try first | exact ⟨rfl, _, World.drewN_drewN _ _ _⟩ | exact ⟨rfl, _, Eq.trans (World.drewN_drewN _ _ _) (congrArg (World.drewN _) (Nat.add_assoc _ _ _))⟩))); try go_wp2_with (first | (go_at_call 77; (with_reducible refine (impl_between.calls (rd l2 x32_2) 0 (wrap64 ((l0_0.length : Int) - 1)) false _ A34.out).mono ?_); rintro e w' ⟨rfl, ⟨nd, rfl⟩⟩; (try first | exact ⟨rfl, _, World.drewN_drewN _ _ _⟩ | exact ⟨rfl, _, Eq.trans (World.drewN_drewN _ _ _) (congrArg (World.drewN _) (Nat.add_assoc _ _ _))⟩))))
           go_ret2
           exact ⟨er_, hb_⟩
         ·rw [if_neg c33] at H
          exact absurd H (by simp)
        ·rw [if_neg c32] at H
         exact absurd H (by simp)
       ·rw [if_neg c31] at H
        have c31b0 : decide (x32_2 < (l2.length : Int)) = false := decide_eq_false c31
        clear c31
        have H' := Aside0.mk H
        clear H
        go_wp2
        repeat (go_quiet (fail); try go_wp2)
        go_loopg [65] k2 (fun kq v65 w' => ∃ (x65_3 : Int), v65 = .int .i64 x65_3 ∧ Aside0 (impl_WishMet.l1 kq l2 (l2.length : Int) x65_3 l0_0 l0_1 l0_2 l1_0 l1_1 = some (r1, r2)) ∧ Aside0 (kq ≤ k2) ∧ Aside0 (w'.heap[gb260]? = some (.cells #[(.slice A0_0 l0_0.length c0_0), (.slice A0_1 l0_1.length c0_1), (.slice A0_2 l0_2.length c0_2)] 34 (0, 0))) ∧ Aside0 (w'.heap[gb261]? = some (.cells #[(.slice A1_0 l1_0.length c1_0), (.slice A1_1 l1_1.length c1_1)] 36 (0, 0))) ∧ Aside0 (Below w.heap.size w w'))
        case atStart => exact ⟨(0), es_, H', ⟨Nat.le_refl _⟩, ⟨bk_ BK260.out⟩, ⟨bk_ BK261.out⟩, ⟨hb_⟩⟩
        case round =>
         clear H'
         try clear c1
         try clear c2
         try clear p2
         try clear q2
         try clear hx2
         try clear c3
         try clear c4
         try clear c5
         try clear p6
         try clear c8
         try clear c10
         try clear c11
         try clear c11b0
         try clear c11b1
         try clear c12
         try clear c17
         try clear c22
         try clear c26
         try clear p26
         try clear q26
         try clear hx26
         try clear c27
         try clear c30
         try clear c31
         try clear c31b0
         try clear c32
         try clear c32b0
         try clear c33
         try clear c33b0
         try clear c35
         try clear c36
         try clear c36b0
         try clear c38
         try clear c38b0
         try clear c39
         try clear c39b0
         try clear c40
         try clear c40b0
         try clear c41
         try clear c41b0
         try clear c43
         try clear c44
         try clear c46
         try clear c48
         try clear c50
         try clear hcz13_0
         try clear hcz13_1
         try clear hcz13_2
         try clear hcz15_0
         try clear hcz15_1
         try clear hcz18_0
         try clear hcz18_1
         try clear hcz18_2
         try clear hcz20_0
         try clear hcz20_1
         try clear hcz23_0
         try clear hcz23_1
         try clear hcz23_2
         try clear hcz25_0
         try clear hcz25_1
         try clear hcz28_0
         try clear hcz28_1
         try clear hcz28_2
         try clear hcz45_0
         try clear hcz45_1
         try clear hcz45_2
         try clear hcz47_0
         try clear hcz47_1
         try clear hcz47_2
         try clear hcz49_0
         try clear hcz49_1
         try clear hcz49_2
         try clear hcz51_0
         try clear hcz51_1
         try clear hcz51_2
         try clear hfz13_0
         try clear hfz13_1
         try clear hfz13_2
         try clear hfz15_0
         try clear hfz15_1
         try clear hfz18_0
         try clear hfz18_1
         try clear hfz18_2
         try clear hfz20_0
         try clear hfz20_1
         try clear hfz23_0
         try clear hfz23_1
         try clear hfz23_2
         try clear hfz25_0
         try clear hfz25_1
         try clear hfz28_0
         try clear hfz28_1
         try clear hfz28_2
         try clear hfz45_0
         try clear hfz45_1
         try clear hfz45_2
         try clear hfz47_0
         try clear hfz47_1
         try clear hfz47_2
         try clear hfz49_0
         try clear hfz49_1
         try clear hfz49_2
         try clear hfz51_0
         try clear hfz51_1
         try clear hfz51_2
         try clear hx264_0
         try clear hx266_0
         try clear hx267_0
         try clear p2
         try clear p264
         try clear p266
         try clear p267
         try clear q264
         try clear q266
         try clear q267
         obtain ⟨x65_3, rfl, HA, HK3, BK260, BK261, HB⟩ := hrel
         cases gk with
         | zero => exact absurd HA.out (by simp [impl_WishMet.l1])
         | succ k3 =>
          have H := HA.out
          clear HA
          simp only [impl_WishMet.l1] at H
          by_cases c52 : x65_3 < (l2.length : Int)
          ·rw [if_pos c52] at H
           have c52b0 : decide (x65_3 < (l2.length : Int)) = true := decide_eq_true c52
           clear c52
           by_cases c53 : 0 ≤ x65_3
           ·rw [if_pos c53] at H
            have c53b0 : decide (0 ≤ x65_3) = true := decide_eq_true c53
            clear c53
            by_cases c54 : x65_3 < (l2.length : Int)
            ·rw [if_pos c54] at H
             have c54b0 : decide (x65_3 < (l2.length : Int)) = true := decide_eq_true c54
             clear c54
             replace H := Option.bind_eq_some_iff.mp H
             obtain ⟨t270, A550, H⟩ := H
             replace H : (if t270 = true then (some (false, true)) else ((impl_Board_aims.f k3 l0_0 l0_1 l0_2 l1_0 l1_1 (rd l2 x65_3)).bind fun t271 => (if t271 = true then (some (true, true)) else (impl_WishMet.l1 k3 l2 (l2.length : Int) (wrap64 (x65_3 + 1)) l0_0 l0_1 l0_2 l1_0 l1_1)))) = some (r1, r2) := H
             have A55 := Aside0.mk A550
             clear A550
             by_cases c56 : t270 = true
             ·subst c56
              rw [if_pos rfl] at H
              simp only [Option.some.injEq, Prod.mk.injEq] at H
              obtain ⟨rfl, rfl⟩ := H
              have p269 : 0 ≤ (x65_3 : Int) := of_decide_eq_true as_
              have q269 : x65_3 < (l2.length : Int) := of_decide_eq_true as_
              obtain ⟨ad269, e269, hx269_0⟩ := Kd.at_int HR2.out x65_3 p269 q269
              cases e269
              replace hx269_0 := hc_ HB hx269_0
              replace p269 := eq_true p269
              replace q269 := eq_true q269
              have hnb57 := NB260_261.out
              have hnc57 := NB261_260.out
              have hcz58_0 : wr.cell? ⟨gb260, 0, none⟩ = some (.slice A0_0 l0_0.length c0_0) := (blk_cell BK260.out 0).trans rfl
              have hcz58_1 : wr.cell? ⟨gb260, 1, none⟩ = some (.slice A0_1 l0_1.length c0_1) := (blk_cell BK260.out 1).trans rfl
              have hcz58_2 : wr.cell? ⟨gb260, 2, none⟩ = some (.slice A0_2 l0_2.length c0_2) := (blk_cell BK260.out 2).trans rfl
              have hfz58_0 := blk_frozen BK260.out 0
              have hfz58_1 := blk_frozen BK260.out 1
              have hfz58_2 := blk_frozen BK260.out 2
              have hcz59_0 : wr.cell? ⟨gb261, 0, none⟩ = some (.slice A1_0 l1_0.length c1_0) := (blk_cell BK261.out 0).trans rfl
              have hcz59_1 : wr.cell? ⟨gb261, 1, none⟩ = some (.slice A1_1 l1_1.length c1_1) := (blk_cell BK261.out 1).trans rfl
              have hfz59_0 := blk_frozen BK261.out 0
              have hfz59_1 := blk_frozen BK261.out 1
              go_wp2_with (first | (go_at_call 79; (with_reducible refine (impl_Board_shuns.calls k3 _ _ l0_0 _ _ l0_1 _ _ l0_2 _ _ l1_0 _ _ l1_1 (rd l2 x65_3) true _ ?side1 ?side2 ?side3 ?side4 ?side5 ?side6 ?side7 ?side8 ?side9 ?side10 A55.out).mono ?_); (case side1 => exact cb_ HR0_0.out); (case side2 => exact HC0_0.out); (case side3 => exact cb_ HR0_1.out); (case side4 => exact HC0_1.out); (case side5 => exact cb_ HR0_2.out); (case side6 => exact HC0_2.out); (case side7 => exact cb_ HR1_0.out); (case side8 => exact HC1_0.out); (case side9 => exact cb_ HR1_1.out); (case side10 => exact HC1_1.out); rintro e w60 ⟨rfl, hb⟩; have n0_ := bb_ BK260 hb; have n1_ := bb_ BK261 hb; have n2_ := Aside0.mk (below_step hb_ hb); clear BK260; clear BK261; clear HB; have BK260 := n0_; have BK261 := n1_; have HB := n2_; clear n0_ n1_ n2_; (try clear hb); (try clear hb2); (try clear hk); (try clear hi)))
              repeat (go_quiet (first | (go_at_call 79; (with_reducible refine (impl_Board_shuns.calls k3 _ _ l0_0 _ _ l0_1 _ _ l0_2 _ _ l1_0 _ _ l1_1 (rd l2 x65_3) true _ ?side1 ?side2 ?side3 ?side4 ?side5 ?side6 ?side7 ?side8 ?side9 ?side10 A55.out).mono ?_); (case side1 => exact cb_ HR0_0.out); (case side2 => exact HC0_0.out); (case side3 => exact cb_ HR0_1.out); (case side4 => exact HC0_1.out); (case side5 => exact cb_ HR0_2.out); (case side6 => exact HC0_2.out); (case side7 => exact cb_ HR1_0.out); (case side8 => exact HC1_0.out); (case side9 => exact cb_ HR1_1.out); (case side10 => exact HC1_1.out); rintro e w60 ⟨rfl, hb⟩; have n0_ := bb_ BK260 hb; have n1_ := bb_ BK261 hb; have n2_ := Aside0.mk (below_step hb_ hb); clear BK260; clear BK261; clear HB; have BK260 := n0_; have BK261 := n1_; have HB := n2_; clear n0_ n1_ n2_; (try clear hb); (try clear hb2); (try clear hk); (try clear hi))); try go_wp2_with (first | (go_at_call 79; (with_reducible refine (impl_Board_shuns.calls k3 _ _ l0_0 _ _ l0_1 _ _ l0_2 _ _ l1_0 _ _ l1_1 (rd l2 x65_3) true _ ?side1 ?side2 ?side3 ?side4 ?side5 ?side6 ?side7 ?side8 ?side9 ?side10 A55.out).mono ?_); (case side1 => exact cb_ HR0_0.out); (case side2 => exact HC0_0.out); (case side3 => exact cb_ HR0_1.out); (case side4 => exact HC0_1.out); (case side5 => exact cb_ HR0_2.out); (case side6 => exact HC0_2.out); (case side7 => exact cb_ HR1_0.out); (case side8 => exact HC1_0.out); (case side9 => exact cb_ HR1_1.out); (case side10 => exact HC1_1.out); rintro e w60 ⟨rfl, hb⟩; have n0_ := bb_ BK260 hb; have n1_ := bb_ BK261 hb; have n2_ := Aside0.mk (below_step hb_ hb); clear BK260; clear BK261; clear HB; have BK260 := n0_; have BK261 := n1_; have HB := n2_; clear n0_ n1_ n2_; (try clear hb); (try clear hb2); (try clear hk); (try clear hi))))
              go_ret2
              exact ⟨er_, hb_⟩
             ·replace c56 := Bool.eq_false_iff.mpr c56
              subst c56
              rw [if_neg (show ¬ (false = true) by decide)] at H
              replace H := Option.bind_eq_some_iff.mp H
              obtain ⟨t271, A610, H⟩ := H
              replace H : (if t271 = true then (some (true, true)) else (impl_WishMet.l1 k3 l2 (l2.length : Int) (wrap64 (x65_3 + 1)) l0_0 l0_1 l0_2 l1_0 l1_1)) = some (r1, r2) := H
              have A61 := Aside0.mk A610
              clear A610
              by_cases c62 : t271 = true
              ·subst c62
               rw [if_pos rfl] at H
               simp only [Option.some.injEq, Prod.mk.injEq] at H
               obtain ⟨rfl, rfl⟩ := H
               have p269 : 0 ≤ (x65_3 : Int) := of_decide_eq_true as_
               have q269 : x65_3 < (l2.length : Int) := of_decide_eq_true as_
               obtain ⟨ad269, e269, hx269_0⟩ := Kd.at_int HR2.out x65_3 p269 q269
               cases e269
               replace hx269_0 := hc_ HB hx269_0
               replace p269 := eq_true p269
               replace q269 := eq_true q269
               have hnb63 := NB260_261.out
               have hnc63 := NB261_260.out
               have hcz64_0 : wr.cell? ⟨gb260, 0, none⟩ = some (.slice A0_0 l0_0.length c0_0) := (blk_cell BK260.out 0).trans rfl
               have hcz64_1 : wr.cell? ⟨gb260, 1, none⟩ = some (.slice A0_1 l0_1.length c0_1) := (blk_cell BK260.out 1).trans rfl
               have hcz64_2 : wr.cell? ⟨gb260, 2, none⟩ = some (.slice A0_2 l0_2.length c0_2) := (blk_cell BK260.out 2).trans rfl
               have hfz64_0 := blk_frozen BK260.out 0
               have hfz64_1 := blk_frozen BK260.out 1
               have hfz64_2 := blk_frozen BK260.out 2
               have hcz65_0 : wr.cell? ⟨gb261, 0, none⟩ = some (.slice A1_0 l1_0.length c1_0) := (blk_cell BK261.out 0).trans rfl
               have hcz65_1 : wr.cell? ⟨gb261, 1, none⟩ = some (.slice A1_1 l1_1.length c1_1) := (blk_cell BK261.out 1).trans rfl
               have hfz65_0 := blk_frozen BK261.out 0
               have hfz65_1 := blk_frozen BK261.out 1
               go_wp2_with (first | (go_at_call 79; (with_reducible refine (impl_Board_shuns.calls k3 _ _ l0_0 _ _ l0_1 _ _ l0_2 _ _ l1_0 _ _ l1_1 (rd l2 x65_3) false _ ?side1 ?side2 ?side3 ?side4 ?side5 ?side6 ?side7 ?side8 ?side9 ?side10 A55.out).mono ?_); (case side1 => exact cb_ HR0_0.out); (case side2 => exact HC0_0.out); (case side3 => exact cb_ HR0_1.out); (case side4 => exact HC0_1.out); (case side5 => exact cb_ HR0_2.out); (case side6 => exact HC0_2.out); (case side7 => exact cb_ HR1_0.out); (case side8 => exact HC1_0.out); (case side9 => exact cb_ HR1_1.out); (case side10 => exact HC1_1.out); rintro e w66 ⟨rfl, hb⟩; have n0_ := bb_ BK260 hb; have n1_ := bb_ BK261 hb; have n2_ := Aside0.mk (below_step hb_ hb); clear BK260; clear BK261; clear HB; have BK260 := n0_; have BK261 := n1_; have HB := n2_; clear n0_ n1_ n2_; (try clear hb); (try clear hb2); (try clear hk); (try clear hi); have hcz67_0 : w66.cell? ⟨gb260, 0, none⟩ = some (.slice A0_0 l0_0.length c0_0) := (blk_cell BK260.out 0).trans rfl; have hcz67_1 : w66.cell? ⟨gb260, 1, none⟩ = some (.slice A0_1 l0_1.length c0_1) := (blk_cell BK260.out 1).trans rfl; have hcz67_2 : w66.cell? ⟨gb260, 2, none⟩ = some (.slice A0_2 l0_2.length c0_2) := (blk_cell BK260.out 2).trans rfl; have hfz67_0 := blk_frozen BK260.out 0; have hfz67_1 := blk_frozen BK260.out 1; have hfz67_2 := blk_frozen BK260.out 2; have hcz68_0 : w66.cell? ⟨gb261, 0, none⟩ = some (.slice A1_0 l1_0.length c1_0) := (blk_cell BK261.out 0).trans rfl; have hcz68_1 : w66.cell? ⟨gb261, 1, none⟩ = some (.slice A1_1 l1_1.length c1_1) := (blk_cell BK261.out 1).trans rfl; have hfz68_0 := blk_frozen BK261.out 0; have hfz68_1 := blk_frozen BK261.out 1) | (go_at_call 63; (with_reducible refine (impl_Board_aims.calls k3 _ _ l0_0 _ _ l0_1 _ _ l0_2 _ _ l1_0 _ _ l1_1 (rd l2 x65_3) true _ ?side1 ?side2 ?side3 ?side4 ?side5 ?side6 ?side7 ?side8 ?side9 ?side10 A61.out).mono ?_); (case side1 => exact cb_ HR0_0.out); (case side2 => exact HC0_0.out); (case side3 => exact cb_ HR0_1.out); (case side4 => exact HC0_1.out); (case side5 => exact cb_ HR0_2.out); (case side6 => exact HC0_2.out); (case side7 => exact cb_ HR1_0.out); (case side8 => exact HC1_0.out); (case side9 => exact cb_ HR1_1.out); (case side10 => exact HC1_1.out); rintro e w69 ⟨rfl, hb⟩; have n0_ := bb_ BK260 hb; have n1_ := bb_ BK261 hb; have n2_ := Aside0.mk (below_step hb_ hb); clear BK260; clear BK261; clear HB; have BK260 := n0_; have BK261 := n1_; have HB := n2_; clear n0_ n1_ n2_; (try clear hb); (try clear hb2); (try clear hk); (try clear hi)))
               repeat (go_quiet (first | (go_at_call 79; (with_reducible refine (impl_Board_shuns.calls k3 _ _ l0_0 _ _ l0_1 _ _ l0_2 _ _ l1_0 _ _ l1_1 (rd l2 x65_3) false _ ?side1 ?side2 ?side3 ?side4 ?side5 ?side6 ?side7 ?side8 ?side9 ?side10 A55.out).mono ?_); (case side1 => exact cb_ HR0_0.out); (case side2 => exact HC0_0.out); (case side3 => exact cb_ HR0_1.out); (case side4 => exact HC0_1.out); (case side5 => exact cb_ HR0_2.out); (case side6 => exact HC0_2.out); (case side7 => exact cb_ HR1_0.out); (case side8 => exact HC1_0.out); (case side9 => exact cb_ HR1_1.out); (case side10 => exact HC1_1.out); rintro e w66 ⟨rfl, hb⟩; have n0_ := bb_ BK260 hb; have n1_ := bb_ BK261 hb; have n2_ := Aside0.mk (below_step hb_ hb); clear BK260; clear BK261; clear HB; have BK260 := n0_; have BK261 := n1_; have HB := n2_; clear n0_ n1_ n2_; (try clear hb); (try clear hb2); (try clear hk); (try clear hi); have hcz67_0 : w66.cell? ⟨gb260, 0, none⟩ = some (.slice A0_0 l0_0.length c0_0) := (blk_cell BK260.out 0).trans rfl; have hcz67_1 : w66.cell? ⟨gb260, 1, none⟩ = some (.slice A0_1 l0_1.length c0_1) := (blk_cell BK260.out 1).trans rfl; have hcz67_2 : w66.cell? ⟨gb260, 2, none⟩ = some (.slice A0_2 l0_2.length c0_2) := (blk_cell BK260.out 2).trans rfl; have hfz67_0 := blk_frozen BK260.out 0; have hfz67_1 := blk_frozen BK260.out 1; have hfz67_2 := blk_frozen BK260.out 2; have hcz68_0 : w66.cell? ⟨gb261, 0, none⟩ = some (.slice A1_0 l1_0.length c1_0) := (blk_cell BK261.out 0).trans rfl; have hcz68_1 : w66.cell? ⟨gb261, 1, none⟩ = some (.slice A1_1 l1_1.length c1_1) := (blk_cell BK261.out 1).trans rfl; have hfz68_0 := blk_frozen BK261.out 0; have hfz68_1 := blk_frozen BK261.out 1) | (go_at_call 63; (with_reducible refine (impl_Board_aims.calls k3 _ _ l0_0 _ _ l0_1 _ _ l0_2 _ _ l1_0 _ _ l1_1 (rd l2 x65_3) true _ ?side1 ?side2 ?side3 ?side4 ?side5 ?side6 ?side7 ?side8 ?side9 ?side10 A61.out).mono ?_); (case side1 => exact cb_ HR0_0.out); (case side2 => exact HC0_0.out); (case side3 => exact cb_ HR0_1.out); (case side4 => exact HC0_1.out); (case side5 => exact cb_ HR0_2.out); (case side6 => exact HC0_2.out); (case side7 => exact cb_ HR1_0.out); (case side8 => exact HC1_0.out); (case side9 => exact cb_ HR1_1.out); (case side10 => exact HC1_1.out); rintro e w69 ⟨rfl, hb⟩; have n0_ := bb_ BK260 hb; have n1_ := bb_ BK261 hb; have n2_ := Aside0.mk (below_step hb_ hb); clear BK260; clear BK261; clear HB; have BK260 := n0_; have BK261 := n1_; have HB := n2_; clear n0_ n1_ n2_; (try clear hb); (try clear hb2); (try clear hk); (try clear hi))); try go_wp2_with (first | (go_at_call 79; (with_reducible refine (impl_Board_shuns.calls k3 _ _ l0_0 _ _ l0_1 _ _ l0_2 _ _ l1_0 _ _ l1_1 (rd l2 x65_3) false _ ?side1 ?side2 ?side3 ?side4 ?side5 ?side6 ?side7 ?side8 ?side9 ?side10 A55.out).mono ?_); (case side1 => exact cb_ HR0_0.out); (case side2 => exact HC0_0.out); (case side3 => exact cb_ HR0_1.out); (case side4 => exact HC0_1.out); (case side5 => exact cb_ HR0_2.out); (case side6 => exact HC0_2.out); (case side7 => exact cb_ HR1_0.out); (case side8 => exact HC1_0.out); (case side9 => exact cb_ HR1_1.out); (case side10 => exact HC1_1.out); rintro e w66 ⟨rfl, hb⟩; have n0_ := bb_ BK260 hb; have n1_ := bb_ BK261 hb; have n2_ := Aside0.mk (below_step hb_ hb); clear BK260; clear BK261; clear HB; have BK260 := n0_; have BK261 := n1_; have HB := n2_; clear n0_ n1_ n2_; (try clear hb); (try clear hb2); (try clear hk); (try clear hi); have hcz67_0 : w66.cell? ⟨gb260, 0, none⟩ = some (.slice A0_0 l0_0.length c0_0) := (blk_cell BK260.out 0).trans rfl; have hcz67_1 : w66.cell? ⟨gb260, 1, none⟩ = some (.slice A0_1 l0_1.length c0_1) := (blk_cell BK260.out 1).trans rfl; have hcz67_2 : w66.cell? ⟨gb260, 2, none⟩ = some (.slice A0_2 l0_2.length c0_2) := (blk_cell BK260.out 2).trans rfl; have hfz67_0 := blk_frozen BK260.out 0; have hfz67_1 := blk_frozen BK260.out 1; have hfz67_2 := blk_frozen BK260.out 2; have hcz68_0 : w66.cell? ⟨gb261, 0, none⟩ = some (.slice A1_0 l1_0.length c1_0) := (blk_cell BK261.out 0).trans rfl; have hcz68_1 : w66.cell? ⟨gb261, 1, none⟩ = some (.slice A1_1 l1_1.length c1_1) := (blk_cell BK261.out 1).trans rfl; have hfz68_0 := blk_frozen BK261.out 0; have hfz68_1 := blk_frozen BK261.out 1) | (go_at_call 63; (with_reducible refine (impl_Board_aims.calls k3 _ _ l0_0 _ _ l0_1 _ _ l0_2 _ _ l1_0 _ _ l1_1 (rd l2 x65_3) true _ ?side1 ?side2 ?side3 ?side4 ?side5 ?side6 ?side7 ?side8 ?side9 ?side10 A61.out).mono ?_); (case side1 => exact cb_ HR0_0.out); (case side2 => exact HC0_0.out); (case side3 => exact cb_ HR0_1.out); (case side4 => exact HC0_1.out); (case side5 => exact cb_ HR0_2.out); (case side6 => exact HC0_2.out); (case side7 => exact cb_ HR1_0.out); (case side8 => exact HC1_0.out); (case side9 => exact cb_ HR1_1.out); (case side10 => exact HC1_1.out); rintro e w69 ⟨rfl, hb⟩; have n0_ := bb_ BK260 hb; have n1_ := bb_ BK261 hb; have n2_ := Aside0.mk (below_step hb_ hb); clear BK260; clear BK261; clear HB; have BK260 := n0_; have BK261 := n1_; have HB := n2_; clear n0_ n1_ n2_; (try clear hb); (try clear hb2); (try clear hk); (try clear hi))))
               go_ret2
               exact ⟨er_, hb_⟩
              ·replace c62 := Bool.eq_false_iff.mpr c62
               subst c62
               rw [if_neg (show ¬ (false = true) by decide)] at H
               have H' := Aside0.mk H
               clear H
               have p269 : 0 ≤ (x65_3 : Int) := of_decide_eq_true as_
               have q269 : x65_3 < (l2.length : Int) := of_decide_eq_true as_
               obtain ⟨ad269, e269, hx269_0⟩ := Kd.at_int HR2.out x65_3 p269 q269
               cases e269
               replace hx269_0 := hc_ HB hx269_0
               replace p269 := eq_true p269
               replace q269 := eq_true q269
               have hnb70 := NB260_261.out
               have hnc70 := NB261_260.out
               have hcz71_0 : wr.cell? ⟨gb260, 0, none⟩ = some (.slice A0_0 l0_0.length c0_0) := (blk_cell BK260.out 0).trans rfl
               have hcz71_1 : wr.cell? ⟨gb260, 1, none⟩ = some (.slice A0_1 l0_1.length c0_1) := (blk_cell BK260.out 1).trans rfl
               have hcz71_2 : wr.cell? ⟨gb260, 2, none⟩ = some (.slice A0_2 l0_2.length c0_2) := (blk_cell BK260.out 2).trans rfl
               have hfz71_0 := blk_frozen BK260.out 0
               have hfz71_1 := blk_frozen BK260.out 1
               have hfz71_2 := blk_frozen BK260.out 2
               have hcz72_0 : wr.cell? ⟨gb261, 0, none⟩ = some (.slice A1_0 l1_0.length c1_0) := (blk_cell BK261.out 0).trans rfl
               have hcz72_1 : wr.cell? ⟨gb261, 1, none⟩ = some (.slice A1_1 l1_1.length c1_1) := (blk_cell BK261.out 1).trans rfl
               have hfz72_0 := blk_frozen BK261.out 0
               have hfz72_1 := blk_frozen BK261.out 1
               go_wp2_with (first | (go_at_call 79; (with_reducible refine (impl_Board_shuns.calls k3 _ _ l0_0 _ _ l0_1 _ _ l0_2 _ _ l1_0 _ _ l1_1 (rd l2 x65_3) false _ ?side1 ?side2 ?side3 ?side4 ?side5 ?side6 ?side7 ?side8 ?side9 ?side10 A55.out).mono ?_); (case side1 => exact cb_ HR0_0.out); (case side2 => exact HC0_0.out); (case side3 => exact cb_ HR0_1.out); (case side4 => exact HC0_1.out); (case side5 => exact cb_ HR0_2.out); (case side6 => exact HC0_2.out); (case side7 => exact cb_ HR1_0.out); (case side8 => exact HC1_0.out); (case side9 => exact cb_ HR1_1.out); (case side10 => exact HC1_1.out); rintro e w73 ⟨rfl, hb⟩; have n0_ := bb_ BK260 hb; have n1_ := bb_ BK261 hb; have n2_ := Aside0.mk (below_step hb_ hb); clear BK260; clear BK261; clear HB; have BK260 := n0_; have BK261 := n1_; have HB := n2_; clear n0_ n1_ n2_; (try clear hb); (try clear hb2); (try clear hk); (try clear hi); have hcz74_0 : w73.cell? ⟨gb260, 0, none⟩ = some (.slice A0_0 l0_0.length c0_0) := (blk_cell BK260.out 0).trans rfl; have hcz74_1 : w73.cell? ⟨gb260, 1, none⟩ = some (.slice A0_1 l0_1.length c0_1) := (blk_cell BK260.out 1).trans rfl; have hcz74_2 : w73.cell? ⟨gb260, 2, none⟩ = some (.slice A0_2 l0_2.length c0_2) := (blk_cell BK260.out 2).trans rfl; have hfz74_0 := blk_frozen BK260.out 0; have hfz74_1 := blk_frozen BK260.out 1; have hfz74_2 := blk_frozen BK260.out 2; have hcz75_0 : w73.cell? ⟨gb261, 0, none⟩ = some (.slice A1_0 l1_0.length c1_0) := (blk_cell BK261.out 0).trans rfl; have hcz75_1 : w73.cell? ⟨gb261, 1, none⟩ = some (.slice A1_1 l1_1.length c1_1) := (blk_cell BK261.out 1).trans rfl; have hfz75_0 := blk_frozen BK261.out 0; have hfz75_1 := blk_frozen BK261.out 1) | (go_at_call 63; (with_reducible refine (impl_Board_aims.calls k3 _ _ l0_0 _ _ l0_1 _ _ l0_2 _ _ l1_0 _ _ l1_1 (rd l2 x65_3) false _ ?side1 ?side2 ?side3 ?side4 ?side5 ?side6 ?side7 ?side8 ?side9 ?side10 A61.out).mono ?_); (case side1 => exact cb_ HR0_0.out); (case side2 => exact HC0_0.out); (case side3 => exact cb_ HR0_1.out); (case side4 => exact HC0_1.out); (case side5 => exact cb_ HR0_2.out); (case side6 => exact HC0_2.out); (case side7 => exact cb_ HR1_0.out); (case side8 => exact HC1_0.out); (case side9 => exact cb_ HR1_1.out); (case side10 => exact HC1_1.out); rintro e w76 ⟨rfl, hb⟩; have n0_ := bb_ BK260 hb; have n1_ := bb_ BK261 hb; have n2_ := Aside0.mk (below_step hb_ hb); clear BK260; clear BK261; clear HB; have BK260 := n0_; have BK261 := n1_; have HB := n2_; clear n0_ n1_ n2_; (try clear hb); (try clear hb2); (try clear hk); (try clear hi)))
               repeat (go_quiet (first | (go_at_call 79; (with_reducible refine (impl_Board_shuns.calls k3 _ _ l0_0 _ _ l0_1 _ _ l0_2 _ _ l1_0 _ _ l1_1 (rd l2 x65_3) false _ ?side1 ?side2 ?side3 ?side4 ?side5 ?side6 ?side7 ?side8 ?side9 ?side10 A55.out).mono ?_); (case side1 => exact cb_ HR0_0.out); (case side2 => exact HC0_0.out); (case side3 => exact cb_ HR0_1.out); (case side4 => exact HC0_1.out); (case side5 => exact cb_ HR0_2.out); (case side6 => exact HC0_2.out); (case side7 => exact cb_ HR1_0.out); (case side8 => exact HC1_0.out); (case side9 => exact cb_ HR1_1.out); (case side10 => exact HC1_1.out); rintro e w73 ⟨rfl, hb⟩; have n0_ := bb_ BK260 hb; have n1_ := bb_ BK261 hb; have n2_ := Aside0.mk (below_step hb_ hb); clear BK260; clear BK261; clear HB; have BK260 := n0_; have BK261 := n1_; have HB := n2_; clear n0_ n1_ n2_; (try clear hb); (try clear hb2); (try clear hk); (try clear hi); have hcz74_0 : w73.cell? ⟨gb260, 0, none⟩ = some (.slice A0_0 l0_0.length c0_0) := (blk_cell BK260.out 0).trans rfl; have hcz74_1 : w73.cell? ⟨gb260, 1, none⟩ = some (.slice A0_1 l0_1.length c0_1) := (blk_cell BK260.out 1).trans rfl; have hcz74_2 : w73.cell? ⟨gb260, 2, none⟩ = some (.slice A0_2 l0_2.length c0_2) := (blk_cell BK260.out 2).trans rfl; have hfz74_0 := blk_frozen BK260.out 0; have hfz74_1 := blk_frozen BK260.out 1; have hfz74_2 := blk_frozen BK260.out 2; have hcz75_0 : w73.cell? ⟨gb261, 0, none⟩ = some (.slice A1_0 l1_0.length c1_0) := (blk_cell BK261.out 0).trans rfl; have hcz75_1 : w73.cell? ⟨gb261, 1, none⟩ = some (.slice A1_1 l1_1.length c1_1) := (blk_cell BK261.out 1).trans rfl; have hfz75_0 := blk_frozen BK261.out 0; have hfz75_1 := blk_frozen BK261.out 1) | (go_at_call 63; (with_reducible refine (impl_Board_aims.calls k3 _ _ l0_0 _ _ l0_1 _ _ l0_2 _ _ l1_0 _ _ l1_1 (rd l2 x65_3) false _ ?side1 ?side2 ?side3 ?side4 ?side5 ?side6 ?side7 ?side8 ?side9 ?side10 A61.out).mono ?_); (case side1 => exact cb_ HR0_0.out); (case side2 => exact HC0_0.out); (case side3 => exact cb_ HR0_1.out); (case side4 => exact HC0_1.out); (case side5 => exact cb_ HR0_2.out); (case side6 => exact HC0_2.out); (case side7 => exact cb_ HR1_0.out); (case side8 => exact HC1_0.out); (case side9 => exact cb_ HR1_1.out); (case side10 => exact HC1_1.out); rintro e w76 ⟨rfl, hb⟩; have n0_ := bb_ BK260 hb; have n1_ := bb_ BK261 hb; have n2_ := Aside0.mk (below_step hb_ hb); clear BK260; clear BK261; clear HB; have BK260 := n0_; have BK261 := n1_; have HB := n2_; clear n0_ n1_ n2_; (try clear hb); (try clear hb2); (try clear hk); (try clear hi))); try go_wp2_with (first | (go_at_call 79; (with_reducible refine (impl_Board_shuns.calls k3 _ _ l0_0 _ _ l0_1 _ _ l0_2 _ _ l1_0 _ _ l1_1 (rd l2 x65_3) false _ ?side1 ?side2 ?side3 ?side4 ?side5 ?side6 ?side7 ?side8 ?side9 ?side10 A55.out).mono ?_); (case side1 => exact cb_ HR0_0.out); (case side2 => exact HC0_0.out); (case side3 => exact cb_ HR0_1.out); (case side4 => exact HC0_1.out); (case side5 => exact cb_ HR0_2.out); (case side6 => exact HC0_2.out); (case side7 => exact cb_ HR1_0.out); (case side8 => exact HC1_0.out); (case side9 => exact cb_ HR1_1.out); (case side10 => exact HC1_1.out); rintro e w73 ⟨rfl, hb⟩; have n0_ := bb_ BK260 hb; have n1_ := bb_ BK261 hb; have n2_ := Aside0.mk (below_step hb_ hb); clear BK260; clear BK261; clear HB; have BK260 := n0_; have BK261 := n1_; have HB := n2_; clear n0_ n1_ n2_; (try clear hb); (try clear hb2); (try clear hk); (try clear hi); have hcz74_0 : w73.cell? ⟨gb260, 0, none⟩ = some (.slice A0_0 l0_0.length c0_0) := (blk_cell BK260.out 0).trans rfl; have hcz74_1 : w73.cell? ⟨gb260, 1, none⟩ = some (.slice A0_1 l0_1.length c0_1) := (blk_cell BK260.out 1).trans rfl; have hcz74_2 : w73.cell? ⟨gb260, 2, none⟩ = some (.slice A0_2 l0_2.length c0_2) := (blk_cell BK260.out 2).trans rfl; have hfz74_0 := blk_frozen BK260.out 0; have hfz74_1 := blk_frozen BK260.out 1; have hfz74_2 := blk_frozen BK260.out 2; have hcz75_0 : w73.cell? ⟨gb261, 0, none⟩ = some (.slice A1_0 l1_0.length c1_0) := (blk_cell BK261.out 0).trans rfl; have hcz75_1 : w73.cell? ⟨gb261, 1, none⟩ = some (.slice A1_1 l1_1.length c1_1) := (blk_cell BK261.out 1).trans rfl; have hfz75_0 := blk_frozen BK261.out 0; have hfz75_1 := blk_frozen BK261.out 1) | (go_at_call 63; (with_reducible refine (impl_Board_aims.calls k3 _ _ l0_0 _ _ l0_1 _ _ l0_2 _ _ l1_0 _ _ l1_1 (rd l2 x65_3) false _ ?side1 ?side2 ?side3 ?side4 ?side5 ?side6 ?side7 ?side8 ?side9 ?side10 A61.out).mono ?_); (case side1 => exact cb_ HR0_0.out); (case side2 => exact HC0_0.out); (case side3 => exact cb_ HR0_1.out); (case side4 => exact HC0_1.out); (case side5 => exact cb_ HR0_2.out); (case side6 => exact HC0_2.out); (case side7 => exact cb_ HR1_0.out); (case side8 => exact HC1_0.out); (case side9 => exact cb_ HR1_1.out); (case side10 => exact HC1_1.out); rintro e w76 ⟨rfl, hb⟩; have n0_ := bb_ BK260 hb; have n1_ := bb_ BK261 hb; have n2_ := Aside0.mk (below_step hb_ hb); clear BK260; clear BK261; clear HB; have BK260 := n0_; have BK261 := n1_; have HB := n2_; clear n0_ n1_ n2_; (try clear hb); (try clear hb2); (try clear hk); (try clear hi))))
               go_roundg k3
               case measure => have := HJ3.out; have := HK2.out; have := HK3.out; omega
               case rel => exact ⟨(wrap64 (x65_3 + 1)), es_, H', ⟨by have := HJ3.out; have := HK2.out; have := HK3.out; omega⟩, ⟨bk_ BK260.out⟩, ⟨bk_ BK261.out⟩, ⟨hb_⟩⟩
            ·rw [if_neg c54] at H
             exact absurd H (by simp)
           ·rw [if_neg c53] at H
            exact absurd H (by simp)
          ·rw [if_neg c52] at H
           have c52b0 : decide (x65_3 < (l2.length : Int)) = false := decide_eq_false c52
           clear c52
           simp only [Option.some.injEq, Prod.mk.injEq] at H
           obtain ⟨rfl, rfl⟩ := H
           have hnb77 := NB261_260.out
           have hnc77 := NB260_261.out
           have hcz78_0 : wr.cell? ⟨gb261, 0, none⟩ = some (.slice A1_0 l1_0.length c1_0) := (blk_cell BK261.out 0).trans rfl
           have hcz78_1 : wr.cell? ⟨gb261, 1, none⟩ = some (.slice A1_1 l1_1.length c1_1) := (blk_cell BK261.out 1).trans rfl
           have hfz78_0 := blk_frozen BK261.out 0
           have hfz78_1 := blk_frozen BK261.out 1
           go_wp2
           repeat (go_quiet (fail); try go_wp2)
           go_ret2
           exact ⟨er_, hb_⟩

end Go.Proofs.YtdihodboopeakaaDoor.Pr
