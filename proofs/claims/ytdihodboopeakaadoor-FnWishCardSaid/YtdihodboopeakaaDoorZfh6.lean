-- Joined and pruned by wip/tools/prune.py out of this session's own texts (Gw, Slc, Jn, Pr22, Pr24, Pr25, Pr4, Pr5, Pr6, Rwd, Prd5, Pr27, Pr28, Sld, PureName, PureText, PureBase, PureInts, PureIntSS, PureBoard, PureWish)
import Derived.Test.YtdihodboopeakaaDoorZfh5
import Derived.Outline
import Derived.Ground.NamesProg
import Derived.Shelf.Strings.OnBuilder
import Derived.Test.YtdihodboopeakaaDoorProg
import Derived.Shelf.LaysM
import Derived.Shelf.Strconv.Clone
import Derived.Lib.DecodeN
import Derived.Lib.RuneCountTail
import Derived.Lib.Strings
/- impl.goodWish by hand: the walk. -/
namespace Go.Proofs.YtdihodboopeakaaDoor.Pr
open Go.RowKit Go.Proofs.YtdihodboopeakaaDoorW.PrintWords Go.Proofs.YtdihodboopeakaaDoorW.PrintLast Go.Proofs.YtdihodboopeakaaDoorW.PrintMore
set_option linter.unusedVariables false
set_option linter.unusedSimpArgs false
open EvKit in
theorem has_k (l : List ByteArray) (s : ByteArray) (hl : l.length ≤ 1048576) : ∃ k, slices_Contains_string_string.f k l s = some (inB l s) := by
  have key (d : Nat) : ∀ i : Nat, i + d = l.length → ∃ r : Int, Ev (fun k => slices_Index_string_string.l0 k l s l.length i) r ∧ (decide (r ≥ 0) = inB (l.drop i) s) := by
    induction d with
    | zero =>
      intro i hi
      refine ⟨-1, ?_, ?_⟩
      · apply Ev.succ
        simp only [slices_Index_string_string.l0, show ¬ ((i : Int) < (l.length : Int)) by omega, if_false]
        exact Ev.some rfl
      · rw [List.drop_of_length_le (by omega)]
        rfl
    | succ d ih =>
      intro i hi
      have hd : l.drop i = l.getD i ByteArray.empty :: l.drop (i + 1) := by
        rw [List.drop_eq_getElem_cons (by omega)]
        congr 1
        simp [List.getD_eq_getElem?_getD, List.getElem?_eq_getElem (show i < l.length by omega)]
      have e : rdOf ByteArray.empty l (i : Int) = l.getD i ByteArray.empty := rfl
      by_cases c : s.toList = (l.getD i ByteArray.empty).toList
      · refine ⟨i, ?_, ?_⟩
        · apply Ev.succ
          simp only [slices_Index_string_string.l0, show ((i : Int) < (l.length : Int)) by omega, show (0 : Int) ≤ (i : Int) by omega, if_true, e]
          exact Ev.pos c (Ev.some rfl)
        · rw [hd]
          unfold inB
          rw [List.any_cons, decide_eq_true c.symm, Bool.true_or]
          exact decide_eq_true (by omega)
      · obtain ⟨r, h1, h2⟩ := ih (i + 1) (by omega)
        refine ⟨r, ?_, ?_⟩
        · apply Ev.succ
          simp only [slices_Index_string_string.l0, show ((i : Int) < (l.length : Int)) by omega, show (0 : Int) ≤ (i : Int) by omega, if_true, e]
          rw [show wrap64 ((i : Int) + 1) = ((i + 1 : Nat) : Int) by rw [wrap64_id (by omega) (by omega)]; omega]
          exact Ev.neg c h1
        · rw [h2, hd]
          unfold inB
          rw [List.any_cons, decide_eq_false (fun h => c h.symm), Bool.false_or]
  obtain ⟨r, h1, h2⟩ := key l.length 0 (by omega)
  have h3 : Ev (fun k => slices_Contains_string_string.f k l s) (inB l s) := by
    unfold slices_Contains_string_string.f slices_Index_string_string.f
    exact Ev.bnd (by simpa using h1) (Ev.some (by simpa using h2))
  exact Ev.rounds h3
/-- The answer from the i-th list on. -/
def gwRes (l0 l1 : List ByteArray) : Nat → Bool
  | 0 => gwB l0 && gwB l1
  | 1 => gwB l1
  | _ => true
theorem gwFrom_step (l : List ByteArray) (j : Nat) (h : j < l.length) : gwFrom l (l.length - j) = ((nameB (l.getD j ByteArray.empty) && !inB (l.take j) (l.getD j ByteArray.empty)) && gwFrom l (l.length - (j + 1))) := by
  have e : l.length - j = (l.length - (j + 1)) + 1 := by omega
  rw [e]
  simp only [gwFrom]
  rw [show l.length - (l.length - (j + 1) + 1) = j by omega]
theorem okT_at {l : List ByteArray} (h : okT l = true) (j : Nat) (hj : j < l.length) : (l.getD j ByteArray.empty).size ≤ 1048576 := by
  have h2 := List.all_eq_true.1 (Bool.and_eq_true_iff.1 h).2 (l.getD j ByteArray.empty) (EvKit.getD_mem l j _ hj)
  exact of_decide_eq_true h2
set_option maxHeartbeats 4000000 in
set_option maxRecDepth 100000 in
theorem gw_walk (A0 : Option Addr) (c0 : Nat) (l0 : List ByteArray) (A1 : Option Addr) (c1 : Nat) (l1 : List ByteArray) (r : Bool) (w : World) (hr0 : Kd.C Kd.string w A0 l0.length l0) (hc0 : l0.length ≤ c0) (hr1 : Kd.C Kd.string w A1 l1.length l1) (hc1 : l1.length ≤ c1)
    (k0 : okT l0 = true) (k1 : okT l1 = true) (h : gwRes l0 l1 0 = r) (ht : Tabs w) :
    Calls Tryd.prog 55 #[.agg #[.slice A0 l0.length c0, .slice A1 l1.length c1]] w fun e w' => e = .returned (.bool r) ∧ Below w.heap.size w w' := by
  have hu36 := Tryd.underlying36
  have HR0 := Aside0.mk hr0
  have HC0 := Aside0.mk hc0
  have HR1 := Aside0.mk hr1
  have HC1 := Aside0.mk hc1
  have K0 := Aside0.mk k0
  have K1 := Aside0.mk k1
  have H := Aside0.mk h
  have HTb_ := Aside0.mk ht
  clear hr0 hc0 hr1 hc1 k0 k1 h ht
  go_enter Tryd.func55, Tryd.ntmps55
  go_wp2_with (first | ((with_reducible refine gate_dst (N := 1) rfl ?_); refine box_event ?hg (N := 1) ?hd (cs := #[.slice A0 l0.length c0, .slice A1 l1.length c1]) (t := 36) ?hr ?_; (case hd => rfl); (case hg => rfl); (case hr => first | (go_simp; done) | (go_simp; rfl)); intro gb hg w1 hbox hb; have hcz0 : w1.cell? ⟨gb, 0, none⟩ = some (.slice A0 l0.length c0) := (blk_cell hbox 0).trans rfl; have hcz1 : w1.cell? ⟨gb, 1, none⟩ = some (.slice A1 l1.length c1) := (blk_cell hbox 1).trans rfl; have hfz0 := blk_frozen hbox 0; have HB1 := Aside0.mk hb; clear hg hb hbox))
  have HB2 : Aside0 (Below w.heap.size w (w1.alloc (.cells #[.slice A0 l0.length c0, .slice A1 l1.length c1] 22))) := ⟨below_step HB1.out (below_alloc (Below.refl _ _) _)⟩
  have BK2 : Aside0 ((w1.alloc (.cells #[.slice A0 l0.length c0, .slice A1 l1.length c1] 22)).heap[w1.heap.size]? = some (.cells #[.slice A0 l0.length c0, .slice A1 l1.length c1] 22 (0, 0))) := ⟨blk_new _ _⟩
  obtain ⟨gy, hgy⟩ : ∃ g, w1.heap.size = g := ⟨_, rfl⟩
  rw [hgy] at BK2 ⊢
  generalize w1.alloc (.cells #[.slice A0 l0.length c0, .slice A1 l1.length c1] 22) = w2 at *
  clear hgy HB1 hcz0 hcz1 hfz0
  go_loopg [13] 2 (fun g v13 w' => ∃ i : Nat, v13 = .int .i64 i ∧ Aside0 (i + g = 2) ∧ Aside0 (gwRes l0 l1 i = r) ∧ Aside0 (Below w.heap.size w w') ∧ Aside0 (w'.heap[gy]? = some (.cells #[.slice A0 l0.length c0, .slice A1 l1.length c1] 22 (0, 0))))
  case atStart => exact ⟨0, rfl, ⟨rfl⟩, H, HB2, BK2⟩
  case round =>
   clear H HB2 BK2
   obtain ⟨i, rfl, HG, H, HB, BK⟩ := hrel
   by_cases ci : i < 2
   ·obtain ⟨A, c, l, hcell, HR, HC, HK, HS⟩ : ∃ (A : Option Addr) (c : Nat) (l : List ByteArray), wr.cell? ⟨gy, i, none⟩ = some (.slice A l.length c) ∧ Aside0 (Kd.C Kd.string w A l.length l) ∧ Aside0 (l.length ≤ c) ∧ Aside0 (okT l = true) ∧ Aside0 ((gwB l && gwRes l0 l1 (i + 1)) = r) := by
      have h01 : i = 0 ∨ i = 1 := by omega
      rcases h01 with rfl | rfl
      · exact ⟨A0, c0, l0, (blk_cell BK.out 0).trans rfl, HR0, HC0, K0, H⟩
      · exact ⟨A1, c1, l1, (blk_cell BK.out 1).trans rfl, HR1, HC1, K1, ⟨by rw [← H.out]; simp [gwRes]⟩⟩
    have cib : decide ((i : Int) < 2) = true := decide_eq_true (by omega)
    have CI := Aside0.mk ci
    by_cases c6 : l.length ≤ 6
    case neg =>
     have c6b : decide (6 < (l.length : Int)) = true := decide_eq_true (by omega)
     have hr : Aside0 (r = false) := ⟨by rw [← HS.out]; unfold gwB; rw [decide_eq_false c6]; rfl⟩
     clear c6
     go_wp2_with fail
     go_ret
     exact ⟨by rw [hr.out]; rfl, HB.out⟩
    case pos =>
     have c6b : decide (6 < (l.length : Int)) = false := decide_eq_false (by omega)
     have HS2 : Aside0 ((gwFrom l (l.length - 0) && gwRes l0 l1 (i + 1)) = r) := ⟨by rw [← HS.out]; unfold gwB; rw [decide_eq_true c6, Bool.true_and]; rfl⟩
     have C6 := Aside0.mk c6
     clear c6 HS
     go_wp2_with fail
     go_loopg [22] l.length (fun g v22 w' => ∃ j : Nat, v22 = .int .i64 j ∧ Aside0 (j + g = l.length) ∧ Aside0 ((gwFrom l (l.length - j) && gwRes l0 l1 (i + 1)) = r) ∧ Aside0 (Below w.heap.size w w') ∧ Aside0 (w'.heap[gy]? = some (.cells #[.slice A0 l0.length c0, .slice A1 l1.length c1] 22 (0, 0))))
     case atStart => exact ⟨0, rfl, ⟨Nat.zero_add _⟩, HS2, HB, BK⟩
     case round =>
      clear HS2 HB BK hcell
      obtain ⟨j, rfl, HJ, HS, HB, BK⟩ := hrel
      by_cases cj : j < l.length
      ·have cjb : decide ((j : Int) < (l.length : Int)) = true := decide_eq_true (by omega)
       have cjc : decide (j < l.length) = true := decide_eq_true cj
       have CJ := Aside0.mk cj
       have hst := gwFrom_step l j cj
       have hsz := okT_at HK.out j cj
       obtain ⟨ad, e1, hx⟩ := Kd.at_string HR.out (j : Int) (by omega) (by omega)
       have e0 : rdOf ByteArray.empty l (j : Int) = l.getD j ByteArray.empty := rfl
       rw [e0, Int.toNat_natCast] at hx
       have hx2 := hc_ HB hx
       subst e1
       obtain ⟨s, hs⟩ : ∃ s, l.getD j ByteArray.empty = s := ⟨_, rfl⟩
       rw [hs] at hx2 hst hsz
       have HN : Aside0 (impl_goodName.f s = some (nameB s)) := ⟨by unfold impl_goodName.f; rw [if_pos (by omega)]; rfl⟩
       have hps := hst
       rw [hps] at HS
       have HT2 := Aside0.mk hs
       have cjt := eq_true cj
       clear hst hps hx hs e0 cj hsz
       generalize nameB s = nb at HN HS
       cases nb with
       | false =>
        have hr : Aside0 (r = false) := ⟨by rw [← HS.out]; simp⟩
        go_wp2_with (go_at_call 65; refine (impl_goodName.calls s false _ HN.out).mono ?_; rintro e w5 ⟨rfl, hb⟩)
        go_ret
        exact ⟨by rw [hr.out]; rfl, below_step HB.out hb⟩
       | true =>
        obtain ⟨k, hk⟩ := has_k (l.take j) s (by rw [List.length_take]; have := C6.out; omega)
        have HK2 := Aside0.mk hk
        have HCT := Aside0.mk (Kd.C_take HR.out (m := j) (by have := CJ.out; omega))
        have hln : (l.take j).length = j := by rw [List.length_take]; have := CJ.out; omega
        have HLN := Aside0.mk hln
        clear hk hln
        generalize inB (l.take j) s = ib at HK2 HS
        have hjc : j ≤ l.length := by have := CJ.out; omega
        have hjk := eq_true (Nat.le_trans hjc HC.out)
        replace hjc := eq_true hjc
        cases ib with
        | true =>
         have hr : Aside0 (r = false) := ⟨by rw [← HS.out]; simp⟩
         go_wp2_with (first | (go_at_call 65; refine (impl_goodName.calls s true _ HN.out).mono ?_; rintro e w5 ⟨rfl, hb⟩; have HB5 := Aside0.mk (below_step HB.out hb); clear hx2) | (go_at_call 73; refine calls_of_args (args' := #[.slice (some ad) (l.take j).length c, .string s]) (by rw [HLN.out]) ?_; refine (slices_Contains_string_string.calls k (some ad) c (l.take j) s true _ (Kd.C_below HCT.out HB5.out) (by rw [HLN.out]; exact of_eq_true hjk) HK2.out).mono ?_; rintro e w6 ⟨rfl, hd⟩))
         go_ret
         exact ⟨by rw [hr.out]; rfl, below_step HB5.out hd.below⟩
        | false =>
         go_wp2_with (first | (go_at_call 65; refine (impl_goodName.calls s true _ HN.out).mono ?_; rintro e w5 ⟨rfl, hb⟩; have HB5 := Aside0.mk (below_step HB.out hb); have BK5 := Aside0.mk (blk_below BK.out hb); clear hx2) | (go_at_call 73; refine calls_of_args (args' := #[.slice (some ad) (l.take j).length c, .string s]) (by rw [HLN.out]) ?_; refine (slices_Contains_string_string.calls k (some ad) c (l.take j) s false _ (Kd.C_below HCT.out HB5.out) (by rw [HLN.out]; exact of_eq_true hjk) HK2.out).mono ?_; rintro e w6 ⟨rfl, hd⟩))
         go_roundg (gk - 1)
         case measure => have := HJ.out; have := CJ.out; omega
         case rel => exact ⟨j + 1, by rw [show wrap64 ((j : Int) + 1) = ((j + 1 : Nat) : Int) by have := CJ.out; have := C6.out; unfold wrap64; omega], ⟨by have := HJ.out; have := CJ.out; omega⟩, ⟨by rw [← HS.out]; simp⟩, ⟨below_step HB5.out hd.below⟩, ⟨blk_below BK5.out hd.below⟩⟩
      ·have cjb : decide ((j : Int) < (l.length : Int)) = false := decide_eq_false (by omega)
       have cjc : decide (j < l.length) = false := decide_eq_false cj
       have hr : Aside0 (gwRes l0 l1 (i + 1) = r) := ⟨by rw [← HS.out, show l.length - j = 0 by omega]; simp [gwFrom]⟩
       clear cj
       go_wp2_with fail
       go_roundg (2 - (i + 1))
       case measure => have := HG.out; have := CI.out; omega
       case rel => exact ⟨i + 1, by go_num, ⟨by have := CI.out; omega⟩, hr, HB, BK⟩
   ·have cib : decide ((i : Int) < 2) = false := decide_eq_false (by omega)
    have hr : Aside0 (r = true) := ⟨by have e2 : i = 2 := (by have := HG.out; omega); subst e2; exact H.out.symm⟩
    clear ci
    go_wp2_with fail
    go_ret
    exact ⟨by rw [hr.out]; rfl, HB.out⟩
theorem impl_goodWish.calls (A0_0 : Option Addr) (c0_0 : Nat) (l0_0 : List ByteArray) (A0_1 : Option Addr) (c0_1 : Nat) (l0_1 : List ByteArray) (r : Bool) (w : World) (hr0_0 : Kd.C Kd.string w A0_0 l0_0.length l0_0) (hc0_0 : l0_0.length ≤ c0_0) (hr0_1 : Kd.C Kd.string w A0_1 l0_1.length l0_1) (hc0_1 : l0_1.length ≤ c0_1) (h : impl_goodWish.f l0_0 l0_1 = some r) (ht_ : Tabs w := by exact tb_ HTb_) :
    Calls Tryd.prog 55 #[.agg #[.slice A0_0 l0_0.length c0_0, .slice A0_1 l0_1.length c0_1]] w fun e w' => e = .returned (.bool r) ∧ Below w.heap.size w w' := by
  unfold impl_goodWish.f at h
  by_cases k0 : okT l0_0 = true
  · rw [if_pos k0] at h
    by_cases k1 : okT l0_1 = true
    · rw [if_pos k1] at h
      injection h with h
      exact gw_walk A0_0 c0_0 l0_0 A0_1 c0_1 l0_1 r w hr0_0 hc0_0 hr0_1 hc0_1 k0 k1 h ht_
    · rw [if_neg k1] at h; cases h
  · rw [if_neg k0] at h; cases h
end Go.Proofs.YtdihodboopeakaaDoor.Pr
/-
  DERIVED: THE SHELF's CONTRACTS AT THIS DUMP, IN PLAIN WORDS (tools/lay-plain.mjs out of 'YtdihodboopeakaaDoorSxc.lean', which tools/lay-shelf.mjs wrote): THE SAME DECLARATIONS UNDER THE SAME NAMES: 'import', 'namespace', 'open', 'def', 'theorem' AND NOTHING ELSE: no command of the shelf's: FOR A HAND-IN. Each laying: the table of numbers ('.._ren') and one theorem, a field a fact of the dump's own or the kernel's comparison; each contract: ONE APPLICATION.
-/
namespace Go.Proofs
open Go.Shelf
def Tryd.lays156_ren : Go.Shelf.Ren := ⟨fun | 156 => 76 | 165 => 97 | 166 => 98 | 169 => 99 | 240 => 105 | 241 => 106 | 276 => 110 | 277 => 111 | n => n, fun | 31 => 22 | 9 => 9 | 3 => 3 | 4 => 4 | 0 => 0 | 20 => 20 | 72 => 114 | 76 => 118 | 70 => 112 | 37 => 62 | 75 => 117 | 127 => 124 | 164 => 132 | 5 => 5 | 80 => 120 | n => n, fun | n => n⟩
theorem Tryd.lays156 : Go.Proofs.Lays.n156 Tryd.prog Tryd.lays156_ren := {
  mixed := by kernel_rfl
  f156 := Tryd.func76.trans (congrArg some (by kernel_rfl))
  f165 := Tryd.func97.trans (congrArg some (by kernel_rfl))
  f166 := Tryd.func98.trans (congrArg some (by kernel_rfl))
  f169 := Tryd.func99.trans (congrArg some (by kernel_rfl))
  f240 := Tryd.func105.trans (congrArg some (by kernel_rfl))
  f241 := Tryd.func106.trans (congrArg some (by kernel_rfl))
  f276 := Tryd.func110.trans (congrArg some (by kernel_rfl))
  f277 := Tryd.func111.trans (congrArg some (by kernel_rfl))
  t0 := Tryd.underlying0
  a0 := Tryd.isAgg0
  z0 := Tryd.sizeOf0
  v0 := Tryd.zeroValue0
  t3 := Tryd.underlying3
  a3 := Tryd.isAgg3
  z3 := Tryd.sizeOf3
  v3 := Tryd.zeroValue3
  t4 := Tryd.underlying4
  a4 := Tryd.isAgg4
  z4 := Tryd.sizeOf4
  v4 := Tryd.zeroValue4
  t9 := Tryd.underlying9
  a9 := Tryd.isAgg9
  z9 := Tryd.sizeOf9
  v9 := Tryd.zeroValue9
  t20 := Tryd.underlying20
  a20 := Tryd.isAgg20
  z20 := Tryd.sizeOf20
  v20 := Tryd.zeroValue20
  t31 := Tryd.underlying22
  a31 := Tryd.isAgg22
  z31 := Tryd.sizeOf22
  v31 := Tryd.zeroValue22
  t37 := Tryd.underlying62
  a37 := Tryd.isAgg62
  z37 := Tryd.sizeOf62
  v37 := Tryd.zeroValue62
  t70 := Tryd.underlying112
  a70 := Tryd.isAgg112
  z70 := Tryd.sizeOf112
  v70 := Tryd.zeroValue112
  t72 := Tryd.underlying114
  a72 := Tryd.isAgg114
  z72 := Tryd.sizeOf114
  v72 := Tryd.zeroValue114
  t75 := Tryd.underlying117
  a75 := Tryd.isAgg117
  z75 := Tryd.sizeOf117
  v75 := Tryd.zeroValue117
  t76 := Tryd.underlying118
  a76 := Tryd.isAgg118
  z76 := Tryd.sizeOf118
  v76 := Tryd.zeroValue118
  t127 := Tryd.underlying124
  a127 := Tryd.isAgg124
  z127 := Tryd.sizeOf124
  v127 := Tryd.zeroValue124
  t164 := Tryd.underlying132
  a164 := Tryd.isAgg132
  z164 := Tryd.sizeOf132
  v164 := Tryd.zeroValue132 }
theorem Tryd.Builder_Extra_156 : Builder.Extra Tryd.prog Tryd.lays156_ren := {
  sizeBuilder := by kernel_rfl
  liesBuilder := by kernel_rfl
  t5 := Tryd.underlying5
  a5 := Tryd.isAgg5
  z5 := Tryd.sizeOf5
  v5 := Tryd.zeroValue5
  infoByte := by kernel_rfl
  cellsByte := by kernel_rfl
  sizeByte := by kernel_rfl
  neB5 := by decide }
open Go.RowKit in
theorem Tryd.strings_Join_none (a : Option Addr) (c : Nat) (sep : ByteArray) (w : World) :
    Calls Tryd.prog 76 #[.slice a 0 c, .string sep] w fun e w' => e = .returned (.string ⟨#[]⟩) ∧ w' = w := Any.strings_Join_none Tryd.lays156 Tryd.Builder_Extra_156 a c sep w
open Go.RowKit in
theorem Tryd.strings_Join (bk o c : Nat) (xs : List ByteArray) (sep : ByteArray) (w : World) (hcells : ∀ (j : Nat) x, xs[j]? = some x → w.cell? ⟨bk, o + j, none⟩ = some (.string x)) (hbk : bk < w.heap.size) (hN : xs.length ≤ 140737488355328) (hcap : xs.length ≤ c) (hlen : (Lib.join (xs.map (·.data.toList)) sep.data.toList).length ≤ 140737488355328) :
    Calls Tryd.prog 76 #[.slice (some ⟨bk, o, none⟩) xs.length c, .string sep] w fun e w' => e = .returned (.string ⟨(Lib.join (xs.map (·.data.toList)) sep.data.toList).toArray⟩) ∧ Below w.heap.size w w' := Any.strings_Join Tryd.lays156 Tryd.Builder_Extra_156 bk o c xs sep w hcells hbk hN hcap hlen
end Go.Proofs
/- strings.Join, by the library's contract. -/
namespace Go.Proofs.YtdihodboopeakaaDoor.Pr
open Go.RowKit Go.Proofs.YtdihodboopeakaaDoorW.PrintWords Go.Proofs.YtdihodboopeakaaDoorW.PrintLast Go.Proofs.YtdihodboopeakaaDoorW.PrintMore
set_option linter.unusedVariables false
theorem strings_Join.calls (A0 : Option Addr) (c0 : Nat) (l0 : List ByteArray) (a1 : ByteArray) (r : ByteArray) (w : World) (hr0 : Kd.C Kd.string w A0 l0.length l0) (hc0 : l0.length ≤ c0) (h : strings_Join.f l0 a1 = some r) :
    Calls Tryd.prog 76 #[.slice A0 l0.length c0, .string a1] w fun e w' => e = .returned (.string r) ∧ Below w.heap.size w w' := by
  unfold strings_Join.f at h
  by_cases hs : l0.length ≤ 140737488355328 ∧ (joinOf l0 a1).length ≤ 140737488355328
  case neg => rw [if_neg hs] at h; cases h
  rw [if_pos hs] at h
  injection h with h
  subst h
  rcases Nat.eq_zero_or_pos l0.length with e0 | e0
  · obtain rfl : l0 = [] := List.eq_nil_of_length_eq_zero e0
    refine (Tryd.strings_Join_none A0 c0 a1 w).mono fun e w' ⟨h1, h2⟩ => ?_
    subst h2
    exact ⟨h1, Below.refl _ _⟩
  · have hR := Kd.reads_of_C (enc := Value.string) (d := ByteArray.empty) (h1 := fun _ => rfl) hr0
    obtain ⟨ad, rfl, hc⟩ := hR.2.2 e0
    have hsp : ad.spot = none := by
      have h1 := hc 0 e0
      have h2 : ad.add 0 = ad := by unfold Addr.add; rw [if_pos rfl]
      rw [h2] at h1
      unfold World.cell? at h1
      cases hh : ad.spot with
      | none => rfl
      | some x =>
        exfalso
        split at h1
        · rw [hh] at h1
          simp at h1
        · cases h1
    obtain ⟨b, off, sp⟩ := ad
    simp only at hsp
    subst hsp
    have hcells : ∀ (j : Nat) x, l0[j]? = some x → w.cell? ⟨b, off + j, none⟩ = some (.string x) := fun j x hx => by
      have hj : j < l0.length := by
        rcases Nat.lt_or_ge j l0.length with h | h
        · exact h
        · rw [List.getElem?_eq_none h] at hx; cases hx
      have h1 := hc j hj
      have h2 : (⟨b, off, none⟩ : Addr).add j = ⟨b, off + j, none⟩ := by unfold Addr.add; split <;> simp_all
      rw [h2] at h1
      rw [h1]
      have h3 : l0.getD j ByteArray.empty = x := by rw [List.getD_eq_getElem?_getD, hx]; rfl
      rw [h3]
    have hb : b < w.heap.size := World.block_lt_of_cell? w _ (hcells 0 _ (List.getElem?_eq_getElem e0))
    exact Tryd.strings_Join b off c0 l0 a1 w hcells hb hs.1 hc0 hs.2
end Go.Proofs.YtdihodboopeakaaDoor.Pr
-- Written by this session's own print (wip/tools/mkmp.py) out of the translation. Lean checks it.
namespace Go.Proofs.YtdihodboopeakaaDoor.Pr
open Go.RowKit Go.Proofs.YtdihodboopeakaaDoorW.PrintWords Go.Proofs.YtdihodboopeakaaDoorW.PrintLast Go.Proofs.YtdihodboopeakaaDoorW.PrintMore
attribute [local go_sem] max2_int min2_int max_two min_two max_three min_three max_four min_four   -- for this text's walks alone
set_option linter.unusedVariables false
set_option linter.unusedSimpArgs false

set_option maxHeartbeats 8000000 in
set_option maxRecDepth 100000 in
theorem impl_WriteWish.calls (k : Nat) (P0_0_ : Nat → Prop) (A0_0 : Option Addr) (c0_0 : Nat) (l0_0 : List ByteArray) (P0_1_ : Nat → Prop) (A0_1 : Option Addr) (c0_1 : Nat) (l0_1 : List ByteArray) (r1 : ByteArray) (r2 : Bool) (w : World) (hs0_0 : Kd.V Kd.string 9 w w.heap.size (fun k_ => P0_0_ k_) (.slice A0_0 l0_0.length c0_0) l0_0) (hs0_1 : Kd.V Kd.string 9 w w.heap.size (fun k_ => P0_1_ k_) (.slice A0_1 l0_1.length c0_1) l0_1) (h : impl_WriteWish.f k l0_0 l0_1 = some (r1, r2)) (ht_ : Tabs w := by exact tb_ HTb_) :
   Calls Tryd.prog 35 #[.agg #[.slice A0_0 l0_0.length c0_0, .slice A0_1 l0_1.length c0_1]] w fun e w' => e = .returned (.tuple #[.string r1, .bool r2]) ∧ Below w.heap.size w w' := by
  have HTb_ := Aside0.mk ht_
  clear ht_
  have hu36 := Tryd.underlying36
  have HO0_0 := Aside0.mk (show Kd.V Kd.string 9 w w.heap.size (fun k_ => ((P0_0_ k_ ∨ P0_1_ k_) ∨ w.heap.size ≤ k_)) (.slice A0_0 l0_0.length c0_0) l0_0 from Kd.V_mono hs0_0 (fun k_ hk => .inl (.inl hk)))
  have HO0_1 := Aside0.mk (show Kd.V Kd.string 9 w w.heap.size (fun k_ => ((P0_0_ k_ ∨ P0_1_ k_) ∨ w.heap.size ≤ k_)) (.slice A0_1 l0_1.length c0_1) l0_1 from Kd.V_mono hs0_1 (fun k_ hk => .inl (.inr hk)))
  have HB := Aside0.mk (Below.refl w.heap.size w)
  have H : ((impl_goodWish.f l0_0 l0_1).bind fun t314 => (if t314 = true then ((some (([l0_0, l0_1] : List (List ByteArray)) : List (List ByteArray))).bind fun y315 => (impl_WriteWish.l0 k ([] : List ByteArray) y315 (y315.length : Int) 0)) else (some ((⟨#[]⟩ : ByteArray), false)))) = some (r1, r2) := h
  clear h
  replace H := Option.bind_eq_some_iff.mp H
  obtain ⟨t314, A20, H⟩ := H
  replace H : (if t314 = true then ((some (([l0_0, l0_1] : List (List ByteArray)) : List (List ByteArray))).bind fun y315 => (impl_WriteWish.l0 k ([] : List ByteArray) y315 (y315.length : Int) 0)) else (some ((⟨#[]⟩ : ByteArray), false))) = some (r1, r2) := H
  have A2 := Aside0.mk A20
  clear A20
  by_cases c3 : t314 = true
  ·subst c3
   rw [if_pos rfl] at H
   obtain ⟨y315, hy315⟩ : ∃ y_ : List (List ByteArray), y_ = (([l0_0, l0_1] : List (List ByteArray))) := ⟨_, rfl⟩
   replace H : (impl_WriteWish.l0 k ([] : List ByteArray) y315 (y315.length : Int) 0) = some (r1, r2) := by first | (rw [hy315]; with_reducible exact H) | (have H2_ := (Option.bind_some _ _).symm.trans H; rw [hy315]; with_reducible exact H2_) | (have H2_ := (Option.bind_some _ _).symm.trans H; with_reducible exact H2_) | with_reducible exact H | (rw [hy315]; exact H) | exact H
   have Ny315 := Aside0.mk hy315
   clear hy315
   have H' := Aside0.mk H
   clear H
   go_enter Tryd.func35, Tryd.ntmps35
   go_wp2_with (first | ((with_reducible refine gate_dst (N := 1) rfl ?_); refine box_event ?hg (N := 1) ?hd (cs := #[.slice A0_0 l0_0.length c0_0, .slice A0_1 l0_1.length c0_1]) (t := 36) ?hr ?_; (case hd => rfl); (case hg => rfl); (case hr => first | (go_simp; done) | (go_simp; rfl)); intro gb313 hg w4 hbox hb; have n0_ := Aside0.mk (Kd.V_below (Kd.V_elderB (by (with_reducible repeat (first | apply Kd.V_alloc | apply Kd.V_drewN | apply Kd.V_drew)); exact HO0_0.out) gb313 (Nat.le_of_eq hg.symm)) hb); have n1_ := Aside0.mk (Kd.V_below (Kd.V_elderB (by (with_reducible repeat (first | apply Kd.V_alloc | apply Kd.V_drewN | apply Kd.V_drew)); exact HO0_1.out) gb313 (Nat.le_of_eq hg.symm)) hb); have n2_ := Aside0.mk (below_step hb_ hb); have n3_ := Aside0.mk (hbox); have n4_ : Aside0 (w.heap.size ≤ gb313) := gz_; have n5_ : Aside0 (w.heap.size ≤ gb313) := gz_; clear HO0_0; clear HO0_1; clear HB; have HO0_0 := n0_; have HO0_1 := n1_; have HB := n2_; have BK313 := n3_; have GW313 := n4_; have GE313 := n5_; clear n0_ n1_ n2_ n3_ n4_ n5_; clear hb hbox hg; have hcz5_0 : w4.cell? ⟨gb313, 0, none⟩ = some (.slice A0_0 l0_0.length c0_0) := (blk_cell BK313.out 0).trans rfl; have hcz5_1 : w4.cell? ⟨gb313, 1, none⟩ = some (.slice A0_1 l0_1.length c0_1) := (blk_cell BK313.out 1).trans rfl; have hfz5_0 := blk_frozen BK313.out 0; have hfz5_1 := blk_frozen BK313.out 1) | ((with_reducible refine gate_callee (f := 55) rfl ?_); refine goesL_ (some 11) rfl rfl Tryd.func55 (by kernel_rfl) rfl #[.agg #[.slice A0_0 l0_0.length c0_0, .slice A0_1 l0_1.length c0_1]] rfl ls_ ?_; (with_reducible refine (impl_goodWish.calls _ _ l0_0 _ _ l0_1 true _ ?side1 ?side2 ?side3 ?side4 A2.out).mono ?_); (case side1 => exact ca_ (Kd.V_reads' HO0_0.out).2.2); (case side2 => exact (Kd.V_reads' HO0_0.out).2.1); (case side3 => exact ca_ (Kd.V_reads' HO0_1.out).2.2); (case side4 => exact (Kd.V_reads' HO0_1.out).2.1); rintro e w6 ⟨rfl, hb⟩; refine ⟨_, rfl, ?_⟩; have n0_ := Aside0.mk (Kd.V_below (by (with_reducible repeat (first | apply Kd.V_alloc | apply Kd.V_drewN | apply Kd.V_drew)); exact HO0_0.out) hb); have n1_ := Aside0.mk (Kd.V_below (by (with_reducible repeat (first | apply Kd.V_alloc | apply Kd.V_drewN | apply Kd.V_drew)); exact HO0_1.out) hb); have n2_ := bb_ BK313 hb; have n3_ := Aside0.mk (below_step hb_ hb); clear HO0_0; clear HO0_1; clear BK313; clear HB; have HO0_0 := n0_; have HO0_1 := n1_; have BK313 := n2_; have HB := n3_; clear n0_ n1_ n2_ n3_; (try clear hb); (try clear hb2); (try clear hk); (try clear hi); have hcz7_0 : w6.cell? ⟨gb313, 0, none⟩ = some (.slice A0_0 l0_0.length c0_0) := (blk_cell BK313.out 0).trans rfl; have hcz7_1 : w6.cell? ⟨gb313, 1, none⟩ = some (.slice A0_1 l0_1.length c0_1) := (blk_cell BK313.out 1).trans rfl; have hfz7_0 := blk_frozen BK313.out 0; have hfz7_1 := blk_frozen BK313.out 1) | ((with_reducible refine gate_dst (N := 17) rfl ?_); refine Kd.N_lit (Kd.slice 9 Kd.string) _ 22 ?hg (N' := 17) ?hd (xs := ([l0_0, l0_1] : List (List ByteArray))) (inner := [.slice A0_0 l0_0.length c0_0, .slice A0_1 l0_1.length c0_1]) (ok := (fun k_ => ((P0_0_ k_ ∨ P0_1_ k_) ∨ w.heap.size ≤ k_) ∧ k_ ≠ gb313)) (okp := (fun k_ => ((P0_0_ k_ ∨ P0_1_ k_) ∨ w.heap.size ≤ k_) ∧ k_ ≠ gb313)) ?hr ?hp (fun _ hk => hk) ((show ∀ k_, w6.heap.size ≤ k_ → (fun k_ => ((P0_0_ k_ ∨ P0_1_ k_) ∨ w.heap.size ≤ k_) ∧ k_ ≠ gb313) k_ from fun k_ hk => ⟨(.inr (Nat.le_trans (below_size hb_) hk)), Kd.freshB (g := gb313) (o := .cells #[.slice A0_0 l0_0.length c0_0, .slice A0_1 l0_1.length c0_1] 36 (0, 0)) (bk_ BK313.out) k_ hk⟩) _ (Nat.le_refl _)) (Below.refl _ _) (Nat.le_refl _) (by simp) ?_; (case hd => rfl); (case hg => rfl); (case hr => first | (go_simp; done) | (go_simp; rfl)); (case hp => exact (Reps.one (show Kd.FK (Kd.slice 9 Kd.string) _ _ l0_0 [.slice A0_0 l0_0.length c0_0] from (Kd.FK_slice_mk (Kd.V_reads' (Kd.V_mono (ok' := (fun k_ => ((P0_0_ k_ ∨ P0_1_ k_) ∨ w.heap.size ≤ k_) ∧ k_ ≠ gb313)) (HO0_0.out) (fun k_ hk => ⟨hk.1, hk.2⟩))).2.1 (Kd.V_F (Kd.V_mono (ok' := (fun k_ => ((P0_0_ k_ ∨ P0_1_ k_) ∨ w.heap.size ≤ k_) ∧ k_ ≠ gb313)) (HO0_0.out) (fun k_ hk => ⟨hk.1, hk.2⟩))))) (Reps.one (show Kd.FK (Kd.slice 9 Kd.string) _ _ l0_1 [.slice A0_1 l0_1.length c0_1] from (Kd.FK_slice_mk (Kd.V_reads' (Kd.V_mono (ok' := (fun k_ => ((P0_0_ k_ ∨ P0_1_ k_) ∨ w.heap.size ≤ k_) ∧ k_ ≠ gb313)) (HO0_1.out) (fun k_ hk => ⟨hk.1, hk.2⟩))).2.1 (Kd.V_F (Kd.V_mono (ok' := (fun k_ => ((P0_0_ k_ ∨ P0_1_ k_) ∨ w.heap.size ≤ k_) ∧ k_ ≠ gb313)) (HO0_1.out) (fun k_ hk => ⟨hk.1, hk.2⟩))))) (Reps.none _ _)))); intro v316 w8 ho9 hb hg_ hnew_; clear hg_ hnew_; (first | rw [← Ny315.out] at ho9 | (simp only [Int.reduceToNat] at ho9; rw [← Ny315.out] at ho9)); have n0_ := Aside0.mk (Kd.V_elder' (by (with_reducible repeat (first | apply Kd.V_alloc | apply Kd.V_drewN | apply Kd.V_drew)); exact HO0_0.out) (Kd.N_base ho9) hb); have n1_ := Aside0.mk (Kd.V_elder' (by (with_reducible repeat (first | apply Kd.V_alloc | apply Kd.V_drewN | apply Kd.V_drew)); exact HO0_1.out) (Kd.N_base ho9) hb); have n2_ := Aside0.mk (Kd.N_lower ho9 (below_size hb_)); have n3_ := bb_ BK313 hb; have n4_ := Aside0.mk (below_step hb_ hb); clear HO0_0; clear HO0_1; clear BK313; clear HB; have HO0_0 := n0_; have HO0_1 := n1_; have HO317 := n2_; have BK313 := n3_; have HB := n4_; clear n0_ n1_ n2_ n3_ n4_; clear hb ho9; obtain ⟨Ao10, co10, eo10⟩ := Kd.N_slice HO317.out; subst eo10))
   go_loopg [4, 19] k (fun kq v4 v19 w' => ∃ (x4_1 : List ByteArray) (x19_1 : Int), v19 = .int .i64 x19_1 ∧ Aside0 (impl_WriteWish.l0 kq x4_1 y315 (y315.length : Int) x19_1 = some (r1, r2)) ∧ Aside0 (kq ≤ k) ∧ Aside0 (Kd.R Kd.string 9 w' w.heap.size (fun k_ => (w.heap.size ≤ k_)) v4 x4_1) ∧ Aside0 (Kd.N (Kd.slice 9 Kd.string) 22 w' w.heap.size (fun k_ => ((P0_0_ k_ ∨ P0_1_ k_) ∨ w.heap.size ≤ k_) ∧ some k_ ≠ (v4 : Value).ownBlock ∧ k_ ≠ gb313) (.slice Ao10 y315.length co10) y315) ∧ Aside0 (Kd.V Kd.string 9 w' w.heap.size (fun k_ => ((P0_0_ k_ ∨ P0_1_ k_) ∨ w.heap.size ≤ k_) ∧ some k_ ≠ (v4 : Value).ownBlock ∧ some k_ ≠ ((.slice Ao10 y315.length co10) : Value).ownBlock ∧ k_ ≠ gb313) (.slice A0_0 l0_0.length c0_0) l0_0) ∧ Aside0 (Kd.V Kd.string 9 w' w.heap.size (fun k_ => ((P0_0_ k_ ∨ P0_1_ k_) ∨ w.heap.size ≤ k_) ∧ some k_ ≠ (v4 : Value).ownBlock ∧ some k_ ≠ ((.slice Ao10 y315.length co10) : Value).ownBlock ∧ k_ ≠ gb313) (.slice A0_1 l0_1.length c0_1) l0_1) ∧ Aside0 (w'.heap[gb313]? = some (.cells #[(.slice A0_0 l0_0.length c0_0), (.slice A0_1 l0_1.length c0_1)] 36 (0, 0))) ∧ Aside0 (Below w.heap.size w w'))
   case atStart => exact ⟨(([] : List ByteArray)), (0), es_, H', ⟨Nat.le_refl _⟩, ⟨by first | exact Kd.R_nil _ _ _ _ _ | exact Kd.N_nil _ _ _ _ _ | exact Kd.V_nil _ _ _ _ _ | exact Kd.Q_nil _ _ _ _ _ | exact Kd.S_nil _ _ _ _ _⟩, ⟨by (with_reducible repeat (first | apply Kd.N_alloc | apply Kd.N_drewN | apply Kd.N_drew)); exact Kd.N_mono HO317.out (fun _ hk => ⟨hk.1, ⟨(by simp [Value.ownBlock]), hk.2⟩⟩)⟩, ⟨by (with_reducible repeat (first | apply Kd.V_alloc | apply Kd.V_drewN | apply Kd.V_drew)); exact Kd.V_mono HO0_0.out (fun _ hk => ⟨hk.1.1, ⟨(by simp [Value.ownBlock]), ⟨hk.2, hk.1.2⟩⟩⟩)⟩, ⟨by (with_reducible repeat (first | apply Kd.V_alloc | apply Kd.V_drewN | apply Kd.V_drew)); exact Kd.V_mono HO0_1.out (fun _ hk => ⟨hk.1.1, ⟨(by simp [Value.ownBlock]), ⟨hk.2, hk.1.2⟩⟩⟩)⟩, ⟨bk_ BK313.out⟩, ⟨hb_⟩⟩
   case round =>
    clear H'
    try clear p2
    try clear c3
    try clear c5
    try clear hcz5_0
    try clear hcz5_1
    try clear hcz7_0
    try clear hcz7_1
    try clear hfz5_0
    try clear hfz5_1
    try clear hfz7_0
    try clear hfz7_1
    obtain ⟨x4_1, x19_1, rfl, HA, HK1, HO_4, HO_17, HO_314000, HO_314001, BK313, HB⟩ := hrel
    cases gk with
    | zero => exact absurd HA.out (by simp [impl_WriteWish.l0])
    | succ k1 =>
     have H := HA.out
     clear HA
     simp only [impl_WriteWish.l0] at H
     by_cases c11 : x19_1 < (y315.length : Int)
     ·rw [if_pos c11] at H
      have c11b0 : decide (x19_1 < (y315.length : Int)) = true := decide_eq_true c11
      clear c11
      by_cases c12 : 0 ≤ x19_1
      ·rw [if_pos c12] at H
       have c12b0 : decide (0 ≤ x19_1) = true := decide_eq_true c12
       clear c12
       by_cases c13 : x19_1 < (y315.length : Int)
       ·rw [if_pos c13] at H
        have c13b0 : decide (x19_1 < (y315.length : Int)) = true := decide_eq_true c13
        clear c13
        by_cases c14 : ((rd_L4 y315 x19_1).length : Int) > 0
        ·rw [if_pos c14] at H
         have c14b0 : decide (0 < ((rd_L4 y315 x19_1).length : Int)) = true := decide_eq_true c14
         have c14b1 : decide (0 < (rd_L4 y315 x19_1).length) = true := decide_eq_true (by omega)
         clear c14
         obtain ⟨y319, hy319⟩ : ∃ y_ : List ByteArray, y_ = (([(⟨#[114, 101, 97, 99, 104]⟩ : ByteArray), (⟨#[97, 118, 111, 105, 100]⟩ : ByteArray)] : List ByteArray)) := ⟨_, rfl⟩
         replace H : (if x19_1 < (y319.length : Int) then (if x4_1.length < 8796093022208 then (impl_WriteWish.l1 k1 (x4_1 ++ [rdOf ByteArray.empty y319 x19_1]) y315 (y315.length : Int) x19_1 (rd_L4 y315 x19_1) ((rd_L4 y315 x19_1).length : Int) 0) else (none)) else (none)) = some (r1, r2) := by first | (rw [hy319]; with_reducible exact H) | (have H2_ := (Option.bind_some _ _).symm.trans H; rw [hy319]; with_reducible exact H2_) | (have H2_ := (Option.bind_some _ _).symm.trans H; with_reducible exact H2_) | with_reducible exact H | (rw [hy319]; exact H) | exact H
         have Ny319 := Aside0.mk hy319
         clear hy319
         by_cases c15 : x19_1 < (y319.length : Int)
         ·rw [if_pos c15] at H
          have c15b0 : decide (x19_1 < (y319.length : Int)) = true := decide_eq_true c15
          clear c15
          by_cases c16 : x4_1.length < 8796093022208
          ·rw [if_pos c16] at H
           have LMc16 := Aside0.mk c16
           clear c16
           obtain ⟨y323, hy323⟩ : ∃ y_ : List ByteArray, y_ = (x4_1 ++ [rdOf ByteArray.empty y319 x19_1]) := ⟨_, rfl⟩
           replace H : (impl_WriteWish.l1 k1 y323 y315 (y315.length : Int) x19_1 (rd_L4 y315 x19_1) ((rd_L4 y315 x19_1).length : Int) 0) = some (r1, r2) := by first | (rw [hy323]; with_reducible exact H) | (have H2_ := (Option.bind_some _ _).symm.trans H; rw [hy323]; with_reducible exact H2_) | (have H2_ := (Option.bind_some _ _).symm.trans H; with_reducible exact H2_) | with_reducible exact H | (rw [hy323]; exact H) | exact H
           have Ny323 := Aside0.mk hy323
           clear hy323
           have H' := Aside0.mk H
           clear H
           have p318 : 0 ≤ (x19_1 : Int) := of_decide_eq_true as_
           have q318 : x19_1 < (y315.length : Int) := of_decide_eq_true as_
           obtain ⟨ad318, A318_0, c318_0, e318, hx318_0, hl318_0, hi318_0⟩ := at_L4 (Kd.N_reads' HO_17.out).2.2 x19_1 p318 q318
           cases e318
           obtain ⟨ce318, hce318, hMe318, hcc318⟩ := Kd.N_get HO_17.out [] x19_1 p318 (by first | exact q318 | exact of_decide_eq_true as_ | (have e_ := (Kd.N_reads' HO_17.out).1; omega))
           obtain ⟨ua318_0, uc318_0, rfl, ul318_0, ge318_0⟩ := Kd.FK_slice_open hMe318
           have hv318_0 := hcc318 0 _ rfl
           rw [Nat.add_zero, show ((Kd.slice 9 Kd.string)).sz = 1 from rfl, Nat.mul_one] at hv318_0
           replace hv318_0 := Option.some.inj (hv318_0.symm.trans hx318_0)
           injection hv318_0 with hva_ hvn_ hvc_
           rw [hva_] at ge318_0
           rw [hvc_] at ul318_0
           have HL318_0 := Aside0.mk (show Kd.V Kd.string 9 _ w.heap.size _ _ (rd_L4 y315 x19_1) from Kd.V_mk ul318_0 ge318_0)
           clear hva_ hvn_ hvc_ ge318_0 ul318_0
           clear hcc318 hce318
           have HR318_0 := Aside0.mk hi318_0
           have HC318_0 := Aside0.mk hl318_0
           clear hi318_0 hl318_0
           replace p318 := eq_true p318
           replace q318 := eq_true q318
           go_wp2_with (first | ((with_reducible refine gate_dst (N := 28) rfl ?_); refine Kd.R_lit Kd.string _ 9 ?hg (N := 28) ?hd (xs := ([(⟨#[114, 101, 97, 99, 104]⟩ : ByteArray), (⟨#[97, 118, 111, 105, 100]⟩ : ByteArray)] : List ByteArray)) (inner := [.string (⟨#[114, 101, 97, 99, 104]⟩ : ByteArray), .string (⟨#[97, 118, 111, 105, 100]⟩ : ByteArray)]) (ok := fun _ => True) (okp := fun _ => True) ?hr ?hp (fun _ hk => hk) trivial (Below.refl _ _) (Nat.le_refl _) (by simp) ?_; (case hd => rfl); (case hg => rfl); (case hr => first | (go_simp; done) | (go_simp; rfl)); (case hp => exact (Reps.one (show Kd.M Kd.string _ _ _ (⟨#[114, 101, 97, 99, 104]⟩ : ByteArray) [.string (⟨#[114, 101, 97, 99, 104]⟩ : ByteArray)] from rfl) (Reps.one (show Kd.M Kd.string _ _ _ (⟨#[97, 118, 111, 105, 100]⟩ : ByteArray) [.string (⟨#[97, 118, 111, 105, 100]⟩ : ByteArray)] from rfl) (Reps.none _ _)))); intro v320 w17 ho18 hb hg_ hnew_; clear hg_ hnew_; (first | rw [← Ny319.out] at ho18 | (simp only [Int.reduceToNat] at ho18; rw [← Ny319.out] at ho18)); have n0_ := Aside0.mk (Kd.R_elder' (ra_ HO_4.out) (Kd.R_base ho18) hb); have n1_ := Aside0.mk (Kd.N_elder' (by (with_reducible repeat (first | apply Kd.N_alloc | apply Kd.N_drewN | apply Kd.N_drew)); exact HO_17.out) (Kd.R_base ho18) hb); have n2_ := Aside0.mk (Kd.V_elder' (by (with_reducible repeat (first | apply Kd.V_alloc | apply Kd.V_drewN | apply Kd.V_drew)); exact HO_314000.out) (Kd.R_base ho18) hb); have n3_ := Aside0.mk (Kd.V_elder' (by (with_reducible repeat (first | apply Kd.V_alloc | apply Kd.V_drewN | apply Kd.V_drew)); exact HO_314001.out) (Kd.R_base ho18) hb); have n4_ := Aside0.mk (Kd.V_elder' (by (with_reducible repeat (first | apply Kd.V_alloc | apply Kd.V_drewN | apply Kd.V_drew)); exact HL318_0.out) (Kd.R_base ho18) hb); have n5_ := Aside0.mk (Kd.R_lower (Kd.R_new' (Kd.R_newM (M := fun k_ => (w.heap.size ≤ k_)) ho18 (below_size hb_) (fun k_ h_ => h_)) (Kd.R_lt (ra_ HO_4.out))) (below_size hb_)); have n6_ := bb_ BK313 hb; have n7_ := Aside0.mk (Kd.C_below (by repeat (first | (with_reducible exact HR318_0.out) | (with_reducible refine Kd.C_alloc ?_ _) | (with_reducible refine Kd.C_drewN ?_ _) | (with_reducible refine Kd.C_drew ?_) | exact HR318_0.out)) hb); have n8_ := Aside0.mk (below_step hb_ hb); clear HO_4; clear HO_17; clear HO_314000; clear HO_314001; clear HL318_0; clear BK313; clear HR318_0; clear HB; have HO_4 := n0_; have HO_17 := n1_; have HO_314000 := n2_; have HO_314001 := n3_; have HL318_0 := n4_; have HO321 := n5_; have BK313 := n6_; have HR318_0 := n7_; have HB := n8_; clear n0_ n1_ n2_ n3_ n4_ n5_ n6_ n7_ n8_; clear hb ho18; obtain ⟨Ao19, co19, eo19⟩ := Kd.R_slice HO321.out; subst eo19; have p322 : 0 ≤ (x19_1 : Int) := of_decide_eq_true as_; have q322 : x19_1 < (y319.length : Int) := of_decide_eq_true as_; obtain ⟨ad322, e322, hx322_0⟩ := Kd.at_string (Kd.R_reads' HO321.out).2.2 x19_1 p322 q322; cases e322; replace p322 := eq_true p322; replace q322 := eq_true q322) | ((with_reducible refine gate_builtin (b := .append) (xs := #[.tmp 27, .tmp 32]) rfl ?_); at_builtin; refine Kd.R_append Kd.string (w0 := w) w.heap.size rfl (.tmp 27) (.tmp 32) 22 9 (.string ⟨#[]⟩) 16 rfl Tryd.underlying22 info9 rfl (by decide) (by omega) u4 x4_1 (rdOf ByteArray.empty y319 x19_1) [.string (rdOf ByteArray.empty y319 x19_1)] (fun k_ => (w.heap.size ≤ k_) ∧ some k_ ≠ (.slice (some ad322) y319.length co19 : Value).ownBlock) (fun _ => False) rfl rfl ?aP (fun _ hk => hk.elim) ?aF ?aO ?aB ?aS ?aL ?_; (case aP => exact rfl); (case aB => exact hb_); (case aF => exact (fun k_ hk => ⟨(Nat.le_trans (below_size hb_) hk), Kd.fresh' (Kd.R_lt (ra_ HO321.out)) k_ hk⟩)); (case aO => exact (ra_ HO_4.out)); (case aS => exact (below_size hb_)); (case aL => have := LMc16.out; omega); intro v324 w20 ho hb hg hat; rw [← Ny323.out] at ho; have n0_ := Aside0.mk (Kd.N_afterv (ok := (fun k_ => ((P0_0_ k_ ∨ P0_1_ k_) ∨ w.heap.size ≤ k_) ∧ some k_ ≠ (.slice (some ad322) y319.length co19 : Value).ownBlock ∧ k_ ≠ gb313)) (by (with_reducible repeat (first | apply Kd.N_alloc | apply Kd.N_drewN | apply Kd.N_drew)); exact Kd.N_mono HO_17.out (fun _ hk => ⟨⟨hk.1.1, ⟨hk.2, hk.1.2.2⟩⟩, hk.1.2.1⟩)) hg hat); have n1_ := Aside0.mk (Kd.V_afterv (ok := (fun k_ => ((P0_0_ k_ ∨ P0_1_ k_) ∨ w.heap.size ≤ k_) ∧ some k_ ≠ (.slice (some ad318) y315.length co10 : Value).ownBlock ∧ some k_ ≠ (.slice (some ad322) y319.length co19 : Value).ownBlock ∧ k_ ≠ gb313)) (by (with_reducible repeat (first | apply Kd.V_alloc | apply Kd.V_drewN | apply Kd.V_drew)); exact Kd.V_mono HO_314000.out (fun _ hk => ⟨⟨hk.1.1, ⟨hk.1.2.2.1, ⟨hk.2, hk.1.2.2.2⟩⟩⟩, hk.1.2.1⟩)) hg hat); have n2_ := Aside0.mk (Kd.V_afterv (ok := (fun k_ => ((P0_0_ k_ ∨ P0_1_ k_) ∨ w.heap.size ≤ k_) ∧ some k_ ≠ (.slice (some ad318) y315.length co10 : Value).ownBlock ∧ some k_ ≠ (.slice (some ad322) y319.length co19 : Value).ownBlock ∧ k_ ≠ gb313)) (by (with_reducible repeat (first | apply Kd.V_alloc | apply Kd.V_drewN | apply Kd.V_drew)); exact Kd.V_mono HO_314001.out (fun _ hk => ⟨⟨hk.1.1, ⟨hk.1.2.2.1, ⟨hk.2, hk.1.2.2.2⟩⟩⟩, hk.1.2.1⟩)) hg hat); have n3_ := Aside0.mk (blk_grown (g := gb313) (o := .cells #[.slice A0_0 l0_0.length c0_0, .slice A0_1 l0_1.length c0_1] 36 (0, 0)) (bk_ BK313.out) hg (Kd.R_ne HO_4.out BK313.out (by decide))); have n4_ := Aside0.mk (Kd.V_afterv (ok := (fun k_ => ((P0_0_ k_ ∨ P0_1_ k_) ∨ w.heap.size ≤ k_) ∧ some k_ ≠ (.slice (some ad318) y315.length co10 : Value).ownBlock ∧ some k_ ≠ (.slice (some ad322) y319.length co19 : Value).ownBlock ∧ k_ ≠ gb313)) (by (with_reducible repeat (first | apply Kd.V_alloc | apply Kd.V_drewN | apply Kd.V_drew)); exact Kd.V_mono HL318_0.out (fun _ hk => ⟨⟨hk.1.1.1, ⟨hk.1.2, ⟨hk.2, hk.1.1.2.2⟩⟩⟩, hk.1.1.2.1⟩)) hg hat); have n5_ := Aside0.mk (Kd.R_after (ok := (fun k_ => (w.heap.size ≤ k_))) (by (with_reducible repeat (first | apply Kd.R_alloc | apply Kd.R_drewN | apply Kd.R_drew)); exact Kd.R_mono HO321.out (fun _ hk => ⟨hk.1.1, hk.2⟩)) hg hat); have n6_ := Aside0.mk (hb); have n7_ := Aside0.mk (ho); clear HO_17; clear HO_314000; clear HO_314001; clear BK313; clear HL318_0; clear HO321; clear HB; clear HO_4; have HO_17 := n0_; have HO_314000 := n1_; have HO_314001 := n2_; have BK313 := n3_; have HL318_0 := n4_; have HO321 := n5_; have HB := n6_; have HO325 := n7_; clear n0_ n1_ n2_ n3_ n4_ n5_ n6_ n7_; clear ho hb hg hat))
           go_loopg [4, 36] k1 (fun kq v4 v36 w' => ∃ (x4_2 : List ByteArray) (x36_2 : Int), v36 = .int .i64 x36_2 ∧ Aside0 (impl_WriteWish.l1 kq x4_2 y315 (y315.length : Int) x19_1 (rd_L4 y315 x19_1) ((rd_L4 y315 x19_1).length : Int) x36_2 = some (r1, r2)) ∧ Aside0 (kq ≤ k1) ∧ Aside0 (Kd.R Kd.string 9 w' w.heap.size (fun k_ => (w.heap.size ≤ k_)) v4 x4_2) ∧ Aside0 (Kd.N (Kd.slice 9 Kd.string) 22 w' w.heap.size (fun k_ => ((P0_0_ k_ ∨ P0_1_ k_) ∨ w.heap.size ≤ k_) ∧ some k_ ≠ (v4 : Value).ownBlock ∧ k_ ≠ gb313) (.slice (some ad318) y315.length co10) y315) ∧ Aside0 (Kd.V Kd.string 9 w' w.heap.size (fun k_ => ((P0_0_ k_ ∨ P0_1_ k_) ∨ w.heap.size ≤ k_) ∧ some k_ ≠ (v4 : Value).ownBlock ∧ some k_ ≠ ((.slice (some ad318) y315.length co10) : Value).ownBlock ∧ k_ ≠ gb313) (.slice A0_0 l0_0.length c0_0) l0_0) ∧ Aside0 (Kd.V Kd.string 9 w' w.heap.size (fun k_ => ((P0_0_ k_ ∨ P0_1_ k_) ∨ w.heap.size ≤ k_) ∧ some k_ ≠ (v4 : Value).ownBlock ∧ some k_ ≠ ((.slice (some ad318) y315.length co10) : Value).ownBlock ∧ k_ ≠ gb313) (.slice A0_1 l0_1.length c0_1) l0_1) ∧ Aside0 (Kd.V Kd.string 9 w' w.heap.size (fun k_ => some k_ ≠ (v4 : Value).ownBlock) (.slice A318_0 (rd_L4 y315 x19_1).length c318_0) (rd_L4 y315 x19_1)) ∧ Aside0 (w'.heap[gb313]? = some (.cells #[(.slice A0_0 l0_0.length c0_0), (.slice A0_1 l0_1.length c0_1)] 36 (0, 0))) ∧ Aside0 (Below w.heap.size w w'))
           case atStart => exact ⟨(y323), (0), es_, H', ⟨Nat.le_refl _⟩, ⟨by (with_reducible repeat (first | apply Kd.R_alloc | apply Kd.R_drewN | apply Kd.R_drew)); exact Kd.R_mono HO325.out (fun _ hk => hk.1)⟩, ⟨by (with_reducible repeat (first | apply Kd.N_alloc | apply Kd.N_drewN | apply Kd.N_drew)); exact Kd.N_mono HO_17.out (fun _ hk => ⟨hk.1.1, ⟨hk.2, hk.1.2.2⟩⟩)⟩, ⟨by (with_reducible repeat (first | apply Kd.V_alloc | apply Kd.V_drewN | apply Kd.V_drew)); exact Kd.V_mono HO_314000.out (fun _ hk => ⟨hk.1.1, ⟨hk.2, ⟨hk.1.2.1, hk.1.2.2.2⟩⟩⟩)⟩, ⟨by (with_reducible repeat (first | apply Kd.V_alloc | apply Kd.V_drewN | apply Kd.V_drew)); exact Kd.V_mono HO_314001.out (fun _ hk => ⟨hk.1.1, ⟨hk.2, ⟨hk.1.2.1, hk.1.2.2.2⟩⟩⟩)⟩, ⟨by (with_reducible repeat (first | apply Kd.V_alloc | apply Kd.V_drewN | apply Kd.V_drew)); exact Kd.V_mono HL318_0.out (fun _ hk => hk.2)⟩, ⟨bk_ BK313.out⟩, ⟨hb_⟩⟩
           case round =>
            clear H'
            try clear c1
            try clear p2
            try clear c3
            try clear p3
            try clear q3
            try clear hx3
            try clear c5
            try clear c11
            try clear c11b0
            try clear c12
            try clear c12b0
            try clear c13
            try clear c13b0
            try clear c14
            try clear c14b0
            try clear c14b1
            try clear c15
            try clear c15b0
            try clear c16
            try clear hcz5_0
            try clear hcz5_1
            try clear hcz7_0
            try clear hcz7_1
            try clear hfz5_0
            try clear hfz5_1
            try clear hfz7_0
            try clear hfz7_1
            try clear hx318_0
            try clear hx322_0
            try clear p2
            try clear p318
            try clear p322
            try clear q318
            try clear q322
            obtain ⟨x4_2, x36_2, rfl, HA, HK2, HO_4, HO_17, HO_314000, HO_314001, HL318_0, BK313, HB⟩ := hrel
            have HR318_0 := Aside0.mk (Kd.V_reads' HL318_0.out).2.2
            cases gk with
            | zero => exact absurd HA.out (by simp [impl_WriteWish.l1])
            | succ k2 =>
             have H := HA.out
             clear HA
             simp only [impl_WriteWish.l1] at H
             by_cases c21 : x36_2 < ((rd_L4 y315 x19_1).length : Int)
             ·rw [if_pos c21] at H
              have c21b0 : decide (x36_2 < ((rd_L4 y315 x19_1).length : Int)) = true := decide_eq_true c21
              clear c21
              by_cases c22 : 0 ≤ x36_2
              ·rw [if_pos c22] at H
               have c22b0 : decide (0 ≤ x36_2) = true := decide_eq_true c22
               clear c22
               by_cases c23 : x36_2 < ((rd_L4 y315 x19_1).length : Int)
               ·rw [if_pos c23] at H
                have c23b0 : decide (x36_2 < ((rd_L4 y315 x19_1).length : Int)) = true := decide_eq_true c23
                clear c23
                replace H := Option.bind_eq_some_iff.mp H
                obtain ⟨t327, A240, H⟩ := H
                replace H : (if t327 = true then (some ((⟨#[]⟩ : ByteArray), false)) else (if x4_2.length < 8796093022208 then (impl_WriteWish.l1 k2 (x4_2 ++ [rdOf ByteArray.empty (rd_L4 y315 x19_1) x36_2]) y315 (y315.length : Int) x19_1 (rd_L4 y315 x19_1) ((rd_L4 y315 x19_1).length : Int) (wrap64 (x36_2 + 1))) else (none))) = some (r1, r2) := H
                have A24 := Aside0.mk A240
                clear A240
                by_cases c25 : t327 = true
                ·subst c25
                 rw [if_pos rfl] at H
                 simp only [Option.some.injEq, Prod.mk.injEq] at H
                 obtain ⟨rfl, rfl⟩ := H
                 have p326 : 0 ≤ (x36_2 : Int) := of_decide_eq_true as_
                 have q326 : x36_2 < ((rd_L4 y315 x19_1).length : Int) := of_decide_eq_true as_
                 obtain ⟨ad326, e326, hx326_0⟩ := Kd.at_string HR318_0.out x36_2 p326 q326
                 cases e326
                 try replace hx326_0 := hc_ HB hx326_0
                 replace p326 := eq_true p326
                 replace q326 := eq_true q326
                 go_wp2_with (first | ((with_reducible refine gate_callee (f := 71) rfl ?_); refine goesL_ (some 41) rfl rfl Tryd.func71 (by kernel_rfl) rfl #[.string (rdOf ByteArray.empty (rd_L4 y315 x19_1) x36_2)] rfl ls_ ?_; (with_reducible refine (impl_isWord.calls (rdOf ByteArray.empty (rd_L4 y315 x19_1) x36_2) true _ A24.out).mono ?_); rintro e w' ⟨rfl, ⟨nd, rfl⟩⟩; refine ⟨_, rfl, ?_⟩))
                 go_ret2
                 exact ⟨er_, hb_⟩
                ·replace c25 := Bool.eq_false_iff.mpr c25
                 subst c25
                 rw [if_neg (show ¬ (false = true) by decide)] at H
                 by_cases c26 : x4_2.length < 8796093022208
                 ·rw [if_pos c26] at H
                  have LMc26 := Aside0.mk c26
                  clear c26
                  obtain ⟨y328, hy328⟩ : ∃ y_ : List ByteArray, y_ = (x4_2 ++ [rdOf ByteArray.empty (rd_L4 y315 x19_1) x36_2]) := ⟨_, rfl⟩
                  replace H : (impl_WriteWish.l1 k2 y328 y315 (y315.length : Int) x19_1 (rd_L4 y315 x19_1) ((rd_L4 y315 x19_1).length : Int) (wrap64 (x36_2 + 1))) = some (r1, r2) := by first | (rw [hy328]; with_reducible exact H) | (have H2_ := (Option.bind_some _ _).symm.trans H; rw [hy328]; with_reducible exact H2_) | (have H2_ := (Option.bind_some _ _).symm.trans H; with_reducible exact H2_) | with_reducible exact H | (rw [hy328]; exact H) | exact H
                  have Ny328 := Aside0.mk hy328
                  clear hy328
                  have H' := Aside0.mk H
                  clear H
                  have p326 : 0 ≤ (x36_2 : Int) := of_decide_eq_true as_
                  have q326 : x36_2 < ((rd_L4 y315 x19_1).length : Int) := of_decide_eq_true as_
                  obtain ⟨ad326, e326, hx326_0⟩ := Kd.at_string HR318_0.out x36_2 p326 q326
                  cases e326
                  try replace hx326_0 := hc_ HB hx326_0
                  replace p326 := eq_true p326
                  replace q326 := eq_true q326
                  go_wp2_with (first | ((with_reducible refine gate_callee (f := 71) rfl ?_); refine goesL_ (some 41) rfl rfl Tryd.func71 (by kernel_rfl) rfl #[.string (rdOf ByteArray.empty (rd_L4 y315 x19_1) x36_2)] rfl ls_ ?_; (with_reducible refine (impl_isWord.calls (rdOf ByteArray.empty (rd_L4 y315 x19_1) x36_2) false _ A24.out).mono ?_); rintro e w' ⟨rfl, ⟨nd, rfl⟩⟩; refine ⟨_, rfl, ?_⟩) | ((with_reducible refine gate_builtin (b := .append) (xs := #[.tmp 42, .tmp 44]) rfl ?_); at_builtin; refine Kd.R_append Kd.string (w0 := w) w.heap.size rfl (.tmp 42) (.tmp 44) 22 9 (.string ⟨#[]⟩) 16 rfl Tryd.underlying22 info9 rfl (by decide) (by omega) u4 x4_2 (rdOf ByteArray.empty (rd_L4 y315 x19_1) x36_2) [.string (rdOf ByteArray.empty (rd_L4 y315 x19_1) x36_2)] (fun k_ => (w.heap.size ≤ k_)) (fun _ => False) rfl rfl ?aP (fun _ hk => hk.elim) ?aF ?aO ?aB ?aS ?aL ?_; (case aP => exact rfl); (case aB => exact hb_); (case aF => exact (fun k_ hk => (Nat.le_trans (below_size hb_) hk))); (case aO => exact (ra_ HO_4.out)); (case aS => exact (below_size hb_)); (case aL => have := LMc26.out; omega); intro v329 w27 ho hb hg hat; rw [← Ny328.out] at ho; have n0_ := Aside0.mk (Kd.N_afterv (ok := (fun k_ => ((P0_0_ k_ ∨ P0_1_ k_) ∨ w.heap.size ≤ k_) ∧ k_ ≠ gb313)) (by (with_reducible repeat (first | apply Kd.N_alloc | apply Kd.N_drewN | apply Kd.N_drew)); exact Kd.N_mono HO_17.out (fun _ hk => ⟨⟨hk.1, hk.2.2⟩, hk.2.1⟩)) hg hat); have n1_ := Aside0.mk (Kd.V_afterv (ok := (fun k_ => ((P0_0_ k_ ∨ P0_1_ k_) ∨ w.heap.size ≤ k_) ∧ some k_ ≠ (.slice (some ad318) y315.length co10 : Value).ownBlock ∧ k_ ≠ gb313)) (by (with_reducible repeat (first | apply Kd.V_alloc | apply Kd.V_drewN | apply Kd.V_drew)); exact Kd.V_mono HO_314000.out (fun _ hk => ⟨⟨hk.1, ⟨hk.2.2.1, hk.2.2.2⟩⟩, hk.2.1⟩)) hg hat); have n2_ := Aside0.mk (Kd.V_afterv (ok := (fun k_ => ((P0_0_ k_ ∨ P0_1_ k_) ∨ w.heap.size ≤ k_) ∧ some k_ ≠ (.slice (some ad318) y315.length co10 : Value).ownBlock ∧ k_ ≠ gb313)) (by (with_reducible repeat (first | apply Kd.V_alloc | apply Kd.V_drewN | apply Kd.V_drew)); exact Kd.V_mono HO_314001.out (fun _ hk => ⟨⟨hk.1, ⟨hk.2.2.1, hk.2.2.2⟩⟩, hk.2.1⟩)) hg hat); have n9_ := Aside0.mk (Kd.V_afterv (ok := (fun _ => True)) (by (with_reducible repeat (first | apply Kd.V_alloc | apply Kd.V_drewN | apply Kd.V_drew)); exact Kd.V_mono HL318_0.out (fun _ hk => ⟨trivial, hk⟩)) hg hat); have n3_ := Aside0.mk (blk_grown (g := gb313) (o := .cells #[.slice A0_0 l0_0.length c0_0, .slice A0_1 l0_1.length c0_1] 36 (0, 0)) (bk_ BK313.out) hg (Kd.R_ne HO_4.out BK313.out (by decide))); have n4_ := Aside0.mk (hb); have n5_ := Aside0.mk (ho); clear HL318_0; clear HO_17; clear HO_314000; clear HO_314001; clear BK313; clear HB; clear HO_4; have HO_17 := n0_; have HO_314000 := n1_; have HO_314001 := n2_; have BK313 := n3_; have HB := n4_; have HO330 := n5_; have HL318_0 := n9_; clear n9_; clear n0_ n1_ n2_ n3_ n4_ n5_; clear ho hb hg hat))
                  go_roundg k2
                  case measure => have := HK1.out; have := HK2.out; omega
                  case rel => exact ⟨(y328), (wrap64 (x36_2 + 1)), es_, H', ⟨by have := HK1.out; have := HK2.out; omega⟩, ⟨ra_ HO330.out⟩, ⟨by (with_reducible repeat (first | apply Kd.N_alloc | apply Kd.N_drewN | apply Kd.N_drew)); exact Kd.N_mono HO_17.out (fun _ hk => ⟨hk.1.1, ⟨hk.2, hk.1.2⟩⟩)⟩, ⟨by (with_reducible repeat (first | apply Kd.V_alloc | apply Kd.V_drewN | apply Kd.V_drew)); exact Kd.V_mono HO_314000.out (fun _ hk => ⟨hk.1.1, ⟨hk.2, ⟨hk.1.2.1, hk.1.2.2⟩⟩⟩)⟩, ⟨by (with_reducible repeat (first | apply Kd.V_alloc | apply Kd.V_drewN | apply Kd.V_drew)); exact Kd.V_mono HO_314001.out (fun _ hk => ⟨hk.1.1, ⟨hk.2, ⟨hk.1.2.1, hk.1.2.2⟩⟩⟩)⟩, ⟨by (with_reducible repeat (first | apply Kd.V_alloc | apply Kd.V_drewN | apply Kd.V_drew)); exact Kd.V_mono HL318_0.out (fun _ hk => by first | exact hk.2 | exact hk)⟩, ⟨bk_ BK313.out⟩, ⟨hb_⟩⟩
                 ·rw [if_neg c26] at H
                  exact absurd H (by simp)
               ·rw [if_neg c23] at H
                exact absurd H (by simp)
              ·rw [if_neg c22] at H
               exact absurd H (by simp)
             ·rw [if_neg c21] at H
              have c21b0 : decide (x36_2 < ((rd_L4 y315 x19_1).length : Int)) = false := decide_eq_false c21
              clear c21
              have H' := Aside0.mk H
              clear H
              go_wp2
              go_roundg k2
              case measure => have := HK1.out; have := HK2.out; omega
              case rel => exact ⟨(x4_2), (wrap64 (x19_1 + 1)), es_, H', ⟨by have := HK1.out; have := HK2.out; omega⟩, ⟨ra_ HO_4.out⟩, ⟨by (with_reducible repeat (first | apply Kd.N_alloc | apply Kd.N_drewN | apply Kd.N_drew)); exact HO_17.out⟩, ⟨by (with_reducible repeat (first | apply Kd.V_alloc | apply Kd.V_drewN | apply Kd.V_drew)); exact HO_314000.out⟩, ⟨by (with_reducible repeat (first | apply Kd.V_alloc | apply Kd.V_drewN | apply Kd.V_drew)); exact HO_314001.out⟩, ⟨bk_ BK313.out⟩, ⟨hb_⟩⟩
          ·rw [if_neg c16] at H
           exact absurd H (by simp)
         ·rw [if_neg c15] at H
          exact absurd H (by simp)
        ·rw [if_neg c14] at H
         have c14b0 : decide (0 < ((rd_L4 y315 x19_1).length : Int)) = false := decide_eq_false c14
         have c14b1 : decide (0 < (rd_L4 y315 x19_1).length) = false := decide_eq_false (by omega)
         clear c14
         have H' := Aside0.mk H
         clear H
         have p318 : 0 ≤ (x19_1 : Int) := of_decide_eq_true as_
         have q318 : x19_1 < (y315.length : Int) := of_decide_eq_true as_
         obtain ⟨ad318, A318_0, c318_0, e318, hx318_0, hl318_0, hi318_0⟩ := at_L4 (Kd.N_reads' HO_17.out).2.2 x19_1 p318 q318
         cases e318
         obtain ⟨ce318, hce318, hMe318, hcc318⟩ := Kd.N_get HO_17.out [] x19_1 p318 (by first | exact q318 | exact of_decide_eq_true as_ | (have e_ := (Kd.N_reads' HO_17.out).1; omega))
         obtain ⟨ua318_0, uc318_0, rfl, ul318_0, ge318_0⟩ := Kd.FK_slice_open hMe318
         have hv318_0 := hcc318 0 _ rfl
         rw [Nat.add_zero, show ((Kd.slice 9 Kd.string)).sz = 1 from rfl, Nat.mul_one] at hv318_0
         replace hv318_0 := Option.some.inj (hv318_0.symm.trans hx318_0)
         injection hv318_0 with hva_ hvn_ hvc_
         rw [hva_] at ge318_0
         rw [hvc_] at ul318_0
         have HL318_0 := Aside0.mk (show Kd.V Kd.string 9 _ w.heap.size _ _ (rd_L4 y315 x19_1) from Kd.V_mk ul318_0 ge318_0)
         clear hva_ hvn_ hvc_ ge318_0 ul318_0
         clear hcc318 hce318
         have HR318_0 := Aside0.mk hi318_0
         have HC318_0 := Aside0.mk hl318_0
         clear hi318_0 hl318_0
         replace p318 := eq_true p318
         replace q318 := eq_true q318
         go_wp2
         go_loopg [4, 36] k1 (fun kq v4 v36 w' => ∃ (x4_2 : List ByteArray) (x36_2 : Int), v36 = .int .i64 x36_2 ∧ Aside0 (impl_WriteWish.l1 kq x4_2 y315 (y315.length : Int) x19_1 (rd_L4 y315 x19_1) ((rd_L4 y315 x19_1).length : Int) x36_2 = some (r1, r2)) ∧ Aside0 (kq ≤ k1) ∧ Aside0 (Kd.R Kd.string 9 w' w.heap.size (fun k_ => (w.heap.size ≤ k_)) v4 x4_2) ∧ Aside0 (Kd.N (Kd.slice 9 Kd.string) 22 w' w.heap.size (fun k_ => ((P0_0_ k_ ∨ P0_1_ k_) ∨ w.heap.size ≤ k_) ∧ some k_ ≠ (v4 : Value).ownBlock ∧ k_ ≠ gb313) (.slice (some ad318) y315.length co10) y315) ∧ Aside0 (Kd.V Kd.string 9 w' w.heap.size (fun k_ => ((P0_0_ k_ ∨ P0_1_ k_) ∨ w.heap.size ≤ k_) ∧ some k_ ≠ (v4 : Value).ownBlock ∧ some k_ ≠ ((.slice (some ad318) y315.length co10) : Value).ownBlock ∧ k_ ≠ gb313) (.slice A0_0 l0_0.length c0_0) l0_0) ∧ Aside0 (Kd.V Kd.string 9 w' w.heap.size (fun k_ => ((P0_0_ k_ ∨ P0_1_ k_) ∨ w.heap.size ≤ k_) ∧ some k_ ≠ (v4 : Value).ownBlock ∧ some k_ ≠ ((.slice (some ad318) y315.length co10) : Value).ownBlock ∧ k_ ≠ gb313) (.slice A0_1 l0_1.length c0_1) l0_1) ∧ Aside0 (Kd.V Kd.string 9 w' w.heap.size (fun k_ => some k_ ≠ (v4 : Value).ownBlock) (.slice A318_0 (rd_L4 y315 x19_1).length c318_0) (rd_L4 y315 x19_1)) ∧ Aside0 (w'.heap[gb313]? = some (.cells #[(.slice A0_0 l0_0.length c0_0), (.slice A0_1 l0_1.length c0_1)] 36 (0, 0))) ∧ Aside0 (Below w.heap.size w w'))
         case atStart => exact ⟨(x4_1), (0), es_, H', ⟨Nat.le_refl _⟩, ⟨ra_ HO_4.out⟩, ⟨by (with_reducible repeat (first | apply Kd.N_alloc | apply Kd.N_drewN | apply Kd.N_drew)); exact HO_17.out⟩, ⟨by (with_reducible repeat (first | apply Kd.V_alloc | apply Kd.V_drewN | apply Kd.V_drew)); exact HO_314000.out⟩, ⟨by (with_reducible repeat (first | apply Kd.V_alloc | apply Kd.V_drewN | apply Kd.V_drew)); exact HO_314001.out⟩, ⟨by (with_reducible repeat (first | apply Kd.V_alloc | apply Kd.V_drewN | apply Kd.V_drew)); exact Kd.V_mono HL318_0.out (fun _ hk => hk.1.2.1)⟩, ⟨bk_ BK313.out⟩, ⟨hb_⟩⟩
         case round =>
          clear H'
          try clear c1
          try clear c2
          try clear p2
          try clear c3
          try clear p3
          try clear q3
          try clear hx3
          try clear c5
          try clear p6
          try clear c7
          try clear c11
          try clear c11b0
          try clear c12
          try clear c12b0
          try clear c13
          try clear c13b0
          try clear c14
          try clear c14b0
          try clear c14b1
          try clear c15
          try clear c15b0
          try clear c16
          try clear c21
          try clear c21b0
          try clear c22
          try clear c22b0
          try clear c23
          try clear c23b0
          try clear c25
          try clear c26
          try clear hcz5_0
          try clear hcz5_1
          try clear hcz7_0
          try clear hcz7_1
          try clear hfz5_0
          try clear hfz5_1
          try clear hfz7_0
          try clear hfz7_1
          try clear hx318_0
          try clear hx322_0
          try clear hx326_0
          try clear p2
          try clear p3
          try clear p318
          try clear p322
          try clear p326
          try clear q3
          try clear q318
          try clear q322
          try clear q326
          obtain ⟨x4_2, x36_2, rfl, HA, HK2, HO_4, HO_17, HO_314000, HO_314001, HL318_0, BK313, HB⟩ := hrel
          have HR318_0 := Aside0.mk (Kd.V_reads' HL318_0.out).2.2
          cases gk with
          | zero => exact absurd HA.out (by simp [impl_WriteWish.l1])
          | succ k2 =>
           have H := HA.out
           clear HA
           simp only [impl_WriteWish.l1] at H
           by_cases c28 : x36_2 < ((rd_L4 y315 x19_1).length : Int)
           ·rw [if_pos c28] at H
            have c28b0 : decide (x36_2 < ((rd_L4 y315 x19_1).length : Int)) = true := decide_eq_true c28
            clear c28
            by_cases c29 : 0 ≤ x36_2
            ·rw [if_pos c29] at H
             have c29b0 : decide (0 ≤ x36_2) = true := decide_eq_true c29
             clear c29
             by_cases c30 : x36_2 < ((rd_L4 y315 x19_1).length : Int)
             ·rw [if_pos c30] at H
              have c30b0 : decide (x36_2 < ((rd_L4 y315 x19_1).length : Int)) = true := decide_eq_true c30
              clear c30
              replace H := Option.bind_eq_some_iff.mp H
              obtain ⟨t327, A310, H⟩ := H
              replace H : (if t327 = true then (some ((⟨#[]⟩ : ByteArray), false)) else (if x4_2.length < 8796093022208 then (impl_WriteWish.l1 k2 (x4_2 ++ [rdOf ByteArray.empty (rd_L4 y315 x19_1) x36_2]) y315 (y315.length : Int) x19_1 (rd_L4 y315 x19_1) ((rd_L4 y315 x19_1).length : Int) (wrap64 (x36_2 + 1))) else (none))) = some (r1, r2) := H
              have A31 := Aside0.mk A310
              clear A310
              by_cases c32 : t327 = true
              ·subst c32
               rw [if_pos rfl] at H
               simp only [Option.some.injEq, Prod.mk.injEq] at H
               obtain ⟨rfl, rfl⟩ := H
               have p326 : 0 ≤ (x36_2 : Int) := of_decide_eq_true as_
               have q326 : x36_2 < ((rd_L4 y315 x19_1).length : Int) := of_decide_eq_true as_
               obtain ⟨ad326, e326, hx326_0⟩ := Kd.at_string HR318_0.out x36_2 p326 q326
               cases e326
               try replace hx326_0 := hc_ HB hx326_0
               replace p326 := eq_true p326
               replace q326 := eq_true q326
               go_wp2_with (first | ((with_reducible refine gate_callee (f := 71) rfl ?_); refine goesL_ (some 41) rfl rfl Tryd.func71 (by kernel_rfl) rfl #[.string (rdOf ByteArray.empty (rd_L4 y315 x19_1) x36_2)] rfl ls_ ?_; (with_reducible refine (impl_isWord.calls (rdOf ByteArray.empty (rd_L4 y315 x19_1) x36_2) true _ A31.out).mono ?_); rintro e w' ⟨rfl, ⟨nd, rfl⟩⟩; refine ⟨_, rfl, ?_⟩))
               go_ret2
               exact ⟨er_, hb_⟩
              ·replace c32 := Bool.eq_false_iff.mpr c32
               subst c32
               rw [if_neg (show ¬ (false = true) by decide)] at H
               by_cases c33 : x4_2.length < 8796093022208
               ·rw [if_pos c33] at H
                have LMc33 := Aside0.mk c33
                clear c33
                obtain ⟨y328, hy328⟩ : ∃ y_ : List ByteArray, y_ = (x4_2 ++ [rdOf ByteArray.empty (rd_L4 y315 x19_1) x36_2]) := ⟨_, rfl⟩
                replace H : (impl_WriteWish.l1 k2 y328 y315 (y315.length : Int) x19_1 (rd_L4 y315 x19_1) ((rd_L4 y315 x19_1).length : Int) (wrap64 (x36_2 + 1))) = some (r1, r2) := by first | (rw [hy328]; with_reducible exact H) | (have H2_ := (Option.bind_some _ _).symm.trans H; rw [hy328]; with_reducible exact H2_) | (have H2_ := (Option.bind_some _ _).symm.trans H; with_reducible exact H2_) | with_reducible exact H | (rw [hy328]; exact H) | exact H
                have Ny328 := Aside0.mk hy328
                clear hy328
                have H' := Aside0.mk H
                clear H
                have p326 : 0 ≤ (x36_2 : Int) := of_decide_eq_true as_
                have q326 : x36_2 < ((rd_L4 y315 x19_1).length : Int) := of_decide_eq_true as_
                obtain ⟨ad326, e326, hx326_0⟩ := Kd.at_string HR318_0.out x36_2 p326 q326
                cases e326
                try replace hx326_0 := hc_ HB hx326_0
                replace p326 := eq_true p326
                replace q326 := eq_true q326
                go_wp2_with (first | ((with_reducible refine gate_callee (f := 71) rfl ?_); refine goesL_ (some 41) rfl rfl Tryd.func71 (by kernel_rfl) rfl #[.string (rdOf ByteArray.empty (rd_L4 y315 x19_1) x36_2)] rfl ls_ ?_; (with_reducible refine (impl_isWord.calls (rdOf ByteArray.empty (rd_L4 y315 x19_1) x36_2) false _ A31.out).mono ?_); rintro e w' ⟨rfl, ⟨nd, rfl⟩⟩; refine ⟨_, rfl, ?_⟩) | ((with_reducible refine gate_builtin (b := .append) (xs := #[.tmp 42, .tmp 44]) rfl ?_); at_builtin; refine Kd.R_append Kd.string (w0 := w) w.heap.size rfl (.tmp 42) (.tmp 44) 22 9 (.string ⟨#[]⟩) 16 rfl Tryd.underlying22 info9 rfl (by decide) (by omega) u4 x4_2 (rdOf ByteArray.empty (rd_L4 y315 x19_1) x36_2) [.string (rdOf ByteArray.empty (rd_L4 y315 x19_1) x36_2)] (fun k_ => (w.heap.size ≤ k_)) (fun _ => False) rfl rfl ?aP (fun _ hk => hk.elim) ?aF ?aO ?aB ?aS ?aL ?_; (case aP => exact rfl); (case aB => exact hb_); (case aF => exact (fun k_ hk => (Nat.le_trans (below_size hb_) hk))); (case aO => exact (ra_ HO_4.out)); (case aS => exact (below_size hb_)); (case aL => have := LMc33.out; omega); intro v329 w34 ho hb hg hat; rw [← Ny328.out] at ho; have n0_ := Aside0.mk (Kd.N_afterv (ok := (fun k_ => ((P0_0_ k_ ∨ P0_1_ k_) ∨ w.heap.size ≤ k_) ∧ k_ ≠ gb313)) (by (with_reducible repeat (first | apply Kd.N_alloc | apply Kd.N_drewN | apply Kd.N_drew)); exact Kd.N_mono HO_17.out (fun _ hk => ⟨⟨hk.1, hk.2.2⟩, hk.2.1⟩)) hg hat); have n1_ := Aside0.mk (Kd.V_afterv (ok := (fun k_ => ((P0_0_ k_ ∨ P0_1_ k_) ∨ w.heap.size ≤ k_) ∧ some k_ ≠ (.slice (some ad318) y315.length co10 : Value).ownBlock ∧ k_ ≠ gb313)) (by (with_reducible repeat (first | apply Kd.V_alloc | apply Kd.V_drewN | apply Kd.V_drew)); exact Kd.V_mono HO_314000.out (fun _ hk => ⟨⟨hk.1, ⟨hk.2.2.1, hk.2.2.2⟩⟩, hk.2.1⟩)) hg hat); have n2_ := Aside0.mk (Kd.V_afterv (ok := (fun k_ => ((P0_0_ k_ ∨ P0_1_ k_) ∨ w.heap.size ≤ k_) ∧ some k_ ≠ (.slice (some ad318) y315.length co10 : Value).ownBlock ∧ k_ ≠ gb313)) (by (with_reducible repeat (first | apply Kd.V_alloc | apply Kd.V_drewN | apply Kd.V_drew)); exact Kd.V_mono HO_314001.out (fun _ hk => ⟨⟨hk.1, ⟨hk.2.2.1, hk.2.2.2⟩⟩, hk.2.1⟩)) hg hat); have n9_ := Aside0.mk (Kd.V_afterv (ok := (fun _ => True)) (by (with_reducible repeat (first | apply Kd.V_alloc | apply Kd.V_drewN | apply Kd.V_drew)); exact Kd.V_mono HL318_0.out (fun _ hk => ⟨trivial, hk⟩)) hg hat); have n3_ := Aside0.mk (blk_grown (g := gb313) (o := .cells #[.slice A0_0 l0_0.length c0_0, .slice A0_1 l0_1.length c0_1] 36 (0, 0)) (bk_ BK313.out) hg (Kd.R_ne HO_4.out BK313.out (by decide))); have n4_ := Aside0.mk (hb); have n5_ := Aside0.mk (ho); clear HL318_0; clear HO_17; clear HO_314000; clear HO_314001; clear BK313; clear HB; clear HO_4; have HO_17 := n0_; have HO_314000 := n1_; have HO_314001 := n2_; have BK313 := n3_; have HB := n4_; have HO330 := n5_; have HL318_0 := n9_; clear n9_; clear n0_ n1_ n2_ n3_ n4_ n5_; clear ho hb hg hat))
                go_roundg k2
                case measure => have := HK1.out; have := HK2.out; omega
                case rel => exact ⟨(y328), (wrap64 (x36_2 + 1)), es_, H', ⟨by have := HK1.out; have := HK2.out; omega⟩, ⟨ra_ HO330.out⟩, ⟨by (with_reducible repeat (first | apply Kd.N_alloc | apply Kd.N_drewN | apply Kd.N_drew)); exact Kd.N_mono HO_17.out (fun _ hk => ⟨hk.1.1, ⟨hk.2, hk.1.2⟩⟩)⟩, ⟨by (with_reducible repeat (first | apply Kd.V_alloc | apply Kd.V_drewN | apply Kd.V_drew)); exact Kd.V_mono HO_314000.out (fun _ hk => ⟨hk.1.1, ⟨hk.2, ⟨hk.1.2.1, hk.1.2.2⟩⟩⟩)⟩, ⟨by (with_reducible repeat (first | apply Kd.V_alloc | apply Kd.V_drewN | apply Kd.V_drew)); exact Kd.V_mono HO_314001.out (fun _ hk => ⟨hk.1.1, ⟨hk.2, ⟨hk.1.2.1, hk.1.2.2⟩⟩⟩)⟩, ⟨by (with_reducible repeat (first | apply Kd.V_alloc | apply Kd.V_drewN | apply Kd.V_drew)); exact Kd.V_mono HL318_0.out (fun _ hk => by first | exact hk.2 | exact hk)⟩, ⟨bk_ BK313.out⟩, ⟨hb_⟩⟩
               ·rw [if_neg c33] at H
                exact absurd H (by simp)
             ·rw [if_neg c30] at H
              exact absurd H (by simp)
            ·rw [if_neg c29] at H
             exact absurd H (by simp)
           ·rw [if_neg c28] at H
            have c28b0 : decide (x36_2 < ((rd_L4 y315 x19_1).length : Int)) = false := decide_eq_false c28
            clear c28
            have H' := Aside0.mk H
            clear H
            go_wp2
            go_roundg k2
            case measure => have := HK1.out; have := HK2.out; omega
            case rel => exact ⟨(x4_2), (wrap64 (x19_1 + 1)), es_, H', ⟨by have := HK1.out; have := HK2.out; omega⟩, ⟨ra_ HO_4.out⟩, ⟨by (with_reducible repeat (first | apply Kd.N_alloc | apply Kd.N_drewN | apply Kd.N_drew)); exact HO_17.out⟩, ⟨by (with_reducible repeat (first | apply Kd.V_alloc | apply Kd.V_drewN | apply Kd.V_drew)); exact HO_314000.out⟩, ⟨by (with_reducible repeat (first | apply Kd.V_alloc | apply Kd.V_drewN | apply Kd.V_drew)); exact HO_314001.out⟩, ⟨bk_ BK313.out⟩, ⟨hb_⟩⟩
       ·rw [if_neg c13] at H
        exact absurd H (by simp)
      ·rw [if_neg c12] at H
       exact absurd H (by simp)
     ·rw [if_neg c11] at H
      have c11b0 : decide (x19_1 < (y315.length : Int)) = false := decide_eq_false c11
      clear c11
      replace H := Option.bind_eq_some_iff.mp H
      obtain ⟨t331, A350, H⟩ := H
      replace H : (if (t331.size : Int) > 200 then (some ((⟨#[]⟩ : ByteArray), false)) else (some (t331, true))) = some (r1, r2) := H
      have A35 := Aside0.mk A350
      clear A350
      by_cases c36 : (t331.size : Int) > 200
      ·rw [if_pos c36] at H
       have c36b0 : decide (200 < (t331.size : Int)) = true := decide_eq_true c36
       have c36b1 : decide (200 < t331.size) = true := decide_eq_true (by omega)
       clear c36
       simp only [Option.some.injEq, Prod.mk.injEq] at H
       obtain ⟨rfl, rfl⟩ := H
       obtain ⟨Ao37, co37, eo37⟩ := Kd.R_slice HO_4.out
       subst eo37
       go_wp2_with (first | ((with_reducible refine gate_callee (f := 76) rfl ?_); refine goesL_ (some 49) rfl rfl Tryd.func76 (by kernel_rfl) rfl #[.slice Ao37 x4_1.length co37, .string (⟨#[32]⟩ : ByteArray)] rfl ls_ ?_; (with_reducible refine (strings_Join.calls _ _ x4_1 (⟨#[32]⟩ : ByteArray) t331 _ ?side1 ?side2 A35.out).mono ?_); (case side1 => exact ca_ (Kd.R_reads' HO_4.out).2.2); (case side2 => exact (Kd.R_reads' HO_4.out).2.1); rintro e w38 ⟨rfl, hb⟩; refine ⟨_, rfl, ?_⟩; have n0_ := Aside0.mk (Kd.R_below (ra_ HO_4.out) hb); have n1_ := Aside0.mk (Kd.N_below (by (with_reducible repeat (first | apply Kd.N_alloc | apply Kd.N_drewN | apply Kd.N_drew)); exact HO_17.out) hb); have n2_ := Aside0.mk (Kd.V_below (by (with_reducible repeat (first | apply Kd.V_alloc | apply Kd.V_drewN | apply Kd.V_drew)); exact HO_314000.out) hb); have n3_ := Aside0.mk (Kd.V_below (by (with_reducible repeat (first | apply Kd.V_alloc | apply Kd.V_drewN | apply Kd.V_drew)); exact HO_314001.out) hb); have n4_ := bb_ BK313 hb; have n5_ := Aside0.mk (below_step hb_ hb); clear HO_4; clear HO_17; clear HO_314000; clear HO_314001; clear BK313; clear HB; have HO_4 := n0_; have HO_17 := n1_; have HO_314000 := n2_; have HO_314001 := n3_; have BK313 := n4_; have HB := n5_; clear n0_ n1_ n2_ n3_ n4_ n5_; (try clear hb); (try clear hb2); (try clear hk); (try clear hi)))
       go_ret2
       exact ⟨er_, hb_⟩
      ·rw [if_neg c36] at H
       have c36b0 : decide (200 < (t331.size : Int)) = false := decide_eq_false c36
       have c36b1 : decide (200 < t331.size) = false := decide_eq_false (by omega)
       clear c36
       simp only [Option.some.injEq, Prod.mk.injEq] at H
       obtain ⟨rfl, rfl⟩ := H
       obtain ⟨Ao39, co39, eo39⟩ := Kd.R_slice HO_4.out
       subst eo39
       go_wp2_with (first | ((with_reducible refine gate_callee (f := 76) rfl ?_); refine goesL_ (some 49) rfl rfl Tryd.func76 (by kernel_rfl) rfl #[.slice Ao39 x4_1.length co39, .string (⟨#[32]⟩ : ByteArray)] rfl ls_ ?_; (with_reducible refine (strings_Join.calls _ _ x4_1 (⟨#[32]⟩ : ByteArray) t331 _ ?side1 ?side2 A35.out).mono ?_); (case side1 => exact ca_ (Kd.R_reads' HO_4.out).2.2); (case side2 => exact (Kd.R_reads' HO_4.out).2.1); rintro e w40 ⟨rfl, hb⟩; refine ⟨_, rfl, ?_⟩; have n0_ := Aside0.mk (Kd.R_below (ra_ HO_4.out) hb); have n1_ := Aside0.mk (Kd.N_below (by (with_reducible repeat (first | apply Kd.N_alloc | apply Kd.N_drewN | apply Kd.N_drew)); exact HO_17.out) hb); have n2_ := Aside0.mk (Kd.V_below (by (with_reducible repeat (first | apply Kd.V_alloc | apply Kd.V_drewN | apply Kd.V_drew)); exact HO_314000.out) hb); have n3_ := Aside0.mk (Kd.V_below (by (with_reducible repeat (first | apply Kd.V_alloc | apply Kd.V_drewN | apply Kd.V_drew)); exact HO_314001.out) hb); have n4_ := bb_ BK313 hb; have n5_ := Aside0.mk (below_step hb_ hb); clear HO_4; clear HO_17; clear HO_314000; clear HO_314001; clear BK313; clear HB; have HO_4 := n0_; have HO_17 := n1_; have HO_314000 := n2_; have HO_314001 := n3_; have BK313 := n4_; have HB := n5_; clear n0_ n1_ n2_ n3_ n4_ n5_; (try clear hb); (try clear hb2); (try clear hk); (try clear hi)))
       go_ret2
       exact ⟨er_, hb_⟩
  ·replace c3 := Bool.eq_false_iff.mpr c3
   subst c3
   rw [if_neg (show ¬ (false = true) by decide)] at H
   simp only [Option.some.injEq, Prod.mk.injEq] at H
   obtain ⟨rfl, rfl⟩ := H
   go_enter Tryd.func35, Tryd.ntmps35
   go_wp2_with (first | ((with_reducible refine gate_dst (N := 1) rfl ?_); refine box_event ?hg (N := 1) ?hd (cs := #[.slice A0_0 l0_0.length c0_0, .slice A0_1 l0_1.length c0_1]) (t := 36) ?hr ?_; (case hd => rfl); (case hg => rfl); (case hr => first | (go_simp; done) | (go_simp; rfl)); intro gb313 hg w41 hbox hb; have n0_ := Aside0.mk (Kd.V_below (Kd.V_elderB (by (with_reducible repeat (first | apply Kd.V_alloc | apply Kd.V_drewN | apply Kd.V_drew)); exact HO0_0.out) gb313 (Nat.le_of_eq hg.symm)) hb); have n1_ := Aside0.mk (Kd.V_below (Kd.V_elderB (by (with_reducible repeat (first | apply Kd.V_alloc | apply Kd.V_drewN | apply Kd.V_drew)); exact HO0_1.out) gb313 (Nat.le_of_eq hg.symm)) hb); have n2_ := Aside0.mk (below_step hb_ hb); have n3_ := Aside0.mk (hbox); have n4_ : Aside0 (w.heap.size ≤ gb313) := gz_; have n5_ : Aside0 (w.heap.size ≤ gb313) := gz_; clear HO0_0; clear HO0_1; clear HB; have HO0_0 := n0_; have HO0_1 := n1_; have HB := n2_; have BK313 := n3_; have GW313 := n4_; have GE313 := n5_; clear n0_ n1_ n2_ n3_ n4_ n5_; clear hb hbox hg; have hcz42_0 : w41.cell? ⟨gb313, 0, none⟩ = some (.slice A0_0 l0_0.length c0_0) := (blk_cell BK313.out 0).trans rfl; have hcz42_1 : w41.cell? ⟨gb313, 1, none⟩ = some (.slice A0_1 l0_1.length c0_1) := (blk_cell BK313.out 1).trans rfl; have hfz42_0 := blk_frozen BK313.out 0; have hfz42_1 := blk_frozen BK313.out 1) | ((with_reducible refine gate_callee (f := 55) rfl ?_); refine goesL_ (some 11) rfl rfl Tryd.func55 (by kernel_rfl) rfl #[.agg #[.slice A0_0 l0_0.length c0_0, .slice A0_1 l0_1.length c0_1]] rfl ls_ ?_; (with_reducible refine (impl_goodWish.calls _ _ l0_0 _ _ l0_1 false _ ?side1 ?side2 ?side3 ?side4 A2.out).mono ?_); (case side1 => exact ca_ (Kd.V_reads' HO0_0.out).2.2); (case side2 => exact (Kd.V_reads' HO0_0.out).2.1); (case side3 => exact ca_ (Kd.V_reads' HO0_1.out).2.2); (case side4 => exact (Kd.V_reads' HO0_1.out).2.1); rintro e w43 ⟨rfl, hb⟩; refine ⟨_, rfl, ?_⟩; have n0_ := Aside0.mk (Kd.V_below (by (with_reducible repeat (first | apply Kd.V_alloc | apply Kd.V_drewN | apply Kd.V_drew)); exact HO0_0.out) hb); have n1_ := Aside0.mk (Kd.V_below (by (with_reducible repeat (first | apply Kd.V_alloc | apply Kd.V_drewN | apply Kd.V_drew)); exact HO0_1.out) hb); have n2_ := bb_ BK313 hb; have n3_ := Aside0.mk (below_step hb_ hb); clear HO0_0; clear HO0_1; clear BK313; clear HB; have HO0_0 := n0_; have HO0_1 := n1_; have BK313 := n2_; have HB := n3_; clear n0_ n1_ n2_ n3_; (try clear hb); (try clear hb2); (try clear hk); (try clear hi)))
   go_ret2
   exact ⟨er_, hb_⟩

end Go.Proofs.YtdihodboopeakaaDoor.Pr
-- Written by this session's own print (wip/tools/mkmp.py) out of the translation. Lean checks it.
namespace Go.Proofs.YtdihodboopeakaaDoor.Pr
open Go.RowKit Go.Proofs.YtdihodboopeakaaDoorW.PrintWords Go.Proofs.YtdihodboopeakaaDoorW.PrintLast Go.Proofs.YtdihodboopeakaaDoorW.PrintMore
attribute [local go_sem] max2_int min2_int max_two min_two max_three min_three max_four min_four   -- for this text's walks alone
set_option linter.unusedVariables false
set_option linter.unusedSimpArgs false

end Go.Proofs.YtdihodboopeakaaDoor.Pr
-- Written by this session's own print (wip/tools/mkmp.py) out of the translation. Lean checks it.
namespace Go.Proofs.YtdihodboopeakaaDoor.Pr
open Go.RowKit Go.Proofs.YtdihodboopeakaaDoorW.PrintWords Go.Proofs.YtdihodboopeakaaDoorW.PrintLast Go.Proofs.YtdihodboopeakaaDoorW.PrintMore
attribute [local go_sem] max2_int min2_int max_two min_two max_three min_three max_four min_four   -- for this text's walks alone
set_option linter.unusedVariables false
set_option linter.unusedSimpArgs false

end Go.Proofs.YtdihodboopeakaaDoor.Pr
-- Written by this session's own print (wip/tools/mkmp.py) out of the translation. Lean checks it.
namespace Go.Proofs.YtdihodboopeakaaDoor.Pr
open Go.RowKit Go.Proofs.YtdihodboopeakaaDoorW.PrintWords Go.Proofs.YtdihodboopeakaaDoorW.PrintLast Go.Proofs.YtdihodboopeakaaDoorW.PrintMore
attribute [local go_sem] max2_int min2_int max_two min_two max_three min_three max_four min_four   -- for this text's walks alone
set_option linter.unusedVariables false
set_option linter.unusedSimpArgs false

end Go.Proofs.YtdihodboopeakaaDoor.Pr
-- Written by this session's own print (wip/tools/mkmp.py) out of the translation. Lean checks it.
namespace Go.Proofs.YtdihodboopeakaaDoor.Pr
open Go.RowKit Go.Proofs.YtdihodboopeakaaDoorW.PrintWords Go.Proofs.YtdihodboopeakaaDoorW.PrintLast Go.Proofs.YtdihodboopeakaaDoorW.PrintMore
attribute [local go_sem] max2_int min2_int max_two min_two max_three min_three max_four min_four   -- for this text's walks alone
set_option linter.unusedVariables false
set_option linter.unusedSimpArgs false

end Go.Proofs.YtdihodboopeakaaDoor.Pr
-- Written by this session's own print (wip/tools/mkmp.py) out of the translation. Lean checks it.
namespace Go.Proofs.YtdihodboopeakaaDoor.Pr
open Go.RowKit Go.Proofs.YtdihodboopeakaaDoorW.PrintWords Go.Proofs.YtdihodboopeakaaDoorW.PrintLast Go.Proofs.YtdihodboopeakaaDoorW.PrintMore
attribute [local go_sem] max2_int min2_int max_two min_two max_three min_three max_four min_four   -- for this text's walks alone
set_option linter.unusedVariables false
set_option linter.unusedSimpArgs false

end Go.Proofs.YtdihodboopeakaaDoor.Pr
/- spec.ReadWish and impl.ReadWish by hand: what they compute, both the same. -/
namespace Go.Proofs.YtdihodboopeakaaDoor.Pr
open Go.RowKit Go.Proofs.YtdihodboopeakaaDoorW.PrintWords
/-- Where the word that goes on at k ends: behind the last byte, or at a blank. -/
def endFrom (s : ByteArray) : Nat → Nat → Nat
  | 0, k => k
  | f + 1, k => if k < s.size then (if s.get! k = 32 then k else endFrom s f (k + 1)) else k
def wordEnd (s : ByteArray) (i : Nat) : Nat := endFrom s (s.size - i) i
def isReach (t : ByteArray) : Bool := decide (t.toList = ([114, 101, 97, 99, 104] : List UInt8))
def isAvoid (t : ByteArray) : Bool := decide (t.toList = ([97, 118, 111, 105, 100] : List UInt8))
/-- What is read: the two lists, the fault's number and where it stands. -/
abbrev Rd := List ByteArray × List ByteArray × Int × Int
def badRd (code at_ : Int) : Rd := ([], [], code, at_)
/-- The rest from byte i on: part tells the list that is read (0 none, 1 reach, 2 avoid), many how many names stand behind its word (1 where there is none). -/
def rdFrom (s : ByteArray) : Nat → Nat → Nat → Nat → List ByteArray → List ByteArray → Rd
  | 0, _, _, many, R, A => if many = 0 then badRd 2 s.size else (R, A, 0, 0)
  | f + 1, i, part, many, R, A =>
    if i < s.size then
      (if s.get! i = 32 then rdFrom s f (i + 1) part many R A
      else if 0 ≤ oddOf (s.extract i (wordEnd s i)) then badRd 3 (i + oddOf (s.extract i (wordEnd s i)))
      else if isReach (s.extract i (wordEnd s i)) = true then (if 1 ≤ part ∨ many = 0 then badRd 1 i else rdFrom s f (wordEnd s i) 1 0 R A)
      else if isAvoid (s.extract i (wordEnd s i)) = true then (if 2 ≤ part ∨ many = 0 then badRd 1 i else rdFrom s f (wordEnd s i) 2 0 R A)
      else if part = 0 then badRd 1 i
      else if 12 < Lib.runeCount (s.extract i (wordEnd s i)) ∨ many = 6 then badRd 2 i
      else if part = 2 then (if inB A (s.extract i (wordEnd s i)) = true then badRd 4 i else rdFrom s f (wordEnd s i) part (many + 1) R (A ++ [s.extract i (wordEnd s i)]))
      else (if inB R (s.extract i (wordEnd s i)) = true then badRd 4 i else rdFrom s f (wordEnd s i) part (many + 1) (R ++ [s.extract i (wordEnd s i)]) A))
    else (if many = 0 then badRd 2 s.size else (R, A, 0, 0))
def readOf (s : ByteArray) : Rd := if 200 < s.size then badRd 5 0 else rdFrom s s.size 0 0 1 [] []

def impl_ReadWish.f (s : ByteArray) : Option Rd := if s.size ≤ 1048576 then some (readOf s) else none
end Go.Proofs.YtdihodboopeakaaDoor.Pr
-- Written by this session's own print (wip/tools/mkmp.py) out of the translation. Lean checks it.
namespace Go.Proofs.YtdihodboopeakaaDoor.Pr
open Go.RowKit Go.Proofs.YtdihodboopeakaaDoorW.PrintWords Go.Proofs.YtdihodboopeakaaDoorW.PrintLast Go.Proofs.YtdihodboopeakaaDoorW.PrintMore
attribute [local go_sem] max2_int min2_int max_two min_two max_three min_three max_four min_four   -- for this text's walks alone
set_option linter.unusedVariables false
set_option linter.unusedSimpArgs false

/-! ### laws_eqWishRead: function 31 -/
/-! ### laws_markText: function 90 -/
/-! ### laws_markStringS: function 60 -/
/-! ### laws_markWish: function 22 -/
/-! ### laws_markWishRead: function 32 -/
/-! ### laws_heldStringS: function 96 -/
/-! ### laws_heldWish: function 75 -/
/-! ### laws_heldWishRead: function 33 -/
/-! ### laws_FnExactReadWish: function 6 -/
/-- A state of type 99 at block g of W; what its slices lead to came in by w0. -/
def IsS99 (w0 W : World) (g : Nat) (f0 : List Int) (f1 : Int) (f2 : Int) : Prop := ∃ A0 c0, W.heap[g]? = some (.cells #[.slice A0 f0.length c0, .int .i64 f1, .int .u64 f2] 99 (0, 0)) ∧ w0.heap.size ≤ g ∧ Kd.C (Kd.int .u8) w0 A0 f0.length f0
theorem IsS99.grown {w0 W : World} {g : Nat} {f0 : List Int} {f1 : Int} {f2 : Int} {W1 : World} {row : Option Nat} (h : IsS99 w0 W g f0 f1 f2) (hw : W.grownBy W1 row) (hne : some g ≠ row) : IsS99 w0 W1 g f0 f1 f2 := by
  obtain ⟨A0, c0, hb, hg, hr0⟩ := h
  exact ⟨A0, c0, blk_grown hb hw hne, hg, hr0⟩
theorem IsS99.kept {w0 W : World} {g : Nat} {f0 : List Int} {f1 : Int} {f2 : Int} {W1 : World} {S : Nat → Prop} (h : IsS99 w0 W g f0 f1 f2) (hk : Kept W W1 S) (hne : ¬ S g) : IsS99 w0 W1 g f0 f1 f2 := by
  obtain ⟨A0, c0, hb, hg, hr0⟩ := h
  exact ⟨A0, c0, blk_kept hb hk hne, hg, hr0⟩
theorem IsS99.below {w0 W : World} {g : Nat} {f0 : List Int} {f1 : Int} {f2 : Int} {W1 : World} (h : IsS99 w0 W g f0 f1 f2) (hw : Below W.heap.size W W1) : IsS99 w0 W1 g f0 f1 f2 := h.grown (grown_of_below hw none) (by simp)
theorem IsS99.alloc {w0 W : World} {g : Nat} {f0 : List Int} {f1 : Int} {f2 : Int} (h : IsS99 w0 W g f0 f1 f2) (o : Obj) : IsS99 w0 (W.alloc o) g f0 f1 f2 := h.below (below_alloc (Below.refl _ _) o)
theorem IsS99.drewN {w0 W : World} {g : Nat} {f0 : List Int} {f1 : Int} {f2 : Int} (h : IsS99 w0 W g f0 f1 f2) (m : Nat) : IsS99 w0 (W.drewN m) g f0 f1 f2 := h
theorem IsS99.drew {w0 W : World} {g : Nat} {f0 : List Int} {f1 : Int} {f2 : Int} (h : IsS99 w0 W g f0 f1 f2) : IsS99 w0 W.drew g f0 f1 f2 := h
theorem IsS99.at_ {w0 W : World} {g : Nat} {f0 : List Int} {f1 : Int} {f2 : Int} {w' : World} {m : Nat} (hq : W.drewN m = w') (h : IsS99 w0 W g f0 f1 f2) : IsS99 w0 w' g f0 f1 f2 := by subst hq; exact IsS99.drewN h m
theorem IsS99.apart {w0 W : World} {g : Nat} {f0 : List Int} {f1 : Int} {f2 : Int} {α : Type} {d : Kd α} {e : Nat} {base : Nat} {ok : Nat → Prop} {v : Value} {xs : List α} (h : IsS99 w0 W g f0 f1 f2) (ho : d.R e W base ok v xs) (ht : ∀ q, q ∈ e :: d.E → q ≠ 99) : d.R e W base (fun k => ok k ∧ k ≠ g) v xs := by
  obtain ⟨A0, c0, hb, hg, hr0⟩ := h
  exact Kd.R_types ho hb ht
theorem IsS99.own_ne {w0 W : World} {g : Nat} {f0 : List Int} {f1 : Int} {f2 : Int} {α : Type} {d : Kd α} {e : Nat} {base : Nat} {ok : Nat → Prop} {v : Value} {xs : List α} (h : IsS99 w0 W g f0 f1 f2) (ho : d.R e W base ok v xs) (ht : e ≠ 99) : some g ≠ v.ownBlock := by
  obtain ⟨A0, c0, hb, hg, hr0⟩ := h
  exact Kd.R_ne ho hb ht
theorem IsS99.lt {w0 W : World} {g : Nat} {f0 : List Int} {f1 : Int} {f2 : Int} (h : IsS99 w0 W g f0 f1 f2) : g < W.heap.size := by
  obtain ⟨A0, c0, hb, hg, hr0⟩ := h
  exact blk_lt hb
theorem IsS99.ge {w0 W : World} {g : Nat} {f0 : List Int} {f1 : Int} {f2 : Int} (h : IsS99 w0 W g f0 f1 f2) : w0.heap.size ≤ g := by
  obtain ⟨A0, c0, hb, hg, hr0⟩ := h
  exact hg
theorem IsS99.far {w0 W : World} {g : Nat} {f0 : List Int} {f1 : Int} {f2 : Int} {p : Addr} (h : IsS99 w0 W g f0 f1 f2) (hne : g ≠ p.block) (u : Value) : IsS99 w0 (W.setCell p u) g f0 f1 f2 := by
  obtain ⟨A0, c0, hb, hg, hr0⟩ := h
  exact ⟨A0, c0, blk_far hb hne u, hg, hr0⟩
theorem cellS99_0 {W : World} {g : Nat} {A0 : Option Addr} {c0 : Nat} {f0 : List Int} {f1 : Int} {f2 : Int} (h : W.heap[g]? = some (.cells #[.slice A0 f0.length c0, .int .i64 f1, .int .u64 f2] 99 (0, 0))) : W.cell? ⟨g, 0, none⟩ = some (.slice A0 f0.length c0) := (blk_cell h 0).trans rfl
theorem cellS99_1 {W : World} {g : Nat} {A0 : Option Addr} {c0 : Nat} {f0 : List Int} {f1 : Int} {f2 : Int} (h : W.heap[g]? = some (.cells #[.slice A0 f0.length c0, .int .i64 f1, .int .u64 f2] 99 (0, 0))) : W.cell? ⟨g, 1, none⟩ = some (.int .i64 f1) := (blk_cell h 1).trans rfl
theorem IsS99.set_1 {w0 W : World} {g : Nat} {f0 : List Int} {f1 : Int} {f2 : Int} (h : IsS99 w0 W g f0 f1 f2) (x : Int) : IsS99 w0 (W.setCell ⟨g, 1, none⟩ (.int .i64 x)) g f0 x f2 := by
  obtain ⟨A0, c0, hb, hg, hr0⟩ := h
  exact ⟨A0, c0, by simpa using blk_set hb 1 (.int .i64 x), hg, hr0⟩
theorem cellS99_2 {W : World} {g : Nat} {A0 : Option Addr} {c0 : Nat} {f0 : List Int} {f1 : Int} {f2 : Int} (h : W.heap[g]? = some (.cells #[.slice A0 f0.length c0, .int .i64 f1, .int .u64 f2] 99 (0, 0))) : W.cell? ⟨g, 2, none⟩ = some (.int .u64 f2) := (blk_cell h 2).trans rfl
theorem IsS99.set_2 {w0 W : World} {g : Nat} {f0 : List Int} {f1 : Int} {f2 : Int} (h : IsS99 w0 W g f0 f1 f2) (x : Int) : IsS99 w0 (W.setCell ⟨g, 2, none⟩ (.int .u64 x)) g f0 f1 x := by
  obtain ⟨A0, c0, hb, hg, hr0⟩ := h
  exact ⟨A0, c0, by simpa using blk_set hb 2 (.int .u64 x), hg, hr0⟩
theorem IsS99.new (w0 W : World) (A0 : Option Addr) (c0 : Nat) (f0 : List Int) (f1 : Int) (f2 : Int) (hB : Below w0.heap.size w0 W) (hr0 : Kd.C (Kd.int .u8) w0 A0 f0.length f0) : IsS99 w0 (W.alloc (.cells #[.slice A0 f0.length c0, .int .i64 f1, .int .u64 f2] 99)) W.heap.size f0 f1 f2 := ⟨A0, c0, by simpa using heap_alloc_new W _, hB.size, hr0⟩

/-! ### spec_l1Cur_next: function 102 -/
def spec_l1Cur_next.f (s0_0 : List Int) (s0_1 : Int) (s0_2 : Int) : Option (Int × Int × Int) := if s0_1 < (s0_0.length : Int) then (if 0 ≤ s0_1 then (if (wrap64 (s0_1 + 1)) ≤ (s0_0.length : Int) then (some (wrap64 (rd s0_0 s0_1), wrap64 (s0_1 + 1), IntKind.u64.wrap ((IntKind.u64.wrap ((IntKind.u64.wrap (s0_2 * 6364136223846793005)) + (IntKind.u64.wrap (wrap64 (rd s0_0 s0_1))))) + 1442695040888963407))) else (some (wrap64 (Go.bits .and .u64 ((IntKind.u64.wrap ((IntKind.u64.wrap ((IntKind.u64.wrap (s0_2 * 6364136223846793005)) + (IntKind.u64.wrap (wrap64 (rd s0_0 s0_1))))) + 1442695040888963407)) / 1099511627776) 255), wrap64 (s0_1 + 1), IntKind.u64.wrap ((IntKind.u64.wrap ((IntKind.u64.wrap (s0_2 * 6364136223846793005)) + (IntKind.u64.wrap (wrap64 (rd s0_0 s0_1))))) + 1442695040888963407)))) else (none)) else (if (wrap64 (s0_1 + 1)) ≤ (s0_0.length : Int) then (some (0, wrap64 (s0_1 + 1), IntKind.u64.wrap ((IntKind.u64.wrap ((IntKind.u64.wrap (s0_2 * 6364136223846793005)) + 0)) + 1442695040888963407))) else (some (wrap64 (Go.bits .and .u64 ((IntKind.u64.wrap ((IntKind.u64.wrap ((IntKind.u64.wrap (s0_2 * 6364136223846793005)) + 0)) + 1442695040888963407)) / 1099511627776) 255), wrap64 (s0_1 + 1), IntKind.u64.wrap ((IntKind.u64.wrap ((IntKind.u64.wrap (s0_2 * 6364136223846793005)) + 0)) + 1442695040888963407))))

/-! ### spec_l1Cur_pick: function 82 -/
def spec_l1Cur_pick.f (s0_0 : List Int) (s0_1 : Int) (s0_2 : Int) (a1 : Int) : Option (Int × Int × Int) := if a1 ≤ 1 then (some (0, s0_1, s0_2)) else ((spec_l1Cur_next.f s0_0 s0_1 s0_2).bind fun bt514 => (if a1 > 200 then ((spec_l1Cur_next.f s0_0 bt514.2.1 bt514.2.2).bind fun bt517 => (if a1 = 0 then (none) else (some (Int.tmod (wrap64 ((wrap64 (bt514.1 * 256)) + bt517.1)) a1, bt517.2.1, bt517.2.2)))) else (if a1 = 0 then (none) else (some (Int.tmod bt514.1 a1, bt514.2.1, bt514.2.2)))))

/-! ### spec_l1Cur_of: function 84 -/
def spec_l1Cur_of.f (s0_0 : List Int) (s0_1 : Int) (s0_2 : Int) (l1 : List ByteArray) : Option (ByteArray × Int × Int) := (spec_l1Cur_pick.f s0_0 s0_1 s0_2 (l1.length : Int)).bind fun bt520 => (if 0 ≤ bt520.1 then (if bt520.1 < (l1.length : Int) then (some (rdOf ByteArray.empty l1 bt520.1, bt520.2.1, bt520.2.2)) else (none)) else (none))

/-! ### spec_l1Cur_name: function 107 -/
def spec_l1Cur_name.f (s0_0 : List Int) (s0_1 : Int) (s0_2 : Int) : Option (ByteArray × Int × Int) := (spec_l1Cur_of.f s0_0 s0_1 s0_2 (([(⟨#[100, 111, 99, 107]⟩ : ByteArray), (⟨#[104, 97, 108, 108]⟩ : ByteArray), (⟨#[112, 105, 116]⟩ : ByteArray), (⟨#[108, 97, 98]⟩ : ByteArray), (⟨#[84, 195, 188, 114]⟩ : ByteArray), (⟨#[206, 182]⟩ : ByteArray), (⟨#[208, 188, 208, 190, 209, 129, 209, 130]⟩ : ByteArray), (⟨#[97]⟩ : ByteArray), (⟨#[230, 151, 165, 230, 156, 172]⟩ : ByteArray), (⟨#[97, 98, 99, 100, 101, 102, 103, 104, 105, 106, 107, 108]⟩ : ByteArray), (⟨#[108, 105, 102, 116]⟩ : ByteArray)] : List ByteArray))).bind fun bt527 => (some (bt527.1, bt527.2.1, bt527.2.2))

/-! ### spec_l1Cur_one: function 108 -/
def spec_l1Cur_one.f (s0_0 : List Int) (s0_1 : Int) (s0_2 : Int) (a1 : Int) : Option (Bool × Int × Int) := (spec_l1Cur_pick.f s0_0 s0_1 s0_2 a1).bind fun bt530 => (some ((bt530.1 == 0), bt530.2.1, bt530.2.2))

/-! ### spec_l1Cur_names: function 101 -/
def spec_l1Cur_names.l0 : Nat → List ByteArray → Int → List Int → Int → Int → Option (List ByteArray × Int × Int)
  | 0, _, _, _, _, _ => none
  | k + 1, x3, x4, x1000, x1001, x1002 => if x4 > 0 then ((spec_l1Cur_name.f x1000 x1001 x1002).bind fun bt536 => ((spec_l22In.f k x3 bt536.1).bind fun t539 => (if t539 = true then ((spec_l1Cur_one.f x1000 bt536.2.1 bt536.2.2 16).bind fun bt540 => (if bt540.1 = true then (if x3.length < 8796093022208 then (spec_l1Cur_names.l0 k (x3 ++ [bt536.1]) (wrap64 (x4 - 1)) x1000 bt540.2.1 bt540.2.2) else (none)) else (spec_l1Cur_names.l0 k x3 (wrap64 (x4 - 1)) x1000 bt540.2.1 bt540.2.2))) else (if x3.length < 8796093022208 then (spec_l1Cur_names.l0 k (x3 ++ [bt536.1]) (wrap64 (x4 - 1)) x1000 bt536.2.1 bt536.2.2) else (none))))) else ((spec_l1Cur_pick.f x1000 x1001 x1002 30).bind fun bt549 => (if bt549.1 = 0 then ((spec_l1Cur_of.f x1000 bt549.2.1 bt549.2.2 (([(⟨#[]⟩ : ByteArray), (⟨#[97, 32, 98]⟩ : ByteArray), (⟨#[97, 98, 99, 100, 101, 102, 103, 104, 105, 106, 107, 108, 109]⟩ : ByteArray), (⟨#[120, 49]⟩ : ByteArray), (⟨#[114, 101, 97, 99, 104]⟩ : ByteArray), (⟨#[97, 118, 111, 105, 100]⟩ : ByteArray), (⟨#[255]⟩ : ByteArray), (⟨#[206, 182, 206, 182, 206, 182, 206, 182, 206, 182, 206, 182, 206, 182, 206, 182, 206, 182, 206, 182, 206, 182, 206, 182]⟩ : ByteArray), (⟨#[206, 182, 206, 182, 206, 182, 206, 182, 206, 182, 206, 182, 206, 182, 206, 182, 206, 182, 206, 182, 206, 182, 206, 182, 206, 182]⟩ : ByteArray)] : List ByteArray))).bind fun bt555 => (if x3.length < 8796093022208 then (some ((x3 ++ [bt555.1]), bt555.2.1, bt555.2.2)) else (none))) else (if bt549.1 = 1 then ((some (([(⟨#[112]⟩ : ByteArray), (⟨#[113]⟩ : ByteArray), (⟨#[114]⟩ : ByteArray), (⟨#[115]⟩ : ByteArray), (⟨#[116]⟩ : ByteArray), (⟨#[117]⟩ : ByteArray)] : List ByteArray) : List ByteArray)).bind fun y561 => (if x3.length + y561.length < 8796093022208 then (some ((x3 ++ y561), bt549.2.1, bt549.2.2)) else (none))) else (some (x3, bt549.2.1, bt549.2.2)))))
def spec_l1Cur_names.f (k : Nat) (s0_0 : List Int) (s0_1 : Int) (s0_2 : Int) : Option (List ByteArray × Int × Int) := (spec_l1Cur_pick.f s0_0 s0_1 s0_2 4).bind fun bt533 => (spec_l1Cur_names.l0 k ([] : List ByteArray) bt533.1 s0_0 bt533.2.1 bt533.2.2)
/-! ### spec_l1Cur_wish: function 80 -/
def spec_l1Cur_wish.f (k : Nat) (s0_0 : List Int) (s0_1 : Int) (s0_2 : Int) : Option (List ByteArray × List ByteArray × Int × Int) := (spec_l1Cur_names.f k s0_0 s0_1 s0_2).bind fun bt568 => ((spec_l1Cur_names.f k s0_0 bt568.2.1 bt568.2.2).bind fun bt573 => (some (bt568.1, bt573.1, bt573.2.1, bt573.2.2)))
/-! ### spec_DrawWriteWish: function 41 -/
def spec_DrawWriteWish.f (k : Nat) (l0 : List Int) : Option (List ByteArray × List ByteArray) := (spec_l1Cur_wish.f k l0 0 0).bind fun bt580 => (some (bt580.1, bt580.2.1))
/-! ### spec_l7SameList: function 81 -/
def spec_l7SameList.l0 : Nat → List ByteArray → List ByteArray → Int → Int → Option (Bool)
  | 0, _, _, _, _ => none
  | k + 1, x0, x1, x12, x13 => if x13 < x12 then (if 0 ≤ x13 then (if x13 < (x0.length : Int) then (if x13 < (x1.length : Int) then (if (rdOf ByteArray.empty x0 x13).toList = (rdOf ByteArray.empty x1 x13).toList then (spec_l7SameList.l0 k x0 x1 x12 (wrap64 (x13 + 1))) else (some false)) else (none)) else (none)) else (none)) else (some true)
def spec_l7SameList.f (k : Nat) (l0 : List ByteArray) (l1 : List ByteArray) : Option (Bool) := if (l0.length : Int) = (l1.length : Int) then (spec_l7SameList.l0 k l0 l1 (l0.length : Int) 0) else (some false)
/-! ### spec_SameTexts: function 42 -/
def spec_SameTexts.f (k : Nat) (l0 : List ByteArray) (l1 : List ByteArray) : Option (Bool) := (spec_l7SameList.f k l0 l1).bind fun t590 => (some t590)
/-! ### spec_l1Cur_spoilt: function 83 -/
mutual
def spec_l1Cur_spoilt.l0 : Nat → ByteArray → ByteArray → Int → List Int → Int → Int → Option (ByteArray × Int × Int)
  | 0, _, _, _, _, _, _ => none
  | k + 1, x1, x2, x7, x1000, x1001, x1002 => if x7 > 0 then (spec_l1Cur_spoilt.j1 k x1 x2 x7 (decide ((x1.size : Int) > 0)) x1000 x1001 x1002) else (spec_l1Cur_spoilt.j1 k x1 x2 x7 false x1000 x1001 x1002)
def spec_l1Cur_spoilt.j1 : Nat → ByteArray → ByteArray → Int → Bool → List Int → Int → Int → Option (ByteArray × Int × Int)
  | 0, _, _, _, _, _, _, _ => none
  | k + 1, x1, x2, x7, x18, x1000, x1001, x1002 => if x18 = true then ((spec_l1Cur_pick.f x1000 x1001 x1002 (x1.size : Int)).bind fun bt594 => ((spec_l1Cur_pick.f x1000 bt594.2.1 bt594.2.2 (x2.size : Int)).bind fun bt597 => (if 0 ≤ bt597.1 then (if bt597.1 < (x2.size : Int) then ((some (([bt x2 bt597.1] : List Int) : List Int)).bind fun y600 => ((spec_l1Cur_pick.f x1000 bt597.2.1 bt597.2.2 3).bind fun bt603 => (if bt603.1 = 0 then (if 0 ≤ bt594.1 then (if bt594.1 ≤ (x1.size : Int) then (if (x1.extract 0 (bt594.1 : Int).toNat).size + (strOfNums y600).size ≤ 9223372036854775807 then (if ((x1.extract 0 (bt594.1 : Int).toNat) ++ (strOfNums y600)).size + (x1.extract (bt594.1 : Int).toNat x1.size).size ≤ 9223372036854775807 then (spec_l1Cur_spoilt.l0 k (((x1.extract 0 (bt594.1 : Int).toNat) ++ (strOfNums y600)) ++ (x1.extract (bt594.1 : Int).toNat x1.size)) x2 (wrap64 (x7 - 1)) x1000 bt603.2.1 bt603.2.2) else (none)) else (none)) else (none)) else (none)) else (if bt603.1 = 1 then (if 0 ≤ bt594.1 then (if bt594.1 ≤ (x1.size : Int) then (if (x1.extract 0 (bt594.1 : Int).toNat).size + (strOfNums y600).size ≤ 9223372036854775807 then (if 0 ≤ (wrap64 (bt594.1 + 1)) then (if (wrap64 (bt594.1 + 1)) ≤ (x1.size : Int) then (if ((x1.extract 0 (bt594.1 : Int).toNat) ++ (strOfNums y600)).size + (x1.extract ((wrap64 (bt594.1 + 1)) : Int).toNat x1.size).size ≤ 9223372036854775807 then (spec_l1Cur_spoilt.l0 k (((x1.extract 0 (bt594.1 : Int).toNat) ++ (strOfNums y600)) ++ (x1.extract ((wrap64 (bt594.1 + 1)) : Int).toNat x1.size)) x2 (wrap64 (x7 - 1)) x1000 bt603.2.1 bt603.2.2) else (none)) else (none)) else (none)) else (none)) else (none)) else (none)) else (if 0 ≤ bt594.1 then (if bt594.1 ≤ (x1.size : Int) then (if 0 ≤ (wrap64 (bt594.1 + 1)) then (if (wrap64 (bt594.1 + 1)) ≤ (x1.size : Int) then (if (x1.extract 0 (bt594.1 : Int).toNat).size + (x1.extract ((wrap64 (bt594.1 + 1)) : Int).toNat x1.size).size ≤ 9223372036854775807 then (spec_l1Cur_spoilt.l0 k ((x1.extract 0 (bt594.1 : Int).toNat) ++ (x1.extract ((wrap64 (bt594.1 + 1)) : Int).toNat x1.size)) x2 (wrap64 (x7 - 1)) x1000 bt603.2.1 bt603.2.2) else (none)) else (none)) else (none)) else (none)) else (none)))))) else (none)) else (none)))) else (some (x1, x1001, x1002))
end
def spec_l1Cur_spoilt.f (k : Nat) (s0_0 : List Int) (s0_1 : Int) (s0_2 : Int) (a1 : ByteArray) (a2 : ByteArray) : Option (ByteArray × Int × Int) := (spec_l1Cur_pick.f s0_0 s0_1 s0_2 3).bind fun bt591 => (spec_l1Cur_spoilt.l0 k a1 a2 bt591.1 s0_0 bt591.2.1 bt591.2.2)
/-! ### spec_DrawReadWish: function 43 -/
def spec_DrawReadWish.l0 : Nat → ByteArray → Int → Option (ByteArray)
  | 0, _, _ => none
  | k + 1, x4, x6 => if (x4.size : Int) < x6 then (if x4.size + 1 ≤ 9223372036854775807 then (spec_DrawReadWish.l0 k (x4 ++ (⟨#[32]⟩ : ByteArray)) x6) else (none)) else (some x4)
def spec_DrawReadWish.f (k : Nat) (l0 : List Int) : Option (ByteArray) := (spec_l1Cur_wish.f k l0 0 0).bind fun bt607 => ((spec_WriteWish.f k bt607.1 bt607.2.1).bind fun bt615 => ((spec_l1Cur_pick.f l0 bt607.2.2.1 bt607.2.2.2 8).bind fun bt617 => (if bt617.1 = 0 then ((spec_l1Cur_spoilt.f k l0 bt617.2.1 bt617.2.2 bt615.1 (⟨#[32, 114, 101, 97, 99, 104, 118, 111, 105, 100, 195, 188, 255, 49]⟩ : ByteArray)).bind fun bt620 => (some bt620.1)) else (if bt617.1 = 1 then ((spec_l1Cur_of.f l0 bt617.2.1 bt617.2.2 (([(⟨#[114, 101, 97, 99, 104]⟩ : ByteArray), (⟨#[97, 118, 111, 105, 100]⟩ : ByteArray), (⟨#[114, 101, 97, 99, 104, 32, 97, 118, 111, 105, 100, 32, 97]⟩ : ByteArray), (⟨#[97, 118, 111, 105, 100, 32, 97, 32, 114, 101, 97, 99, 104, 32, 98]⟩ : ByteArray), (⟨#[114, 101, 97, 99, 104, 32, 97, 32, 114, 101, 97, 99, 104, 32, 98]⟩ : ByteArray), (⟨#[97]⟩ : ByteArray), (⟨#[32, 32, 114, 101, 97, 99, 104, 32, 32, 32, 97, 32, 32]⟩ : ByteArray), (⟨#[114, 101, 97, 99, 104, 32, 97, 32, 97]⟩ : ByteArray), (⟨#[114, 101, 97, 99, 104, 32, 97, 32, 97, 118, 111, 105, 100]⟩ : ByteArray), (⟨#[114, 101, 97, 99, 104, 32, 97, 32, 97, 118, 111, 105, 100, 32, 97]⟩ : ByteArray), (⟨#[97, 118, 111, 105, 100, 32, 98, 32, 97, 118, 111, 105, 100, 32, 99]⟩ : ByteArray), (⟨#[114, 101, 97, 99, 104, 32, 97, 32, 98, 32, 99, 32, 100, 32, 101, 32, 102, 32, 103]⟩ : ByteArray), (⟨#[114, 101, 97, 99, 104, 32, 97, 98, 99, 100, 101, 102, 103, 104, 105, 106, 107, 108, 109]⟩ : ByteArray), (⟨#[114, 101, 97, 99, 104, 32, 206]⟩ : ByteArray), (⟨#[114, 101, 97, 99, 104, 32, 97, 49]⟩ : ByteArray), (⟨#[114, 101, 97, 99, 104, 32, 237, 160, 128]⟩ : ByteArray), (⟨#[114, 101, 97, 99, 104, 32, 97, 32, 97, 118, 111, 105, 100, 32, 244, 143, 191, 191]⟩ : ByteArray)] : List ByteArray))).bind fun bt626 => (some bt626.1)) else (if bt617.1 = 2 then ((spec_l1Cur_pick.f l0 bt617.2.1 bt617.2.2 3).bind fun bt629 => (spec_DrawReadWish.l0 k bt615.1 (wrap64 (199 + bt629.1)))) else (some bt615.1))))))
/-! ### laws_FnWish: function 10 -/
mutual
def laws_FnWish.j0 : Nat → List Int → List Int → Bool → Option (Bool)
  | 0, _, _, _ => none
  | k + 1, x0, x1, x22 => if x22 = true then (some true) else ((spec_DrawWriteWish.f k x0).bind fun bt632 => ((impl_WriteWish.f k bt632.1 bt632.2).bind fun bt639 => ((spec_WriteWish.f k bt632.1 bt632.2).bind fun bt641 => (if (bt639.2 != bt641.2) = true then (some false) else ((impl_ReadWish.f bt639.1).bind fun bt643 => (if bt639.2 = true then (if bt643.2.2.1 = 0 then ((spec_SameTexts.f k bt643.1 bt632.1).bind fun t652 => (if t652 = true then ((spec_SameTexts.f k bt643.2.1 bt632.2).bind fun t653 => (laws_FnWish.j1 k x1 (!t653))) else (laws_FnWish.j1 k x1 true))) else (laws_FnWish.j1 k x1 true)) else (laws_FnWish.j1 k x1 false)))))))
def laws_FnWish.j1 : Nat → List Int → Bool → Option (Bool)
  | 0, _, _ => none
  | k + 1, x1, x63 => if x63 = true then (some false) else ((spec_DrawReadWish.f k x1).bind fun t654 => ((impl_ReadWish.f t654).bind fun bt655 => (if bt655.2.2.1 = 0 then ((impl_WriteWish.f k bt655.1 bt655.2.1).bind fun bt664 => ((impl_ReadWish.f bt664.1).bind fun bt666 => (if bt664.2 = true then (if bt666.2.2.1 = 0 then ((spec_SameTexts.f k bt666.1 bt655.1).bind fun t675 => (if t675 = true then ((spec_SameTexts.f k bt666.2.1 bt655.2.1).bind fun t676 => (some t676)) else (some false))) else (some false)) else (some false)))) else (if (bt655.1.length : Int) = 0 then (some ((bt655.2.1.length : Int) == 0)) else (some false)))))
end
def laws_FnWish.f (k : Nat) (l0 : List Int) (l1 : List Int) : Option (Bool) := if (l0.length : Int) > 1048576 then (laws_FnWish.j0 k l0 l1 true) else (laws_FnWish.j0 k l0 l1 (decide ((l1.length : Int) > 1048576)))
end Go.Proofs.YtdihodboopeakaaDoor.Pr
-- Written by this session's own print (wip/tools/mkmp.py) out of the translation. Lean checks it.
namespace Go.Proofs.YtdihodboopeakaaDoor.Pr
open Go.RowKit Go.Proofs.YtdihodboopeakaaDoorW.PrintWords Go.Proofs.YtdihodboopeakaaDoorW.PrintLast Go.Proofs.YtdihodboopeakaaDoorW.PrintMore
attribute [local go_sem] max2_int min2_int max_two min_two max_three min_three max_four min_four   -- for this text's walks alone
set_option linter.unusedVariables false
set_option linter.unusedSimpArgs false

end Go.Proofs.YtdihodboopeakaaDoor.Pr
-- Written by this session's own print (wip/tools/mkmp.py) out of the translation. Lean checks it.
namespace Go.Proofs.YtdihodboopeakaaDoor.Pr
open Go.RowKit Go.Proofs.YtdihodboopeakaaDoorW.PrintWords Go.Proofs.YtdihodboopeakaaDoorW.PrintLast Go.Proofs.YtdihodboopeakaaDoorW.PrintMore
attribute [local go_sem] max2_int min2_int max_two min_two max_three min_three max_four min_four   -- for this text's walks alone
set_option linter.unusedVariables false
set_option linter.unusedSimpArgs false

end Go.Proofs.YtdihodboopeakaaDoor.Pr
/-
  DERIVED: THE SHELF's CONTRACTS AT THIS DUMP, IN PLAIN WORDS (tools/lay-plain.mjs out of 'YtdihodboopeakaaDoorSxc.lean', which tools/lay-shelf.mjs wrote): THE SAME DECLARATIONS UNDER THE SAME NAMES: 'import', 'namespace', 'open', 'def', 'theorem' AND NOTHING ELSE: no command of the shelf's: FOR A HAND-IN. Each laying: the table of numbers ('.._ren') and one theorem, a field a fact of the dump's own or the kernel's comparison; each contract: ONE APPLICATION.
-/
namespace Go.Proofs
open Go.Shelf
def Tryd.laysM316_ren : Go.Shelf.Ren := ⟨fun | 316 => 95 | n => n, fun | 9 => 9 | 3 => 3 | 4 => 4 | 37 => 62 | 0 => 0 | 127 => 124 | 5 => 5 | n => n, fun | n => n⟩
theorem Tryd.laysM316 : Go.Proofs.LaysM.n316 Tryd.prog Tryd.laysM316_ren := {
  mixed := by kernel_rfl
  f316 := Tryd.func95.trans (congrArg some (by kernel_rfl))
  t0 := Tryd.underlying0
  a0 := Tryd.isAgg0
  z0 := Tryd.sizeOf0
  v0 := Tryd.zeroValue0
  t3 := Tryd.underlying3
  a3 := Tryd.isAgg3
  z3 := Tryd.sizeOf3
  v3 := Tryd.zeroValue3
  t4 := Tryd.underlying4
  a4 := Tryd.isAgg4
  z4 := Tryd.sizeOf4
  v4 := Tryd.zeroValue4
  t9 := Tryd.underlying9
  a9 := Tryd.isAgg9
  z9 := Tryd.sizeOf9
  v9 := Tryd.zeroValue9
  t37 := Tryd.underlying62
  a37 := Tryd.isAgg62
  z37 := Tryd.sizeOf62
  v37 := Tryd.zeroValue62
  t127 := Tryd.underlying124
  a127 := Tryd.isAgg124
  z127 := Tryd.sizeOf124
  v127 := Tryd.zeroValue124
  t5 := Tryd.underlying5
  a5 := Tryd.isAgg5
  z5 := Tryd.sizeOf5
  v5 := Tryd.zeroValue5
  i0 := by kernel_rfl
  i3 := by kernel_rfl
  i4 := by kernel_rfl
  i5 := by kernel_rfl
  i9 := by kernel_rfl
  i37 := by kernel_rfl
  i127 := by kernel_rfl }
open Go.RowKit in
theorem Tryd.stringslite_Clone (s : ByteArray) (w : World) (hlim : s.size ≤ 281474976710656) :
    Calls Tryd.prog 95 #[.string s] w fun e w' => e = .returned (.string s) ∧ Below w.heap.size w w' := Any.stringslite_Clone Tryd.laysM316 s w hlim
end Go.Proofs
/-
Own text: what a name is: the program's reading of runes (over the model's own decoding) and the reference's come to the same.
-/
namespace Go.Proofs.YtdihodboopeakaaDoor.Pure
open Go.RowKit Go.Proofs.YtdihodboopeakaaDoorW.PrintWords Go.Proofs.YtdihodboopeakaaDoorW.PrintLast Go.Proofs.YtdihodboopeakaaDoor.Pr Go.Proofs.YtdihodboopeakaaDoor.EvKit

def szOf (b : Nat) : Nat := if 194 ≤ b ∧ b ≤ 223 then 2 else if 224 ≤ b ∧ b ≤ 239 then 3 else if 240 ≤ b ∧ b ≤ 244 then 4 else 0
def loOf (b : Nat) : Nat := if b = 224 then 160 else if b = 240 then 144 else 128
def hiOf (b : Nat) : Nat := if b = 237 then 159 else if b = 244 then 143 else 191
abbrev contOk (n b1 b2 b3 sz lo hi : Nat) : Prop := (1 < n ∧ lo ≤ b1 ∧ b1 ≤ hi) ∧ (3 ≤ sz → 2 < n ∧ 128 ≤ b2 ∧ b2 ≤ 191) ∧ (4 ≤ sz → 3 < n ∧ 128 ≤ b3 ∧ b3 ≤ 191)
/-- How many bytes the rune has; 0: there is none. -/
def rw4 (n b0 b1 b2 b3 : Nat) : Nat := if b0 < 128 then 1 else if szOf b0 = 0 then 0 else if contOk n b1 b2 b3 (szOf b0) (loOf b0) (hiOf b0) then szOf b0 else 0
def wid (d : Nat × Nat) : Nat := if d.1 = 65533 ∧ d.2 = 1 then 0 else d.2
theorem slow_wid (n b0 b1 b2 b3 sz lo hi : Nat) (hs : 2 ≤ sz) (hs4 : sz ≤ 4) : wid (Lib.slowN n b0 b1 b2 b3 sz lo hi) = if contOk n b1 b2 b3 sz lo hi then sz else 0 := by
  have w0 : wid (65533, 1) = 0 := by decide
  have w2 (x y : Nat) (hy : 2 ≤ y) : wid (x, y) = y := by unfold wid; exact if_neg (fun h => by have := h.2; simp only at this; omega)
  unfold Lib.slowN contOk
  by_cases a : n < sz
  · rw [if_pos a, w0, if_neg (by omega)]
  rw [if_neg a]
  by_cases b : b1 < lo ∨ hi < b1
  · rw [if_pos b, w0, if_neg (by omega)]
  rw [if_neg b]
  by_cases c : sz ≤ 2
  · rw [if_pos c, w2 _ _ (by decide), if_pos (by omega)]
    omega
  rw [if_neg c]
  by_cases d : b2 < 128 ∨ 191 < b2
  · rw [if_pos d, w0, if_neg (by omega)]
  rw [if_neg d]
  by_cases e : sz ≤ 3
  · rw [if_pos e, w2 _ _ (by decide), if_pos (by omega)]
    omega
  rw [if_neg e]
  by_cases f : b3 < 128 ∨ 191 < b3
  · rw [if_pos f, w0, if_neg (by omega)]
  rw [if_neg f, w2 _ _ (by decide), if_pos (by omega)]
  omega
theorem rw4_eq (n b0 b1 b2 b3 : Nat) (hn : 1 ≤ n) (h0 : b0 < 256) (h1 : b1 < 256) (h2 : b2 < 256) (h3 : b3 < 256) : wid (Lib.decodeN n b0 b1 b2 b3) = rw4 n b0 b1 b2 b3 := by
  unfold rw4
  by_cases c1 : b0 < 128
  · rw [if_pos c1]
    have e : Lib.decodeN n b0 b1 b2 b3 = (b0, 1) := by unfold Lib.decodeN; rw [if_pos c1]
    rw [e]
    unfold wid
    rw [if_neg (by simp only; omega)]
  rw [if_neg c1]
  by_cases c2 : 194 ≤ b0 ∧ b0 < 224
  · have es : szOf b0 = 2 := by unfold szOf; rw [if_pos (by omega)]
    have el : loOf b0 = 128 := by unfold loOf; rw [if_neg (by omega), if_neg (by omega)]
    have eh : hiOf b0 = 191 := by unfold hiOf; rw [if_neg (by omega), if_neg (by omega)]
    rw [es, el, eh, if_neg (by decide), ← Lib.slow_C2 n b0 b1 b2 b3 hn h1 h2 h3 c2, slow_wid _ _ _ _ _ _ _ _ (by decide) (by decide)]
  by_cases c3 : b0 = 224
  · have es : szOf b0 = 3 := by unfold szOf; rw [if_neg (by omega), if_pos (by omega)]
    have el : loOf b0 = 160 := by unfold loOf; rw [if_pos c3]
    have eh : hiOf b0 = 191 := by unfold hiOf; rw [if_neg (by omega), if_neg (by omega)]
    rw [es, el, eh, if_neg (by decide), ← Lib.slow_E0 n b0 b1 b2 b3 hn h1 h2 h3 c3, slow_wid _ _ _ _ _ _ _ _ (by decide) (by decide)]
  by_cases c4 : (225 ≤ b0 ∧ b0 < 237) ∨ (238 ≤ b0 ∧ b0 < 240)
  · have es : szOf b0 = 3 := by unfold szOf; rw [if_neg (by omega), if_pos (by omega)]
    have el : loOf b0 = 128 := by unfold loOf; rw [if_neg (by omega), if_neg (by omega)]
    have eh : hiOf b0 = 191 := by unfold hiOf; rw [if_neg (by omega), if_neg (by omega)]
    rw [es, el, eh, if_neg (by decide), ← Lib.slow_E1 n b0 b1 b2 b3 hn h1 h2 h3 c4, slow_wid _ _ _ _ _ _ _ _ (by decide) (by decide)]
  by_cases c5 : b0 = 237
  · have es : szOf b0 = 3 := by unfold szOf; rw [if_neg (by omega), if_pos (by omega)]
    have el : loOf b0 = 128 := by unfold loOf; rw [if_neg (by omega), if_neg (by omega)]
    have eh : hiOf b0 = 159 := by unfold hiOf; rw [if_pos c5]
    rw [es, el, eh, if_neg (by decide), ← Lib.slow_ED n b0 b1 b2 b3 hn h1 h2 h3 c5, slow_wid _ _ _ _ _ _ _ _ (by decide) (by decide)]
  by_cases c6 : b0 = 240
  · have es : szOf b0 = 4 := by unfold szOf; rw [if_neg (by omega), if_neg (by omega), if_pos (by omega)]
    have el : loOf b0 = 144 := by unfold loOf; rw [if_neg (by omega), if_pos c6]
    have eh : hiOf b0 = 191 := by unfold hiOf; rw [if_neg (by omega), if_neg (by omega)]
    rw [es, el, eh, if_neg (by decide), ← Lib.slow_F0 n b0 b1 b2 b3 hn h1 h2 h3 c6, slow_wid _ _ _ _ _ _ _ _ (by decide) (by decide)]
  by_cases c7 : 241 ≤ b0 ∧ b0 < 244
  · have es : szOf b0 = 4 := by unfold szOf; rw [if_neg (by omega), if_neg (by omega), if_pos (by omega)]
    have el : loOf b0 = 128 := by unfold loOf; rw [if_neg (by omega), if_neg (by omega)]
    have eh : hiOf b0 = 191 := by unfold hiOf; rw [if_neg (by omega), if_neg (by omega)]
    rw [es, el, eh, if_neg (by decide), ← Lib.slow_F1 n b0 b1 b2 b3 hn h1 h2 h3 c7, slow_wid _ _ _ _ _ _ _ _ (by decide) (by decide)]
  by_cases c8 : b0 = 244
  · have es : szOf b0 = 4 := by unfold szOf; rw [if_neg (by omega), if_neg (by omega), if_pos (by omega)]
    have el : loOf b0 = 128 := by unfold loOf; rw [if_neg (by omega), if_neg (by omega)]
    have eh : hiOf b0 = 143 := by unfold hiOf; rw [if_neg (by omega), if_pos c8]
    rw [es, el, eh, if_neg (by decide), ← Lib.slow_F4 n b0 b1 b2 b3 hn h1 h2 h3 c8, slow_wid _ _ _ _ _ _ _ _ (by decide) (by decide)]
  · have es : szOf b0 = 0 := by unfold szOf; rw [if_neg (by omega), if_neg (by omega), if_neg (by omega)]
    rw [es, if_pos rfl]
    unfold Lib.decodeN wid
    repeat' split
    all_goals first | rfl | (exfalso; omega)
theorem bt_get (s : ByteArray) (i : Nat) (h : i < s.size) : bt s (i : Int) = ((s.get! i).toNat : Int) := by
  unfold bt
  rw [dif_pos (by simpa using h)]
  have : s.get! i = s[i]'h := by
    have h2 : i < s.data.size := h
    cases s with
    | mk a => simp [ByteArray.get!, getElem!_pos, h2]; rfl
  rw [this]
  rfl
def rwAt (s : ByteArray) (i : Nat) : Nat := rw4 (s.size - i) (s.get! i).toNat (s.get! (i + 1)).toNat (s.get! (i + 2)).toNat (s.get! (i + 3)).toNat
theorem rwAt_eq (s : ByteArray) (i : Nat) (h : i < s.size) : rwAt s i = wid (Utf8.decode s i) := by
  unfold rwAt
  rw [Lib.decode_at, rw4_eq _ _ _ _ _ (by omega) (UInt8.toNat_lt _) (UInt8.toNat_lt _) (UInt8.toNat_lt _) (UInt8.toNat_lt _)]
/-- One more byte of a rune. -/
theorem l22Rune_step (s : ByteArray) (hs : s.size ≤ 1000000000) (i sz j lo hi : Nat) (r : Int) (hj : j < sz) (h4 : sz ≤ 4) (hi0 : i < s.size)
    (hbad : ¬ (i + j < s.size ∧ lo ≤ (s.get! (i + j)).toNat ∧ (s.get! (i + j)).toNat ≤ hi) → r = 0)
    (hgo : (i + j < s.size ∧ lo ≤ (s.get! (i + j)).toNat ∧ (s.get! (i + j)).toNat ≤ hi) → Ev (fun k => spec_l22Rune.l0 k s i sz 128 191 ((j + 1 : Nat) : Int)) r) : Ev (fun k => spec_l22Rune.l0 k s i sz lo hi (j : Int)) r := by
  apply Ev.succ
  have hw : wrap64 ((i : Int) + (j : Int)) = ((i + j : Nat) : Int) := by rw [wrap64_id (by omega) (by omega)]; omega
  have hw1 : wrap64 ((j : Int) + 1) = ((j + 1 : Nat) : Int) := by rw [wrap64_id (by omega) (by omega)]; omega
  simp only [spec_l22Rune.l0, show ((j : Int) < (sz : Int)) by omega, if_true, hw, hw1]
  by_cases c1 : i + j < s.size
  · refine Ev.neg (by omega) (Ev.pos (by omega) (Ev.pos (by omega) ?_))
    rw [bt_get s (i + j) c1]
    have hb := UInt8.toNat_lt (s.get! (i + j))
    rw [wrap64_id (by omega) (by omega)]
    by_cases c2 : (s.get! (i + j)).toNat < lo
    · exact Ev.pos (by omega) (Ev.some (hbad (by omega)).symm)
    · refine Ev.neg (by omega) ?_
      by_cases c3 : hi < (s.get! (i + j)).toNat
      · exact Ev.pos (by omega) (Ev.some (hbad (by omega)).symm)
      · exact Ev.neg (by omega) (hgo (by omega))
  · exact Ev.pos (by omega) (Ev.some (hbad (by omega)).symm)
theorem l22Rune_end (s : ByteArray) (i sz lo hi : Nat) (j : Nat) (hj : j = sz) : Ev (fun k => spec_l22Rune.l0 k s i sz lo hi (j : Int)) (sz : Int) := by
  apply Ev.succ
  subst hj
  simp only [spec_l22Rune.l0, Int.lt_irrefl, if_false]
  exact Ev.some rfl
theorem l22Rune_l0 (s : ByteArray) (hs : s.size ≤ 1000000000) (i sz lo hi : Nat) (h2 : 2 ≤ sz) (h4 : sz ≤ 4) (hi0 : i < s.size) :
    Ev (fun k => spec_l22Rune.l0 k s i sz lo hi 1) ((if contOk (s.size - i) (s.get! (i + 1)).toNat (s.get! (i + 2)).toNat (s.get! (i + 3)).toNat sz lo hi then sz else 0 : Nat) : Int) := by
  generalize hr : (if contOk (s.size - i) (s.get! (i + 1)).toNat (s.get! (i + 2)).toNat (s.get! (i + 3)).toNat sz lo hi then sz else 0) = r
  unfold contOk at hr
  refine l22Rune_step s hs i sz 1 lo hi r (by omega) h4 hi0 (fun hb => ?_) (fun hg => ?_)
  · rw [← hr, if_neg (by omega)]; rfl
  by_cases e2 : sz = 2
  · subst e2
    have : r = 2 := by rw [← hr, if_pos (by omega)]
    subst this
    exact l22Rune_end s i 2 128 191 2 rfl
  refine l22Rune_step s hs i sz 2 128 191 r (by omega) h4 hi0 (fun hb => ?_) (fun hg2 => ?_)
  · rw [← hr, if_neg (by omega)]; rfl
  by_cases e3 : sz = 3
  · subst e3
    have : r = 3 := by rw [← hr, if_pos (by omega)]
    subst this
    exact l22Rune_end s i 3 128 191 3 rfl
  refine l22Rune_step s hs i sz 3 128 191 r (by omega) h4 hi0 (fun hb => ?_) (fun hg3 => ?_)
  · rw [← hr, if_neg (by omega)]; rfl
  have e4 : sz = 4 := by omega
  subst e4
  have : r = 4 := by rw [← hr, if_pos (by omega)]
  subst this
  exact l22Rune_end s i 4 128 191 4 rfl
theorem l22Rune_ev (s : ByteArray) (hs : s.size ≤ 1000000000) (i : Nat) (h : i < s.size) : Ev (fun k => spec_l22Rune.f k s i) ((rwAt s i : Nat) : Int) := by
  unfold spec_l22Rune.f
  refine Ev.pos (by omega) (Ev.pos (by omega) ?_)
  have hb := UInt8.toNat_lt (s.get! i)
  rw [bt_get s i h, wrap64_id (x := ((s.get! i).toNat : Int)) (by omega) (by omega)]
  unfold rwAt rw4
  generalize hb0 : (s.get! i).toNat = b at hb
  by_cases c1 : b < 128
  · rw [if_pos c1]
    exact Ev.pos (by omega) (Ev.some rfl)
  rw [if_neg c1]
  refine Ev.neg (by omega) ?_
  have key (sz lo hi : Nat) (h2 : 2 ≤ sz) (h4 : sz ≤ 4) : Ev (fun k => spec_l22Rune.j3 k s i sz lo hi) ((if contOk (s.size - i) (s.get! (i + 1)).toNat (s.get! (i + 2)).toNat (s.get! (i + 3)).toNat sz lo hi then sz else 0 : Nat) : Int) := by
    apply Ev.succ
    simp only [spec_l22Rune.j3]
    exact l22Rune_l0 s hs i sz lo hi h2 h4 h
  by_cases c2 : 194 ≤ b ∧ b ≤ 223
  · have es : szOf b = 2 := by unfold szOf; rw [if_pos (by omega)]
    have el : loOf b = 128 := by unfold loOf; rw [if_neg (by omega), if_neg (by omega)]
    have eh : hiOf b = 191 := by unfold hiOf; rw [if_neg (by omega), if_neg (by omega)]
    rw [es, el, eh, if_neg (by decide)]
    refine Ev.pos (by omega) ?_
    apply Ev.succ
    simp only [spec_l22Rune.j0]
    exact Ev.pos (by simp; omega) (key 2 128 191 (by decide) (by decide))
  · have hj0 : ∀ x : Bool, x = false → Ev (fun k => spec_l22Rune.j0 k s i (b : Int) 128 191 x) (((if szOf b = 0 then 0 else if contOk (s.size - i) (s.get! (i + 1)).toNat (s.get! (i + 2)).toNat (s.get! (i + 3)).toNat (szOf b) (loOf b) (hiOf b) then szOf b else 0) : Nat) : Int) := by
      intro x hx
      subst hx
      apply Ev.succ
      simp only [spec_l22Rune.j0, Bool.false_eq_true, if_false]
      by_cases c3 : 224 ≤ b ∧ b ≤ 239
      · refine Ev.pos (by omega) ?_
        apply Ev.succ
        simp only [spec_l22Rune.j1]
        refine Ev.pos (by simp; omega) ?_
        have es : szOf b = 3 := by unfold szOf; rw [if_neg (by omega), if_pos (by omega)]
        rw [es, if_neg (by decide)]
        by_cases c4 : b = 224
        · have el : loOf b = 160 := by unfold loOf; rw [if_pos c4]
          have eh : hiOf b = 191 := by unfold hiOf; rw [if_neg (by omega), if_neg (by omega)]
          rw [el, eh]
          exact Ev.pos (by omega) (Ev.neg (by omega) (key 3 160 191 (by decide) (by decide)))
        · have el : loOf b = 128 := by unfold loOf; rw [if_neg (by omega), if_neg (by omega)]
          rw [el]
          refine Ev.neg (by omega) ?_
          by_cases c5 : b = 237
          · have eh : hiOf b = 159 := by unfold hiOf; rw [if_pos c5]
            rw [eh]
            exact Ev.pos (by omega) (key 3 128 159 (by decide) (by decide))
          · have eh : hiOf b = 191 := by unfold hiOf; rw [if_neg (by omega), if_neg (by omega)]
            rw [eh]
            exact Ev.neg (by omega) (key 3 128 191 (by decide) (by decide))
      · have hj1 : ∀ y : Bool, y = false → Ev (fun k => spec_l22Rune.j1 k s i (b : Int) 128 191 y) (((if szOf b = 0 then 0 else if contOk (s.size - i) (s.get! (i + 1)).toNat (s.get! (i + 2)).toNat (s.get! (i + 3)).toNat (szOf b) (loOf b) (hiOf b) then szOf b else 0) : Nat) : Int) := by
          intro y hy
          subst hy
          apply Ev.succ
          simp only [spec_l22Rune.j1, Bool.false_eq_true, if_false]
          by_cases c6 : 240 ≤ b ∧ b ≤ 244
          · refine Ev.pos (by omega) ?_
            apply Ev.succ
            simp only [spec_l22Rune.j2]
            refine Ev.pos (by simp; omega) ?_
            have es : szOf b = 4 := by unfold szOf; rw [if_neg (by omega), if_neg (by omega), if_pos (by omega)]
            rw [es, if_neg (by decide)]
            by_cases c7 : b = 240
            · have el : loOf b = 144 := by unfold loOf; rw [if_neg (by omega), if_pos c7]
              have eh : hiOf b = 191 := by unfold hiOf; rw [if_neg (by omega), if_neg (by omega)]
              rw [el, eh]
              exact Ev.pos (by omega) (Ev.neg (by omega) (key 4 144 191 (by decide) (by decide)))
            · have el : loOf b = 128 := by unfold loOf; rw [if_neg (by omega), if_neg (by omega)]
              rw [el]
              refine Ev.neg (by omega) ?_
              by_cases c8 : b = 244
              · have eh : hiOf b = 143 := by unfold hiOf; rw [if_neg (by omega), if_pos c8]
                rw [eh]
                exact Ev.pos (by omega) (key 4 128 143 (by decide) (by decide))
              · have eh : hiOf b = 191 := by unfold hiOf; rw [if_neg (by omega), if_neg (by omega)]
                rw [eh]
                exact Ev.neg (by omega) (key 4 128 191 (by decide) (by decide))
          · have es : szOf b = 0 := by unfold szOf; rw [if_neg (by omega), if_neg (by omega), if_neg (by omega)]
            rw [es, if_pos rfl]
            have hj2 : ∀ z : Bool, z = false → Ev (fun k => spec_l22Rune.j2 k s i (b : Int) 128 191 z) ((0 : Nat) : Int) := by
              intro z hz
              subst hz
              apply Ev.succ
              simp only [spec_l22Rune.j2, Bool.false_eq_true, if_false]
              exact Ev.some rfl
            exact Ev.ite (fun _ => hj2 _ (decide_eq_false (by omega))) (fun _ => hj2 _ rfl)
        exact Ev.ite (fun _ => hj1 _ (decide_eq_false (by omega))) (fun _ => hj1 _ rfl)
    exact Ev.ite (fun _ => hj0 _ (decide_eq_false (by omega))) (fun _ => hj0 _ rfl)
theorem decode_small (s : ByteArray) (i : Nat) (h : (s.get! i).toNat < 128) : Utf8.decode s i = ((s.get! i).toNat, 1) := by
  rw [Lib.decode_at]
  unfold Lib.decodeN
  rw [if_pos h]
theorem decode_great (s : ByteArray) (i : Nat) (h : ¬ (s.get! i).toNat < 128) : 128 ≤ (Utf8.decode s i).1 ∧ ((Utf8.decode s i).2 = 1 → (Utf8.decode s i).1 = 65533) := by
  rw [Lib.decode_at]
  generalize (s.get! i).toNat = b0 at h
  generalize (s.get! (i + 1)).toNat = b1
  generalize (s.get! (i + 2)).toNat = b2
  generalize (s.get! (i + 3)).toNat = b3
  unfold Lib.decodeN
  rw [if_neg h]
  repeat' split
  all_goals (refine ⟨?_, fun h => ?_⟩ <;> simp only at * <;> omega)
theorem decode_w (s : ByteArray) (i : Nat) : 1 ≤ (Utf8.decode s i).2 ∧ (Utf8.decode s i).2 ≤ 4 := by
  rw [Lib.decode_at]
  generalize (s.get! i).toNat = b0
  generalize (s.get! (i + 1)).toNat = b1
  generalize (s.get! (i + 2)).toNat = b2
  generalize (s.get! (i + 3)).toNat = b3
  unfold Lib.decodeN
  repeat' split
  all_goals simp
theorem letter_eq (b : Int) : spec_l22Letter.f b = some (decide ((97 ≤ b ∧ b ≤ 122) ∨ (65 ≤ b ∧ b ≤ 90))) := by
  unfold spec_l22Letter.f
  by_cases h1 : b ≥ 97
  · rw [if_pos h1]
    by_cases h2 : b ≤ 122
    · rw [if_pos h2, decide_eq_true (Or.inl ⟨h1, h2⟩)]
    · rw [if_neg h2, if_pos (by omega)]
      congr 1
      rw [Bool.eq_iff_iff]
      simp only [decide_eq_true_eq]
      omega
  · rw [if_neg h1]
    by_cases h3 : b ≥ 65
    · rw [if_pos h3]
      congr 1
      rw [Bool.eq_iff_iff]
      simp only [decide_eq_true_eq]
      omega
    · rw [if_neg h3, decide_eq_false (by omega)]
/-- What the reference's reading of a token tells. -/
def oddR (o : Int) (n : Int) : Int × Int := if o < 0 then (-1, n) else (o, 0)
theorem l22Odd_l0 (s : ByteArray) (hs : s.size ≤ 1000000000) (f : Nat) : ∀ (i x : Nat), s.size - i ≤ f → i ≤ s.size + 4 → x ≤ i →
    Ev (fun k => spec_l22Odd.l0 k s (x : Int) (i : Int)) (oddR (oddFrom s f i) ((x + Lib.runeCountFrom s f i : Nat) : Int)) := by
  induction f with
  | zero =>
    intro i x hf hi hx
    apply Ev.succ
    simp only [spec_l22Odd.l0, show ¬ ((i : Int) < (s.size : Int)) by omega, if_false]
    exact Ev.some rfl
  | succ f ih =>
    intro i x hf hi hx
    apply Ev.succ
    simp only [spec_l22Odd.l0, oddFrom, Lib.runeCountFrom]
    by_cases h : i < s.size
    · rw [if_pos h, if_pos h]
      refine Ev.pos (by omega) (Ev.bnd (l22Rune_ev s hs i h) ?_)
      rw [rwAt_eq s i h]
      have hw := decode_w s i
      by_cases c : (s.get! i).toNat < 128
      · have hd := decode_small s i c
        rw [hd]
        have e1 : wid ((s.get! i).toNat, 1) = 1 := by unfold wid; exact if_neg (fun h => by have := h.1; simp only at this; omega)
        rw [e1]
        refine Ev.neg (by decide) (Ev.pos rfl (Ev.pos (by omega) ?_))
        rw [bt_get s i h]
        refine Ev.bnd0 (letter_eq _) ?_
        by_cases c2 : (97 ≤ (s.get! i).toNat ∧ (s.get! i).toNat ≤ 122) ∨ (65 ≤ (s.get! i).toNat ∧ (s.get! i).toNat ≤ 90)
        · have e2 : badRune ((s.get! i).toNat, 1) = false := decide_eq_false (fun h => by simp only at h; omega)
          rw [e2, if_neg (by decide)]
          refine Ev.pos (decide_eq_true (by omega)) ?_
          rw [show wrap64 ((x : Int) + 1) = ((x + 1 : Nat) : Int) by rw [wrap64_id (by omega) (by omega)]; omega, show wrap64 ((i : Int) + ((1 : Nat) : Int)) = ((i + 1 : Nat) : Int) by rw [wrap64_id (by omega) (by omega)]; omega]
          refine Ev.eq (ih (i + 1) (x + 1) (by omega) (by omega) (by omega)) ?_
          rw [Nat.add_assoc]
        · have e2 : badRune ((s.get! i).toNat, 1) = true := decide_eq_true (Or.inr ⟨c, c2⟩)
          rw [e2, if_pos rfl]
          refine Ev.neg (fun h => c2 (by have := of_decide_eq_true h; omega)) (Ev.some ?_)
          unfold oddR
          rw [if_neg (by omega)]
      · obtain ⟨g1, g2⟩ := decode_great s i c
        by_cases c2 : (Utf8.decode s i).1 = 65533 ∧ (Utf8.decode s i).2 = 1
        · have e1 : wid (Utf8.decode s i) = 0 := if_pos c2
          have e2 : badRune (Utf8.decode s i) = true := decide_eq_true (Or.inl c2)
          rw [e1, e2, if_pos rfl]
          refine Ev.pos rfl (Ev.some ?_)
          unfold oddR
          rw [if_neg (by omega)]
        · have e1 : wid (Utf8.decode s i) = (Utf8.decode s i).2 := if_neg c2
          have e2 : badRune (Utf8.decode s i) = false := decide_eq_false (fun h => h.elim c2 (fun h => by omega))
          have e3 : (Utf8.decode s i).2 ≠ 1 := fun h => c2 ⟨g2 h, h⟩
          rw [e1, e2, if_neg (by decide)]
          refine Ev.neg (by omega) (Ev.neg (by omega) ?_)
          rw [show wrap64 ((x : Int) + 1) = ((x + 1 : Nat) : Int) by rw [wrap64_id (by omega) (by omega)]; omega, show wrap64 ((i : Int) + (((Utf8.decode s i).2 : Nat) : Int)) = ((i + (Utf8.decode s i).2 : Nat) : Int) by rw [wrap64_id (by omega) (by omega)]; omega]
          refine Ev.eq (ih (i + (Utf8.decode s i).2) (x + 1) (by omega) (by omega) (by omega)) ?_
          rw [Nat.add_assoc]
    · rw [if_neg h, if_neg h]
      exact Ev.neg (by omega) (Ev.some (by simp [oddR]))
theorem l22Odd_ev (s : ByteArray) (hs : s.size ≤ 1000000000) : Ev (fun k => spec_l22Odd.f k s) (oddR (oddOf s) (Lib.runeCount s : Int)) := by
  unfold spec_l22Odd.f
  have := l22Odd_l0 s hs s.size 0 0 (by omega) (by omega) (by omega)
  simpa [oddOf, Lib.runeCount] using this
/-- A name. -/
def NameOk (s : ByteArray) : Prop := 1 ≤ Lib.runeCount s ∧ Lib.runeCount s ≤ 12 ∧ oddOf s < 0
instance (s : ByteArray) : Decidable (NameOk s) := by unfold NameOk; infer_instance
theorem l22Name_ev (s : ByteArray) (hs : s.size ≤ 1000000000) : Ev (fun k => spec_l22Name.f k s) (decide (NameOk s)) := by
  unfold spec_l22Name.f
  refine Ev.bnd (l22Odd_ev s hs) ?_
  unfold oddR
  by_cases h : oddOf s < 0
  · rw [if_pos h]
    refine Ev.pos (by show (-1 : Int) < 0; decide) ?_
    by_cases h1 : 1 ≤ Lib.runeCount s
    · refine Ev.pos (by simp only; omega) (Ev.some ?_)
      rw [Bool.eq_iff_iff]
      simp only [decide_eq_true_eq]
      unfold NameOk
      omega
    · refine Ev.neg (by simp only; omega) (Ev.some ?_)
      rw [decide_eq_false]
      exact fun h2 => h1 h2.1
  · rw [if_neg h]
    refine Ev.neg (by simp only; omega) (Ev.some ?_)
    rw [decide_eq_false]
    exact fun h2 => h h2.2.2
end Go.Proofs.YtdihodboopeakaaDoor.Pure
/-
Own text: what the laws' own helpers on []string and []bool come to: a copy, a comparison, a size.
-/
namespace Go.Proofs.YtdihodboopeakaaDoor.Pure
open Go.RowKit Go.Proofs.YtdihodboopeakaaDoorW.PrintWords Go.Proofs.YtdihodboopeakaaDoorW.PrintLast Go.Proofs.YtdihodboopeakaaDoor.Pr Go.Proofs.YtdihodboopeakaaDoor.EvKit

end Go.Proofs.YtdihodboopeakaaDoor.Pure
/-
Own text: what many of the pure proofs use: 'for all from i on', counters, 'between', the copy and the comparison of slices of bytes.
-/
namespace Go.Proofs.YtdihodboopeakaaDoor.Pure
open Go.RowKit Go.Proofs.YtdihodboopeakaaDoorW.PrintWords Go.Proofs.YtdihodboopeakaaDoor.EvKit

def From (n i : Nat) (C : Nat → Prop) : Prop := ∀ j, i ≤ j → j < n → C j
theorem From.end_ {n i : Nat} {C : Nat → Prop} (h : n ≤ i) : From n i C := fun j h1 h2 => by omega
theorem From.step {n i : Nat} {C : Nat → Prop} (h : i < n) : From n i C ↔ C i ∧ From n (i + 1) C := by
  constructor
  · exact fun a => ⟨a i (Nat.le_refl i) h, fun j h1 h2 => a j (by omega) h2⟩
  · rintro ⟨a, b⟩ j h1 h2
    by_cases e : j = i
    · exact e ▸ a
    · exact b j (by omega) h2
/-- One of those from i on, below n. -/
def Some_ (n i : Nat) (C : Nat → Prop) : Prop := ∃ j, i ≤ j ∧ j < n ∧ C j
theorem Some_.end_ {n i : Nat} {C : Nat → Prop} (h : n ≤ i) : ¬ Some_ n i C := by
  rintro ⟨j, h1, h2, _⟩
  omega
theorem Some_.step {n i : Nat} {C : Nat → Prop} (h : i < n) : Some_ n i C ↔ C i ∨ Some_ n (i + 1) C := by
  constructor
  · rintro ⟨j, h1, h2, h3⟩
    by_cases e : j = i
    · exact Or.inl (e ▸ h3)
    · exact Or.inr ⟨j, by omega, h2, h3⟩
  · rintro (a | ⟨j, h1, h2, h3⟩)
    · exact ⟨i, Nat.le_refl i, h, a⟩
    · exact ⟨j, by omega, h2, h3⟩
end Go.Proofs.YtdihodboopeakaaDoor.Pure
/-
Own text: what the laws' own helpers on []int come to: a copy, a comparison.
-/
namespace Go.Proofs.YtdihodboopeakaaDoor.Pure
open Go.RowKit Go.Proofs.YtdihodboopeakaaDoorW.PrintWords Go.Proofs.YtdihodboopeakaaDoorW.PrintLast Go.Proofs.YtdihodboopeakaaDoor.Pr Go.Proofs.YtdihodboopeakaaDoor.EvKit

end Go.Proofs.YtdihodboopeakaaDoor.Pure
/-
Own text: what the laws' own helpers on [][]int come to: their size, a copy, a comparison.
-/
namespace Go.Proofs.YtdihodboopeakaaDoor.Pure
open Go.RowKit Go.Proofs.YtdihodboopeakaaDoorW.PrintWords Go.Proofs.YtdihodboopeakaaDoorW.PrintLast Go.Proofs.YtdihodboopeakaaDoor.Pr Go.Proofs.YtdihodboopeakaaDoor.EvKit

end Go.Proofs.YtdihodboopeakaaDoor.Pure
/-
Own text: what a good board is, to the program and to the reference.
-/
namespace Go.Proofs.YtdihodboopeakaaDoor.Pure
open Go.RowKit Go.Proofs.YtdihodboopeakaaDoorW.PrintWords Go.Proofs.YtdihodboopeakaaDoorW.PrintLast Go.Proofs.YtdihodboopeakaaDoor.Pr Go.Proofs.YtdihodboopeakaaDoor.EvKit
open Classical

/-- A row of next places from k on: rising, each a place. -/
def RowOk (n : Nat) (row : List Int) (k : Nat) : Prop := From row.length k fun j => (0 ≤ row.getD j 0 ∧ row.getD j 0 < n) ∧ (0 < j → row.getD (j - 1) 0 < row.getD j 0)
/-- The places from i on. -/
def BoardOk (names : List ByteArray) (next : List (List Int)) (i : Nat) : Prop := From names.length i fun j => ((names.getD j ByteArray.empty).toList = [] ∨ NameOk (names.getD j ByteArray.empty)) ∧ RowOk names.length (next.getD j []) 0
def Good (names : List ByteArray) (mine : List Bool) (next : List (List Int)) : Prop := (1 ≤ names.length ∧ names.length ≤ 14) ∧ (mine.length = names.length ∧ next.length = names.length) ∧ BoardOk names next 0
theorem RowOk.len {n : Nat} {row : List Int} (h : RowOk n row 0) : row.length ≤ n := by
  have key : ∀ j, j < row.length → (j : Int) ≤ row.getD j 0 := by
    intro j
    induction j with
    | zero => intro hj; exact (h 0 (Nat.le_refl _) hj).1.1
    | succ j ih =>
      intro hj
      have h1 := ih (by omega)
      have h2 := (h (j + 1) (by omega) hj).2 (by omega)
      simp only [Nat.add_sub_cancel] at h2
      omega
  rcases Nat.eq_zero_or_pos row.length with e | e
  · omega
  · have h1 := key (row.length - 1) (by omega)
    have h2 := (h (row.length - 1) (by omega) (by omega)).1.2
    omega
section
variable (names : List ByteArray) (mine : List Bool) (next : List (List Int)) (hn : names.length ≤ 14) (hx : next.length = names.length) (hs : ∀ x ∈ names, x.size ≤ 1048576) (hr : ∀ x ∈ next, x.length ≤ 1048576)
include hn hx hr
include hs
end
/-! The law's helpers on a board -/
end Go.Proofs.YtdihodboopeakaaDoor.Pure
/-
Own text: what a good wish is, which places it aims at and which it shuns, to the program and to the reference.
-/
namespace Go.Proofs.YtdihodboopeakaaDoor.Pure
open Go.RowKit Go.Proofs.YtdihodboopeakaaDoorW.PrintWords Go.Proofs.YtdihodboopeakaaDoorW.PrintLast Go.Proofs.YtdihodboopeakaaDoor.Pr Go.Proofs.YtdihodboopeakaaDoor.EvKit
open Classical

theorem text_eq (a b : ByteArray) : a.toList = b.toList ↔ a = b := by
  constructor
  · intro h
    rw [Lib.toList_data, Lib.toList_data] at h
    exact ByteArray.ext (Array.toList_inj.1 h)
  · intro h; rw [h]
theorem succ_w2 (i : Nat) (h : i ≤ 1048576) : wrap64 ((i : Int) + 1) = ((i + 1 : Nat) : Int) := by rw [wrap64_id (by omega) (by omega)]; omega
theorem drop_get {α : Type} (l : List α) (i : Nat) (d : α) (h : i < l.length) : l.drop i = l.getD i d :: l.drop (i + 1) := by
  rw [List.drop_eq_getElem_cons h]
  congr 1
  simp [List.getD_eq_getElem?_getD, List.getElem?_eq_getElem h]
theorem mem_drop_step {α : Type} (l : List α) (i : Nat) (d s : α) (h : i < l.length) : s ∈ l.drop i ↔ s = l.getD i d ∨ s ∈ l.drop (i + 1) := by rw [drop_get l i d h]; exact List.mem_cons
theorem l22In_l0 (l : List ByteArray) (s : ByteArray) (hl : l.length ≤ 1048576) (d : Nat) : ∀ i : Nat, i + d = l.length → Ev (fun k => spec_l22In.l0 k s l l.length i) (decide (s ∈ l.drop i)) := by
  induction d with
  | zero =>
    intro i hi
    apply Ev.succ
    rw [List.drop_of_length_le (by omega)]
    simp only [spec_l22In.l0, show ¬ ((i : Int) < (l.length : Int)) by omega, if_false]
    exact Ev.some (decide_eq_false (by simp)).symm
  | succ d ih =>
    intro i hi
    apply Ev.succ
    have hm := mem_drop_step l i ByteArray.empty s (by omega)
    have e : rdOf ByteArray.empty l (i : Int) = l.getD i ByteArray.empty := rfl
    simp only [spec_l22In.l0, show ((i : Int) < (l.length : Int)) by omega, show (0 : Int) ≤ (i : Int) by omega, if_true, e, text_eq, succ_w2 i (by omega)]
    by_cases c : l.getD i ByteArray.empty = s
    · exact Ev.pos c (Ev.some (decide_eq_true (hm.2 (Or.inl c.symm))).symm)
    · refine Ev.neg c (Ev.eq (ih (i + 1) (by omega)) (decide_eq_decide.2 ⟨fun h => hm.2 (Or.inr h), fun h => (hm.1 h).elim (fun h => absurd h.symm c) id⟩))
theorem l22In_ev (l : List ByteArray) (s : ByteArray) (hl : l.length ≤ 1048576) : Ev (fun k => spec_l22In.f k l s) (decide (s ∈ l)) := by
  unfold spec_l22In.f
  simpa using l22In_l0 l s hl l.length 0 (by omega)
theorem contains_l0 (l : List ByteArray) (s : ByteArray) (hl : l.length ≤ 1048576) (d : Nat) : ∀ i : Nat, i + d = l.length → ∃ r : Int, Ev (fun k => slices_Index_string_string.l0 k l s l.length i) r ∧ (r ≥ 0 ↔ s ∈ l.drop i) := by
  induction d with
  | zero =>
    intro i hi
    refine ⟨-1, ?_, ?_⟩
    · apply Ev.succ
      simp only [slices_Index_string_string.l0, show ¬ ((i : Int) < (l.length : Int)) by omega, if_false]
      exact Ev.some rfl
    · rw [List.drop_of_length_le (by omega)]
      simp
  | succ d ih =>
    intro i hi
    have hm := mem_drop_step l i ByteArray.empty s (by omega)
    have e : rdOf ByteArray.empty l (i : Int) = l.getD i ByteArray.empty := rfl
    by_cases c : s = l.getD i ByteArray.empty
    · refine ⟨i, ?_, ⟨fun _ => hm.2 (Or.inl c), fun _ => by omega⟩⟩
      apply Ev.succ
      simp only [slices_Index_string_string.l0, show ((i : Int) < (l.length : Int)) by omega, show (0 : Int) ≤ (i : Int) by omega, if_true, e, text_eq]
      exact Ev.pos c (Ev.some rfl)
    · obtain ⟨r, h1, h2⟩ := ih (i + 1) (by omega)
      refine ⟨r, ?_, ⟨fun h => hm.2 (Or.inr (h2.1 h)), fun h => h2.2 ((hm.1 h).elim (fun h => absurd h c) id)⟩⟩
      apply Ev.succ
      simp only [slices_Index_string_string.l0, show ((i : Int) < (l.length : Int)) by omega, show (0 : Int) ≤ (i : Int) by omega, if_true, e, text_eq, succ_w2 i (by omega)]
      exact Ev.neg c h1
theorem contains_ev (l : List ByteArray) (s : ByteArray) (hl : l.length ≤ 1048576) : Ev (fun k => slices_Contains_string_string.f k l s) (decide (s ∈ l)) := by
  unfold slices_Contains_string_string.f slices_Index_string_string.f
  obtain ⟨r, h1, h2⟩ := contains_l0 l s hl l.length 0 (by omega)
  exact Ev.bnd (by simpa using h1) (Ev.some (decide_eq_decide.2 (by simpa using h2)))
/-! A wish -/
def NamesFrom (l : List ByteArray) (i : Nat) : Prop := From l.length i fun j => NameOk (l.getD j ByteArray.empty) ∧ l.getD j ByteArray.empty ∉ l.take j
def ListOk (l : List ByteArray) : Prop := l.length ≤ 6 ∧ NamesFrom l 0
def WishOk (reach avoid : List ByteArray) : Prop := ListOk reach ∧ ListOk avoid
theorem l22Names_l0 (l : List ByteArray) (hl : l.length ≤ 6) (hs : ∀ x ∈ l, x.size ≤ 1048576) (d : Nat) : ∀ i : Nat, i + d = l.length → Ev (fun k => spec_l22Names.l0 k l l l.length i) (decide (NamesFrom l i)) := by
  induction d with
  | zero =>
    intro i hi
    apply Ev.succ
    simp only [spec_l22Names.l0, show ¬ ((i : Int) < (l.length : Int)) by omega, if_false]
    exact Ev.some (decide_eq_true (From.end_ (by omega))).symm
  | succ d ih =>
    intro i hi
    apply Ev.succ
    have hsz : (l.getD i ByteArray.empty).size ≤ 1000000000 := Nat.le_trans (hs _ (getD_mem l i _ (by omega))) (by decide)
    have e : rdOf ByteArray.empty l (i : Int) = l.getD i ByteArray.empty := rfl
    have hstep := From.step (C := fun j => NameOk (l.getD j ByteArray.empty) ∧ l.getD j ByteArray.empty ∉ l.take j) (n := l.length) (i := i) (by omega)
    simp only [spec_l22Names.l0, show ((i : Int) < (l.length : Int)) by omega, show (0 : Int) ≤ (i : Int) by omega, if_true, e, show ((i : Int) ≤ (l.length : Int)) by omega, Int.toNat_natCast, succ_w2 i (by omega)]
    refine Ev.bnd (l22Name_ev _ hsz) ?_
    by_cases c : NameOk (l.getD i ByteArray.empty)
    · refine Ev.pos (decide_eq_true c) (Ev.bnd (l22In_ev _ _ (by rw [List.length_take]; omega)) ?_)
      by_cases c2 : l.getD i ByteArray.empty ∈ l.take i
      · exact Ev.pos (decide_eq_true c2) (Ev.some (decide_eq_false (fun h => (hstep.1 h).1.2 c2)).symm)
      · exact Ev.neg (by simpa using c2) (Ev.eq (ih (i + 1) (by omega)) (decide_eq_decide.2 ⟨fun h => hstep.2 ⟨⟨c, c2⟩, h⟩, fun h => (hstep.1 h).2⟩))
    · exact Ev.neg (by simpa using c) (Ev.some (decide_eq_false (fun h => c (hstep.1 h).1.1)).symm)
theorem l22Names_ev (l : List ByteArray) (hs : ∀ x ∈ l, x.size ≤ 1048576) : Ev (fun k => spec_l22Names.f k l) (decide (ListOk l)) := by
  unfold spec_l22Names.f
  by_cases c : l.length ≤ 6
  · refine Ev.neg (by omega) (Ev.eq (l22Names_l0 l c hs l.length 0 (by omega)) (decide_eq_decide.2 ⟨fun h => ⟨c, h⟩, fun h => h.2⟩))
  · exact Ev.pos (by omega) (Ev.some (decide_eq_false (fun h => c h.1)).symm)
theorem l22Good_ev (reach avoid : List ByteArray) (h1 : ∀ x ∈ reach, x.size ≤ 1048576) (h2 : ∀ x ∈ avoid, x.size ≤ 1048576) : Ev (fun k => spec_l22Good.f k reach avoid) (decide (WishOk reach avoid)) := by
  unfold spec_l22Good.f
  refine Ev.bnd (l22Names_ev reach h1) ?_
  by_cases c : ListOk reach
  · exact Ev.pos (decide_eq_true c) (Ev.bnd (l22Names_ev avoid h2) (Ev.some (decide_eq_decide.2 ⟨fun h => ⟨c, h⟩, fun h => h.2⟩)))
  · exact Ev.neg (by simpa using c) (Ev.some (decide_eq_false (fun h => c h.1)).symm)
theorem inB_eq (l : List ByteArray) (s : ByteArray) : inB l s = decide (s ∈ l) := by
  rw [Bool.eq_iff_iff]
  unfold inB
  rw [List.any_eq_true]
  simp only [decide_eq_true_eq]
  exact ⟨fun ⟨x, h1, h2⟩ => (text_eq x s).1 h2 ▸ h1, fun h => ⟨s, h, rfl⟩⟩
theorem gwFrom_eq (l : List ByteArray) (d : Nat) : d ≤ l.length → gwFrom l d = decide (NamesFrom l (l.length - d)) := by
  induction d with
  | zero => intro _; exact (decide_eq_true (From.end_ (by omega))).symm
  | succ d ih =>
    intro hd
    have hstep := From.step (C := fun j => NameOk (l.getD j ByteArray.empty) ∧ l.getD j ByteArray.empty ∉ l.take j) (n := l.length) (i := l.length - (d + 1)) (by omega)
    unfold gwFrom
    rw [ih (by omega), inB_eq, show l.length - d = l.length - (d + 1) + 1 by omega, Bool.eq_iff_iff]
    simp only [Bool.and_eq_true, Bool.not_eq_true', decide_eq_false_iff_not, decide_eq_true_eq, nameB]
    exact hstep.symm
theorem gwB_eq (l : List ByteArray) : gwB l = decide (ListOk l) := by
  unfold gwB
  rw [gwFrom_eq l l.length (Nat.le_refl _), Nat.sub_self, Bool.eq_iff_iff]
  simp only [Bool.and_eq_true, decide_eq_true_eq]
  exact Iff.rfl
theorem goodWish_eq (reach avoid : List ByteArray) (a1 : reach.length ≤ 1048576) (h1 : ∀ x ∈ reach, x.size ≤ 1048576) (a2 : avoid.length ≤ 1048576) (h2 : ∀ x ∈ avoid, x.size ≤ 1048576) : impl_goodWish.f reach avoid = some (decide (WishOk reach avoid)) := by
  have ok (l : List ByteArray) (a : l.length ≤ 1048576) (h : ∀ x ∈ l, x.size ≤ 1048576) : okT l = true := by
    unfold okT
    rw [decide_eq_true a, Bool.true_and, List.all_eq_true]
    exact fun x hx => decide_eq_true (h x hx)
  unfold impl_goodWish.f
  rw [if_pos (ok reach a1 h1), if_pos (ok avoid a2 h2), gwB_eq, gwB_eq]
  congr 1
  rw [Bool.eq_iff_iff]
  simp only [Bool.and_eq_true, decide_eq_true_eq]
  exact Iff.rfl
section
variable (names : List ByteArray) (mine : List Bool) (next : List (List Int)) (reach avoid : List ByteArray)
end

/-! The law's helpers on a wish -/
structure SmallW (reach avoid : List ByteArray) : Prop where
  r1 : reach.length ≤ 1048576
  r2 : ∀ x ∈ reach, x.size ≤ 1048576
  a1 : avoid.length ≤ 1048576
  a2 : ∀ x ∈ avoid, x.size ≤ 1048576
end Go.Proofs.YtdihodboopeakaaDoor.Pure
