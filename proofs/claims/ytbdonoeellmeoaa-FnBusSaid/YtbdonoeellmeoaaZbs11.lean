-- Joined and pruned by wip/tools/prune.py out of this session's own texts (Bfw)
import Derived.Test.YtbdonoeellmeoaaZbs10
/- spec.BusFine by hand: the walk, over what FineP says. -/
namespace Go.Proofs.Ytbdonoeellmeoaa.Pr
open Go.RowKit Go.Proofs.YtbdonoeellmeoaaW.PrintWords Go.Proofs.YtbdonoeellmeoaaW.PrintLast Go.Proofs.YtbdonoeellmeoaaW.PrintMore Go.Proofs.Ytbdonoeellmeoaa.Bus Go.Proofs.Ytbdonoeellmeoaa.EvKit
set_option linter.unusedVariables false
set_option linter.unusedSimpArgs false
theorem same_l0 (a b : Int) (q : List Int) (hl : q.length ≤ 1048576) (d : Nat) : ∀ i : Nat, i + d = q.length → Ev (fun k => spec_SameFrame.l0 k (q.length : Int) (i : Int) a q b q) true := by
  induction d with
  | zero =>
    intro i hi
    apply Ev.succ
    simp only [spec_SameFrame.l0, show ¬ ((i : Int) < (q.length : Int)) by omega, if_false]
    exact Ev.some rfl
  | succ d ih =>
    intro i hi
    apply Ev.succ
    simp only [spec_SameFrame.l0, show ((i : Int) < (q.length : Int)) by omega, show (0 : Int) ≤ (i : Int) by omega, if_true, Pure.succ_b (show i < 1048577 by omega)]
    exact ih (i + 1) (by omega)
theorem same_ev (f : S27) (hl : f.f1.length ≤ 1048576) : Ev (fun k => spec_SameFrame.f k f.f0 f.f1 f.f0 f.f1) true := by
  have e : ((f.f1.length : Int) != (f.f1.length : Int)) = false := by simp
  simp only [spec_SameFrame.f, if_true, e]
  apply Ev.succ
  simp only [spec_SameFrame.j0, Bool.false_eq_true, if_false]
  exact same_l0 f.f0 f.f0 f.f1 hl f.f1.length 0 (by omega)
theorem same_calls (A : Option Addr) (c : Nat) (B : Option Addr) (c' : Nat) (f : S27) (w : World) (h1 : Kd.C (Kd.int .u8) w A f.f1.length f.f1) (h2 : f.f1.length ≤ c) (h3 : Kd.C (Kd.int .u8) w B f.f1.length f.f1) (h4 : f.f1.length ≤ c') (hs : f.f1.length ≤ 1048576) :
    Calls Try.prog 48 #[.agg #[.int .i64 f.f0, .slice A f.f1.length c], .agg #[.int .i64 f.f0, .slice B f.f1.length c']] w fun e w' => e = .returned (.bool true) ∧ Below w.heap.size w w' := by
  obtain ⟨k, hk⟩ := same_ev f hs
  exact spec_SameFrame.calls k f.f0 A c f.f1 f.f0 B c' f.f1 true w h1 h2 h3 h4 (hk k (Nat.le_refl _))
theorem rd66_tk (l : List S66) (i : Nat) : rd_T66 l (i : Int) = tkAt l i := rfl
theorem rd73_at (l : List S73) (i : Nat) : rd_T73 l (i : Int) = l.getD i z73 := rfl
theorem errs_next {l : List S66} {es : List Int} {i : Nat} (h : es.length = l.length ∧ ∀ k, k < i → es.getD k 0 = (tkAt l k).f2) (hi : i < l.length) : (es.set i (tkAt l i).f2).length = l.length ∧ ∀ k, k < i + 1 → (es.set i (tkAt l i).f2).getD k 0 = (tkAt l k).f2 := by
  refine ⟨by rw [List.length_set]; exact h.1, fun k hk => ?_⟩
  rw [getD_seti _ _ _ _ (by rw [h.1]; exact hi)]
  by_cases c : i = k
  · rw [if_pos c, c]
  · rw [if_neg c]; exact h.2 k (by omega)
theorem errs_all {l : List S66} {es : List Int} (h : es.length = l.length ∧ ∀ k, k < l.length → es.getD k 0 = (tkAt l k).f2) : es = l.map (fun t => t.f2) := by
  refine List.ext_getElem (by rw [h.1, List.length_map]) (fun k h1 h2 => ?_)
  have h3 := h.2 k (by omega)
  have h4 : k < l.length := by omega
  rw [List.getElem_map]
  have e : tkAt l k = l[k] := by
    show l.getD k tk0 = _
    simp [List.getD_eq_getElem?_getD, List.getElem?_eq_getElem h4]
  rw [e] at h3
  simpa [List.getD_eq_getElem?_getD, List.getElem?_eq_getElem h1] using h3
theorem s73_mem {sent : List S73} {q : Nat} (h : q < sent.length) : sent.getD q z73 ∈ sent := by simp [List.getD_eq_getElem?_getD, List.getElem?_eq_getElem h]
theorem tdiv_small {a w : Int} (h0 : 0 ≤ a) (h1 : a ≤ 40) (hw : 1 ≤ w) : wrap64 (Int.tdiv a w) = Int.tdiv a w := by
  have e : Int.tdiv a w = a / w := Int.tdiv_eq_ediv_of_nonneg h0
  rw [e]
  have h2 : 0 ≤ a / w := Int.ediv_nonneg h0 (by omega)
  have h3 : a / w ≤ a := Int.ediv_le_self _ h0
  exact EvKit.wrap64_id (by omega) (by omega)
theorem tdiv_wrap {a b w : Int} {n m : Nat} (h : b < a ∧ a ≤ 40 ∧ -1 ≤ b) (hw : n ≤ 6 ∧ m ≤ 40 ∧ 1 ≤ w ∧ w ≤ 20) (h0 : 0 ≤ a) : wrap64 (Int.tdiv a w) = Int.tdiv a w := tdiv_small h0 h.2.1 hw.2.2.1
theorem tdiv_wrap2 {a b w : Int} {n m : Nat} (h : b < a ∧ a ≤ 40 ∧ -1 ≤ b) (hw : n ≤ 6 ∧ m ≤ 40 ∧ 1 ≤ w ∧ w ≤ 20) (h0 : 0 ≤ b) : wrap64 (Int.tdiv b w) = Int.tdiv b w := tdiv_small h0 (by omega) hw.2.2.1
theorem goodT_q {t : S66} (h : goodT t = true) : t.f0.length ≤ 8 ∧ ∀ f ∈ t.f0, f.f1.length ≤ 8 := by
  unfold goodT at h
  simp only [Bool.and_eq_true, decide_eq_true_eq] at h
  refine ⟨h.2.1, fun f hf => ?_⟩
  have := List.all_eq_true.1 h.1 f hf
  unfold goodF at this
  exact (of_decide_eq_true this).2
theorem fr_mem {q : List S27} {k : Nat} (h : k < q.length) : q.getD k z27 ∈ q := by simp [List.getD_eq_getElem?_getD, List.getElem?_eq_getElem h]
theorem beq_dec (a b : Int) : (a == b) = decide (a = b) := by
  by_cases c : a = b
  · rw [beq_iff_eq.2 c, decide_eq_true c]
  · rw [beq_eq_false_iff_ne.2 c, decide_eq_false c]
theorem lt_cut {a b c k : Nat} (h : b + a = c) (hk : k < b) : a + k < c := by omega
theorem cut_wrap {m a k n : Nat} (h : m = a + k) (hn : n ≤ 8) (hk : a + k < n) : wrap64 ((a : Int) + (k : Int)) = (m : Int) := by rw [EvKit.wrap64_id (by omega) (by omega)]; omega
set_option maxHeartbeats 4000000 in
set_option maxRecDepth 100000 in
theorem bfw_walk (A0 : Option Addr) (c0 : Nat) (l : List S66) (A1 : Option Addr) (c1 : Nat) (sent : List S73) (A2 : Option Addr) (c2 : Nat) (last : List S66) (wi : Int) (w : World)
    (hr0 : Kd.C k66 w A0 l.length l) (hc0 : l.length ≤ c0) (hr1 : Kd.C k73 w A1 sent.length sent) (hc1 : sent.length ≤ c1) (hr2 : Kd.C k66 w A2 last.length last) (hc2 : last.length ≤ c2) (hf : FineP l sent last wi) :
    Calls Try.prog 26 #[.slice A0 l.length c0, .slice A1 sent.length c1, .slice A2 last.length c2, .int .i64 wi] w fun e w' => e = .returned (.bool true) ∧ Below w.heap.size w w' := by
  obtain ⟨h6, hg, h40, ⟨hw1, hw2⟩, hrd, SE, hfold, hsame⟩ := hf
  have HR0 := Aside0.mk hr0
  have HC0 := Aside0.mk hc0
  have HR1 := Aside0.mk hr1
  have HC1 := Aside0.mk hc1
  rw [hsame.ln] at hr2 hc2 ⊢
  have HR2 := Aside0.mk hr2
  have HC2 := Aside0.mk hc2
  have HG := Aside0.mk hg
  have HRD := Aside0.mk hrd
  have HFO := Aside0.mk hfold
  have HSA := Aside0.mk hsame
  have HRV : Aside0 (l.length ≤ 6 ∧ sent.length ≤ 40 ∧ 1 ≤ wi ∧ wi ≤ 20) := ⟨⟨h6, h40, hw1, hw2⟩⟩
  have hwb : decide (wi < 1) = false := decide_eq_false (by omega)
  clear hr0 hc0 hr1 hc1 hr2 hc2 hg hrd hfold hsame h40 hw2
  go_enter Try.func26, Try.ntmps26
  have HB : Aside0 (Below w.heap.size w w) := ⟨Below.refl _ _⟩
  go_wp2_with (first | ((with_reducible refine gate_dst (N := 34) rfl ?_); refine Kd.R_make (Kd.int .i64) (w0 := w) w.heap.size 3 rfl (N := 34) rfl 31 _ _ rfl (l.length : Int) rfl rfl Try.underlying31 (.int .i64 0) 8 info3 rfl (by decide) (by omega) 0 (ok := fun _ => True) (okp := fun _ => False) rfl (fun _ hk => hk.elim) trivial (by omega) (by have := HRV.out; omega) HB.out HB.out.size ?_; intro v9 w1 ho hb hg hnew; obtain ⟨b1, hzb1⟩ : ∃ b, b = w1.heap.size := ⟨_, rfl⟩; have HZb1 := Aside0.mk hzb1; clear hzb1; have HA := Aside0.mk (Kd.R_mono (Kd.R_bound ho) (ok' := fun k => k < b1) (fun k hk => by have := HZb1.out; have := hk.2.2.1; omega)); clear HB; have HB := Aside0.mk hb; clear ho hb hg hnew) | ((with_reducible refine gate_dst (N := 37) rfl ?_); refine Kd.R_make (Kd.int .i64) (w0 := w) w.heap.size 3 rfl (N := 37) rfl 31 _ _ rfl (l.length : Int) rfl rfl Try.underlying31 (.int .i64 0) 8 info3 rfl (by decide) (by omega) 0 (ok := fun k => b1 ≤ k) (okp := fun _ => False) rfl (fun _ hk => hk.elim) (by have h := HZb1.out; exact Nat.le_of_eq h) (by omega) (by have := HRV.out; omega) HB.out HB.out.size ?_; intro v10 w2 ho hb hg hnew; obtain ⟨b2, hzb2⟩ : ∃ b, b = w2.heap.size := ⟨_, rfl⟩; have HZb2 := Aside0.mk hzb2; clear hzb2; have HE := Aside0.mk (Kd.R_mono (Kd.R_bound ho) (ok' := fun k => b1 ≤ k ∧ k < b2) (fun k hk => by have := HZb2.out; have := hk.2.2.1; exact ⟨hk.1, by omega⟩)); replace HA := Aside0.mk (Kd.R_grown HA.out hg (fun _ _ h => by cases h)); have HW12 : Aside0 (b1 ≤ b2) := ⟨by have h1 := HZb1.out; have h2 := HZb2.out; rw [h1, h2]; exact hg.size⟩; clear HB; have HB := Aside0.mk hb; clear ho hb hg hnew) | ((with_reducible refine gate_dst (N := 40) rfl ?_); refine Kd.R_make (Kd.int .i64) (w0 := w) w.heap.size 3 rfl (N := 40) rfl 31 _ _ rfl (l.length : Int) rfl rfl Try.underlying31 (.int .i64 0) 8 info3 rfl (by decide) (by omega) 0 (ok := fun k => b2 ≤ k) (okp := fun _ => False) rfl (fun _ hk => hk.elim) (by have h := HZb2.out; exact Nat.le_of_eq h) (by omega) (by have := HRV.out; omega) HB.out HB.out.size ?_; intro v11 w3 ho hb hg hnew; have HU := Aside0.mk ho; replace HA := Aside0.mk (Kd.R_grown HA.out hg (fun _ _ h => by cases h)); replace HE := Aside0.mk (Kd.R_grown HE.out hg (fun _ _ h => by cases h)); have HWZ : Aside0 (b2 ≤ w3.heap.size) := ⟨by have h2 := HZb2.out; rw [h2]; exact hg.size⟩; clear HB; have HB := Aside0.mk hb; clear ho hb hg hnew))
  simp only [Int.toNat_natCast] at HA HE HU
  obtain ⟨A9, d9, e9⟩ := Kd.R_slice HA.out
  rw [List.length_replicate] at e9
  subst e9
  obtain ⟨A10, d10, e10⟩ := Kd.R_slice HE.out
  rw [List.length_replicate] at e10
  subst e10
  have HSI := Aside0.mk (SInv.first HG.out)
  skip
  go_loopg [43] l.length (fun g v43 w' => ∃ (i : Nat) (es : List Int), v43 = .int .i64 (i : Int) ∧ Aside0 (i + g = l.length) ∧ Aside0 (es.length = l.length ∧ ∀ k, k < i → es.getD k 0 = (tkAt l k).f2) ∧ Aside0 (Kd.R (Kd.int .i64) 3 w' w.heap.size (fun k => k < b1) (.slice A9 l.length d9) (List.replicate l.length (0 : Int))) ∧ Aside0 (Kd.R (Kd.int .i64) 3 w' w.heap.size (fun k => b1 ≤ k ∧ k < b2) (.slice A10 l.length d10) es) ∧ Aside0 (Kd.R (Kd.int .i64) 3 w' w.heap.size (fun k => b2 ≤ k) v11 (List.replicate l.length (0 : Int))) ∧ Aside0 (b2 ≤ w'.heap.size) ∧ Aside0 (Below w.heap.size w w'))
  case atStart => exact ⟨0, _, rfl, ⟨by omega⟩, ⟨List.length_replicate, fun k hk => by omega⟩, HA, HE, HU, HWZ, HB⟩
  case round =>
    clear HA HE HU HWZ HB HZb1 HZb2
    obtain ⟨i, es, rfl, HII, HES, HA, HE, HU, HWZ, HB⟩ := hrel
    by_cases ci : i < l.length
    rotate_left
    · have hi : i = l.length := by have := HII.out; omega
      subst hi
      have cib : decide (l.length < l.length) = false := decide_eq_false (by omega)
      clear ci
      have hes := errs_all HES.out
      subst hes
      clear HES
      go_wp2_with fail
      go_loopg [11, 14, 56] sent.length (fun g v11 v14 v56 w' => ∃ (q : Nat) (S : FS), v14 = .int .i64 S.last ∧ v56 = .int .i64 (q : Int) ∧ Aside0 (q + g = sent.length) ∧ Aside0 (SInv l.length q S) ∧ Aside0 (ffold l wi.toNat S (sent.drop q) = some SE) ∧ Aside0 (Kd.R (Kd.int .i64) 3 w' w.heap.size (fun k => k < b1) (.slice A9 l.length d9) S.at_) ∧ Aside0 (Kd.R (Kd.int .i64) 3 w' w.heap.size (fun k => b1 ≤ k ∧ k < b2) (.slice A10 l.length d10) S.err) ∧ Aside0 (Kd.R (Kd.int .i64) 3 w' w.heap.size (fun k => b2 ≤ k) v11 S.used) ∧ Aside0 (b2 ≤ w'.heap.size) ∧ Aside0 (Below w.heap.size w w'))
      case atStart => exact ⟨0, Bus.start l, rfl, rfl, ⟨by omega⟩, HSI, HFO, HA, HE, HU, HWZ, HB⟩
      case round =>
        clear HA HE HU HWZ HB HSI HFO HII
        obtain ⟨q, S, rfl, rfl, HQQ, HSI, HFO, HA, HE, HU, HWZ, HB⟩ := hrel
        by_cases cq : q < sent.length
        rotate_left
        · have cqb : decide (q < sent.length) = false := decide_eq_false cq
          have hq : q = sent.length := by have := HQQ.out; omega
          have hf := HFO.out
          rw [hq, List.drop_length] at hf
          have hS : S = SE := Option.some.inj hf
          subst hS
          have HSM := HSA
          clear hf hq cq HFO
          go_wp2_with fail
          go_loopg [210] l.length (fun g v210 w' => ∃ i : Nat, v210 = .int .i64 (i : Int) ∧ Aside0 (i + g = l.length) ∧ Aside0 (Kd.R (Kd.int .i64) 3 w' w.heap.size (fun k => k < b1) (.slice A9 l.length d9) S.at_) ∧ Aside0 (Kd.R (Kd.int .i64) 3 w' w.heap.size (fun k => b1 ≤ k ∧ k < b2) (.slice A10 l.length d10) S.err) ∧ Aside0 (Kd.R (Kd.int .i64) 3 w' w.heap.size (fun k => b2 ≤ k) u11 S.used) ∧ Aside0 (b2 ≤ w'.heap.size) ∧ Aside0 (Below w.heap.size w w'))
          case atStart => exact ⟨0, rfl, ⟨by omega⟩, HA, HE, HU, HWZ, HB⟩
          case round =>
            clear HA HE HU HWZ HB
            obtain ⟨i, rfl, HII, HA, HE, HU, HWZ, HB⟩ := hrel
            by_cases ci : i < l.length
            rotate_left
            · have cib : decide (i < l.length) = false := decide_eq_false ci
              go_wp2_with fail
              go_ret
              exact ⟨rfl, by repeat (first | exact HB.out | apply pw_below_drewN | apply below_drew1)⟩
            have cib : decide (i < l.length) = true := decide_eq_true ci
            obtain ⟨g3, rfl⟩ : ∃ g3, gk = g3 + 1 := ⟨gk - 1, by have := HII.out; omega⟩
            have htk := HSM.out.tk i ci
            have hab := HSI.out.ab i ci
            have ha1 := HSM.out.a1 i ci
            obtain ⟨ak, hak⟩ : ∃ ak : Nat, S.at_.getD i 0 = (ak : Int) := ⟨(S.at_.getD i 0).toNat, by omega⟩
            obtain ⟨ev, hev⟩ : ∃ x, S.err.getD i 0 = x := ⟨_, rfl⟩
            rw [hak, hev, Int.toNat_natCast] at htk
            rw [hak] at ha1
            have HAK := Aside0.mk hak
            have HEV := Aside0.mk hev
            have hsmq := goodT_q (List.all_eq_true.1 HG.out _ (tk_mem ci))
            obtain ⟨adl, Al, cl, eal, hl0, _, _, _, hlql, hcql⟩ := at_T66 HR0.out (i : Int) (by omega) (by omega)
            cases eal
            rw [rd66_tk] at hl0 hlql hcql
            generalize tkAt l i = tl at hl0 hlql hcql htk ha1 hsmq
            have HQL0 := Aside0.mk hcql
            have HTQ : Aside0 (tl.f0.length ≤ 8 ∧ ∀ f ∈ tl.f0, f.f1.length ≤ 8) := ⟨hsmq⟩
            clear hlql hcql hak hev hab hsmq
            simp only [Int.toNat_natCast] at hl0
            have HL0 := Aside0.mk hl0
            replace hl0 := hc_ HB hl0
            obtain ⟨adt, Aq, cq, ead, hx0, hx1, hx2, hx3, hlq, hcq⟩ := at_T66 HR2.out (i : Int) (by omega) (by omega)
            cases ead
            have HQI := Aside0.mk hcq
            have HQL := Aside0.mk hlq
            clear hcq hlq
            rw [rd66_tk] at hx0 hx1 hx2 hx3 HQI HQL
            obtain ⟨t, hti⟩ : ∃ t, tkAt last i = t := ⟨_, rfl⟩
            rw [hti] at hx0 hx1 hx2 hx3 HQI HQL
            have HTI := Aside0.mk hti
            clear hti
            simp only [Int.toNat_natCast] at hx0 hx1 hx2 hx3
            replace hx0 := hc_ HB hx0
            replace hx1 := hc_ HB hx1
            replace hx2 := hc_ HB hx2
            replace hx3 := hc_ HB hx3
            have ci0 : (0 ≤ (i : Int)) = True := eq_true (by omega)
            have ci1 : (i < l.length) = True := eq_true ci
            have ci2 : ((i : Int) < (l.length : Int)) = True := eq_true (by omega)
            have hT : t = ⟨tl.f0.drop ak, tl.f1, ev, decide (ev = 255)⟩ := by rw [← HTI.out]; exact htk
            clear htk
            have hlen : Aside0 (t.f0.length + ak = tl.f0.length) := ⟨by rw [hT]; show (tl.f0.drop ak).length + ak = _; rw [List.length_drop]; omega⟩
            have hf2 : Aside0 (t.f2 = ev) := ⟨by rw [hT]⟩
            have hf3 : Aside0 (t.f3 = decide (ev = 255)) := ⟨by rw [hT]⟩
            have HFQ : Aside0 (∀ k, k < t.f0.length → t.f0.getD k z27 = tl.f0.getD (ak + k) z27) := ⟨fun k hk => by rw [hT]; show (tl.f0.drop ak).getD k z27 = _; simp [List.getD_eq_getElem?_getD, List.getElem?_drop]⟩
            clear hT
            go_upto_region 41 with (first | ((with_reducible refine gate_dst (N := 20) rfl ?_); refine box_event ?hggt (N := 20) ?hdgt (cs := #[.slice none 0 0, .int .i64 0, .int .i64 0, .bool false]) (t := 66) ?hrgt ?_; (case hdgt => rfl); (case hggt => rfl); (case hrgt => first | (go_simp; done) | (go_simp; rfl)); intro gt hgz wt hbox hb; have gtZ := Aside0.mk hgz; have gtB := Aside0.mk hbox; have gtH := Aside0.mk hb; clear hgz hbox hb; have gtf0 := blk_frozen gtB.out 0; have gtz0 : wt.cell? ⟨gt, 0, none⟩ = some (.slice none 0 0) := (blk_cell gtB.out 0).trans rfl; have gtf1 := blk_frozen gtB.out 1; have gtz1 : wt.cell? ⟨gt, 1, none⟩ = some (.int .i64 0) := (blk_cell gtB.out 1).trans rfl; have gtf2 := blk_frozen gtB.out 2; have gtz2 : wt.cell? ⟨gt, 2, none⟩ = some (.int .i64 0) := (blk_cell gtB.out 2).trans rfl; have gtf3 := blk_frozen gtB.out 3; have gtz3 : wt.cell? ⟨gt, 3, none⟩ = some (.bool false) := (blk_cell gtB.out 3).trans rfl))
            have hle : wr.heap.size ≤ gt := Nat.le_of_eq gtZ.out.symm
            have hbW : Below wr.heap.size wr ((((wt.setCell ⟨gt, 0, none⟩ (.slice Aq t.f0.length cq)).setCell ⟨gt, 1, none⟩ (.int .i64 t.f1)).setCell ⟨gt, 2, none⟩ (.int .i64 t.f2)).setCell ⟨gt, 3, none⟩ (.bool t.f3)) := (below_set (below_set (below_set (below_set gtH.out hle) hle) hle) hle)
            have hBT : ((((wt.setCell ⟨gt, 0, none⟩ (.slice Aq t.f0.length cq)).setCell ⟨gt, 1, none⟩ (.int .i64 t.f1)).setCell ⟨gt, 2, none⟩ (.int .i64 t.f2)).setCell ⟨gt, 3, none⟩ (.bool t.f3)).heap[gt]? = some (.cells #[.slice Aq t.f0.length cq, .int .i64 t.f1, .int .i64 t.f2, .bool t.f3] 66 (0, 0)) := (blk_put (blk_put (blk_put (blk_put gtB.out 0 _ rfl) 1 _ rfl) 2 _ rfl) 3 _ rfl)
            generalize ((((wt.setCell ⟨gt, 0, none⟩ (.slice Aq t.f0.length cq)).setCell ⟨gt, 1, none⟩ (.int .i64 t.f1)).setCell ⟨gt, 2, none⟩ (.int .i64 t.f2)).setCell ⟨gt, 3, none⟩ (.bool t.f3)) = w5 at hbW hBT ⊢
            have BT := Aside0.mk hBT
            replace HA := Aside0.mk (Kd.R_below HA.out hbW)
            replace HE := Aside0.mk (Kd.R_below HE.out hbW)
            replace HU := Aside0.mk (Kd.R_below HU.out hbW)
            replace HB := Aside0.mk (below_step HB.out hbW)
            replace HWZ : Aside0 (b2 ≤ w5.heap.size) := ⟨Nat.le_trans HWZ.out hbW.size⟩
            replace hl0 := pw_cell_below hbW hl0
            clear hBT hbW hle gtB gtH gtf0 gtz0 gtf1 gtz1 gtf2 gtz2 gtf3 gtz3
            clear hx0 hx1 hx2 hx3
            have hla := HSI.out.la
            have hle := HSI.out.le
            obtain ⟨gA, c_, e_, hgA, _, _⟩ := Kd.R_form HA.out (by rw [hla]; omega)
            injection e_ with e1 e2 e3
            clear e2 e3
            subst e1
            obtain ⟨gE, c_, e_, hgE, _, _⟩ := Kd.R_form HE.out (by rw [hle]; omega)
            injection e_ with e1 e2 e3
            clear e2 e3
            subst e1
            have cgA : w5.cell? ⟨gA, i, none⟩ = some (.int .i64 (ak : Int)) := by have h := (Kd.Q_cell (0 : Int) (Kd.Q_of_R HA.out) (i : Int) (by omega) (by omega)).1; rw [Nat.zero_add] at h; rw [← HAK.out]; exact h
            have cgE : w5.cell? ⟨gE, i, none⟩ = some (.int .i64 ev) := by have h := (Kd.Q_cell (0 : Int) (Kd.Q_of_R HE.out) (i : Int) (by omega) (by omega)).1; rw [Nat.zero_add] at h; rw [← HEV.out]; exact h
            clear hla hle
            have wk : wrap64 ((tl.f0.length : Int) - (ak : Int)) = (t.f0.length : Int) := by rw [EvKit.wrap64_id (by have := HTQ.out.1; have := hlen.out; omega) (by have := HTQ.out.1; have := hlen.out; omega)]; have := hlen.out; omega
            have k1 : (t.f2 != ev) = false := by rw [hf2.out]; exact bne_self_eq_false _
            have k2 : (t.f3 != (ev == 255)) = false := by rw [hf3.out, show (ev == 255) = decide (ev = 255) from beq_dec ev 255]; exact bne_self_eq_false _
            have k2' : (t.f3 == (ev == 255)) = true := by rw [hf3.out, show (ev == 255) = decide (ev = 255) from beq_dec ev 255]; cases decide (ev = 255) <;> rfl
            have k3 : ((t.f0.length : Int) != wrap64 ((tl.f0.length : Int) - (ak : Int))) = false := by rw [wk]; exact bne_self_eq_false _
            have HLEN := hlen
            clear hf2 hf3 wk hlen
            have tz0 : w5.cell? ⟨gt, 0, none⟩ = some (.slice Aq t.f0.length cq) := (blk_cell BT.out 0).trans rfl
            have tf0 := blk_frozen BT.out 0
            have tz1 : w5.cell? ⟨gt, 1, none⟩ = some (.int .i64 t.f1) := (blk_cell BT.out 1).trans rfl
            have tf1 := blk_frozen BT.out 1
            have tz2 : w5.cell? ⟨gt, 2, none⟩ = some (.int .i64 t.f2) := (blk_cell BT.out 2).trans rfl
            have tf2 := blk_frozen BT.out 2
            have tz3 : w5.cell? ⟨gt, 3, none⟩ = some (.bool t.f3) := (blk_cell BT.out 3).trans rfl
            have tf3 := blk_frozen BT.out 3
            repeat (go_quiet (fail); try go_wp2)
            clear k1 k2 k2' k3 cgA cgE hl0 tz0 tz1 tz2 tz3 tf0 tf1 tf2 tf3
            go_loopg [252] t.f0.length (fun g v252 w' => ∃ k : Nat, v252 = .int .i64 (k : Int) ∧ Aside0 (k + g = t.f0.length) ∧ Aside0 (Kd.R (Kd.int .i64) 3 w' w.heap.size (fun k => k < b1) (.slice (some ⟨gA, 0, none⟩) l.length d9) S.at_) ∧ Aside0 (Kd.R (Kd.int .i64) 3 w' w.heap.size (fun k => b1 ≤ k ∧ k < b2) (.slice (some ⟨gE, 0, none⟩) l.length d10) S.err) ∧ Aside0 (Kd.R (Kd.int .i64) 3 w' w.heap.size (fun k => b2 ≤ k) u11 S.used) ∧ Aside0 (b2 ≤ w'.heap.size) ∧ Aside0 (Below w.heap.size w w'))
            case atStart => exact ⟨0, rfl, ⟨by omega⟩, ⟨ra_ HA.out⟩, ⟨ra_ HE.out⟩, ⟨ra_ HU.out⟩, HWZ, ⟨by repeat (first | exact HB.out | apply pw_below_drewN | apply below_drew1)⟩⟩
            case round =>
              clear HA HE HU HWZ HB
              obtain ⟨k, rfl, HKK, HA, HE, HU, HWZ, HB⟩ := hrel
              by_cases ck : k < t.f0.length
              rotate_left
              · have ckb : decide (k < t.f0.length) = false := decide_eq_false ck
                go_wp2_with fail
                have hi1 : wrap64 ((i : Int) + 1) = ((i + 1 : Nat) : Int) := by have := HRV.out; rw [EvKit.wrap64_id (by omega) (by omega)]; omega
                go_roundg g3
                case measure => omega
                case rel => exact ⟨i + 1, by first | (rw [← hi1]; done) | rfl | (congr 1; omega), ⟨stp_ HII.out⟩, HA, HE, HU, HWZ, HB⟩
              have ckb : decide (k < t.f0.length) = true := decide_eq_true ck
              obtain ⟨g4, rfl⟩ : ∃ g4, gk = g4 + 1 := ⟨gk - 1, by have := HKK.out; omega⟩
              obtain ⟨m, hm⟩ : ∃ m, m = ak + k := ⟨_, rfl⟩
              have hml : m < tl.f0.length := by rw [hm]; exact lt_cut HLEN.out ck
              have HM := Aside0.mk hm
              have hff := HFQ.out k ck
              rw [← hm] at hff
              clear hm
              obtain ⟨ad5, fA, fc, ead5, hx0, hx1, hfl, hfi⟩ := at_T27 HQI.out (k : Int) (by omega) (by omega)
              cases ead5
              obtain ⟨ad6, gA2, gc2, ead6, hz0, hz1, hgl, hgi⟩ := at_T27 HQL0.out (m : Int) (by omega) (by omega)
              cases ead6
              change w.cell? _ = some (.int .i64 (t.f0.getD (k : Int).toNat z27).f0) at hx0
              change w.cell? _ = some (.slice fA (t.f0.getD (k : Int).toNat z27).f1.length fc) at hx1
              change (t.f0.getD (k : Int).toNat z27).f1.length ≤ fc at hfl
              change (Kd.int .u8).C w fA (t.f0.getD (k : Int).toNat z27).f1.length (t.f0.getD (k : Int).toNat z27).f1 at hfi
              change w.cell? _ = some (.int .i64 (tl.f0.getD (m : Int).toNat z27).f0) at hz0
              change w.cell? _ = some (.slice gA2 (tl.f0.getD (m : Int).toNat z27).f1.length gc2) at hz1
              change (tl.f0.getD (m : Int).toNat z27).f1.length ≤ gc2 at hgl
              change (Kd.int .u8).C w gA2 (tl.f0.getD (m : Int).toNat z27).f1.length (tl.f0.getD (m : Int).toNat z27).f1 at hgi
              simp only [Int.toNat_natCast] at hx0 hx1 hfl hfi hz0 hz1 hgl hgi
              rw [hff] at hx0 hx1 hfl hfi
              have hsf : (tl.f0.getD m z27).f1.length ≤ 1048576 := Nat.le_trans (HTQ.out.2 _ (fr_mem hml)) (by decide)
              generalize tl.f0.getD m z27 = f at hx0 hx1 hfl hfi hz0 hz1 hgl hgi hsf
              clear hff
              have HFI := Aside0.mk hfi
              have HFL := Aside0.mk hfl
              have HGI := Aside0.mk hgi
              have HGL := Aside0.mk hgl
              have HSF := Aside0.mk hsf
              clear hfi hfl hgi hgl hsf
              replace hx0 := hc_ HB hx0
              replace hx1 := hc_ HB hx1
              replace hz0 := hc_ HB hz0
              replace hz1 := hc_ HB hz1
              have ck0 : (0 ≤ (k : Int)) = True := eq_true (Int.natCast_nonneg k)
              have ck1 : (k < t.f0.length) = True := eq_true ck
              have ck2 : ((k : Int) < (t.f0.length : Int)) = True := eq_true (Int.ofNat_lt.2 ck)
              have m1 : (m < tl.f0.length) = True := eq_true hml
              have m2 : ((m : Int) < (tl.f0.length : Int)) = True := eq_true (Int.ofNat_lt.2 hml)
              have m0 : (0 ≤ (m : Int)) = True := eq_true (Int.natCast_nonneg m)
              clear hml
              go_upto_region 46 with (first | ((with_reducible refine gate_dst (N := 22) rfl ?_); refine box_event ?hggf (N := 22) ?hdgf (cs := #[.int .i64 0, .slice none 0 0]) (t := 27) ?hrgf ?_; (case hdgf => rfl); (case hggf => rfl); (case hrgf => first | (go_simp; done) | (go_simp; rfl)); intro gf hgz wf hbox hb; have gfZ := Aside0.mk hgz; have gfB := Aside0.mk hbox; have gfH := Aside0.mk hb; clear hgz hbox hb; have gff0 := blk_frozen gfB.out 0; have gfz0 : wf.cell? ⟨gf, 0, none⟩ = some (.int .i64 0) := (blk_cell gfB.out 0).trans rfl; have gff1 := blk_frozen gfB.out 1; have gfz1 : wf.cell? ⟨gf, 1, none⟩ = some (.slice none 0 0) := (blk_cell gfB.out 1).trans rfl))
              have hle : wr.heap.size ≤ gf := Nat.le_of_eq gfZ.out.symm
              have hbW : Below wr.heap.size wr ((wf.setCell ⟨gf, 0, none⟩ (.int .i64 f.f0)).setCell ⟨gf, 1, none⟩ (.slice fA f.f1.length fc)) := (below_set (below_set gfH.out hle) hle)
              have hBT : ((wf.setCell ⟨gf, 0, none⟩ (.int .i64 f.f0)).setCell ⟨gf, 1, none⟩ (.slice fA f.f1.length fc)).heap[gf]? = some (.cells #[.int .i64 f.f0, .slice fA f.f1.length fc] 27 (0, 0)) := (blk_put (blk_put gfB.out 0 _ rfl) 1 _ rfl)
              generalize ((wf.setCell ⟨gf, 0, none⟩ (.int .i64 f.f0)).setCell ⟨gf, 1, none⟩ (.slice fA f.f1.length fc)) = w6 at hbW hBT ⊢
              have BF := Aside0.mk hBT
              replace HA := Aside0.mk (Kd.R_below HA.out hbW)
              replace HE := Aside0.mk (Kd.R_below HE.out hbW)
              replace HU := Aside0.mk (Kd.R_below HU.out hbW)
              replace HB := Aside0.mk (below_step HB.out hbW)
              replace HWZ : Aside0 (b2 ≤ w6.heap.size) := ⟨Nat.le_trans HWZ.out hbW.size⟩
              replace hz0 := pw_cell_below hbW hz0
              replace hz1 := pw_cell_below hbW hz1
              have hl0 := hc_ HB HL0.out
              clear hBT hbW hle gfB gfH gff0 gfz0 gff1 gfz1
              clear hx0 hx1 ck0 ck1 ck2
              have hla := HSI.out.la
              have cgA : w6.cell? ⟨gA, i, none⟩ = some (.int .i64 (ak : Int)) := by have h := (Kd.Q_cell (0 : Int) (Kd.Q_of_R HA.out) (i : Int) (Int.natCast_nonneg i) (Int.ofNat_lt.2 ci)).1; rw [Nat.zero_add] at h; rw [← HAK.out]; exact h
              clear hla
              have wk2 : IntKind.i64.wrap ((ak : Int) + (k : Int)) = (m : Int) := by rw [i64_w]; exact cut_wrap HM.out HTQ.out.1 (lt_cut HLEN.out ck)
              have fz0 : w6.cell? ⟨gf, 0, none⟩ = some (.int .i64 f.f0) := (blk_cell BF.out 0).trans rfl
              have ff0 := blk_frozen BF.out 0
              have fz1 : w6.cell? ⟨gf, 1, none⟩ = some (.slice fA f.f1.length fc) := (blk_cell BF.out 1).trans rfl
              have ff1 := blk_frozen BF.out 1
              refine start_ (n := 16) (S := fun w' => w'.cell? ⟨gf, 0, none⟩ = some (.int .i64 f.f0) ∧ w'.cell? ⟨gf, 1, none⟩ = some (.slice fA f.f1.length fc) ∧ w'.cell? (adl.add (i * 4)) = some (.slice (some ad6) tl.f0.length cl) ∧ w'.cell? ⟨gA, i, none⟩ = some (.int .i64 (ak : Int)) ∧ w'.cell? (ad6.add (m * 2)) = some (.int .i64 f.f0) ∧ w'.cell? ⟨(ad6.add (m * 2)).block, (ad6.add (m * 2)).off + 1, none⟩ = some (.slice gA2 f.f1.length gc2)) (ds := []) #[false, false, false, false, false, false, false, false, false, false, false, false, false, false, false, false] (by kernel_rfl) rfl rfl ⟨fz0, fz1, hl0, cgA, hz0, hz1⟩ (fun hHeld => ?_)
              have hb : Below w6.heap.size w6 w6.drew := by apply below_drew1; exact Below.refl _ _
              replace HA := Aside0.mk (Kd.R_below HA.out hb)
              replace HE := Aside0.mk (Kd.R_below HE.out hb)
              replace HU := Aside0.mk (Kd.R_below HU.out hb)
              replace HB := Aside0.mk (below_step HB.out hb)
              replace HWZ : Aside0 (b2 ≤ w6.drew.heap.size) := ⟨Nat.le_trans HWZ.out hb.size⟩
              replace fz0 := pw_cell_below hb fz0
              replace fz1 := pw_cell_below hb fz1
              replace hl0 := pw_cell_below hb hl0
              replace cgA := pw_cell_below hb cgA
              replace hz0 := pw_cell_below hb hz0
              replace hz1 := pw_cell_below hb hz1
              clear hb ff0 ff1
              generalize w6.drew = w7 at HA HE HU HB HWZ fz0 fz1 hl0 cgA hz0 hz1 hHeld ⊢
              refine pure_ (i := 1) (N := some 258) (v := ?_) (a' := ?_) #[false, true, false, false, false, false, false, false, false, false, false, false, false, false, false, false] rfl rfl (by kernel_rfl) (fun _ _ _ h => h) (Or.inl ⟨by rfl, ?_⟩) ?_ ?_
              rotate_left
              · intro w'
                go_simp
                with_reducible rfl
              rotate_left
              · simp only [Act.put, List.setIfInBounds_toArray, List.set_cons_zero, List.set_cons_succ]
                rfl
              refine pure_ (i := 2) (N := some 259) (v := ?_) (a' := ?_) #[false, true, true, false, false, false, false, false, false, false, false, false, false, false, false, false] rfl rfl (by kernel_rfl) (fun _ _ _ h => h) (Or.inl ⟨by rfl, ?_⟩) ?_ ?_
              rotate_left
              · intro w'
                go_simp
                with_reducible rfl
              rotate_left
              · simp only [Act.put, List.setIfInBounds_toArray, List.set_cons_zero, List.set_cons_succ]
                rfl
              refine pure_ (i := 3) (N := some 260) (v := ?_) (a' := ?_) #[false, true, true, true, false, false, false, false, false, false, false, false, false, false, false, false] rfl rfl (by kernel_rfl) (fun _ _ _ h => h) (Or.inl ⟨by rfl, ?_⟩) ?_ ?_
              rotate_left
              · intro w'
                go_simp
                with_reducible rfl
              rotate_left
              · simp only [Act.put, List.setIfInBounds_toArray, List.set_cons_zero, List.set_cons_succ]
                rfl
              refine pure_ (i := 4) (N := some 261) (v := ?_) (a' := ?_) #[false, true, true, true, true, false, false, false, false, false, false, false, false, false, false, false] rfl rfl (by kernel_rfl) (fun _ _ _ h => h) (Or.inl ⟨by rfl, ?_⟩) ?_ ?_
              rotate_left
              · intro w'
                go_simp
                with_reducible rfl
              rotate_left
              · simp only [Act.put, List.setIfInBounds_toArray, List.set_cons_zero, List.set_cons_succ]
                rfl
              refine take_ (i := 5) (N := some 262) (v := ?_) (a' := ?_) #[false, true, true, true, true, true, false, false, false, false, false, false, false, false, false, false] rfl rfl (by kernel_rfl) (fun _ _ _ h => h) (Or.inl ⟨by rfl, ?_⟩) hHeld ?_ ?_
              rotate_left
              · rintro w' ⟨s0, s1, s2, s3, s4, s5⟩
                go_simp
                with_reducible rfl
              rotate_left
              · simp only [Act.put, List.setIfInBounds_toArray, List.set_cons_zero, List.set_cons_succ]
                rfl
              refine pure_ (i := 6) (N := some 263) (v := ?_) (a' := ?_) #[false, true, true, true, true, true, true, false, false, false, false, false, false, false, false, false] rfl rfl (by kernel_rfl) (fun _ _ _ h => h) (Or.inl ⟨by rfl, ?_⟩) ?_ ?_
              rotate_left
              · intro w'
                go_simp
                with_reducible rfl
              rotate_left
              · simp only [Act.put, List.setIfInBounds_toArray, List.set_cons_zero, List.set_cons_succ]
                rfl
              refine pure_ (i := 7) (N := some 264) (v := ?_) (a' := ?_) #[false, true, true, true, true, true, true, true, false, false, false, false, false, false, false, false] rfl rfl (by kernel_rfl) (fun _ _ _ h => h) (Or.inl ⟨by rfl, ?_⟩) ?_ ?_
              rotate_left
              · intro w'
                go_simp
                with_reducible rfl
              rotate_left
              · simp only [Act.put, List.setIfInBounds_toArray, List.set_cons_zero, List.set_cons_succ]
                rfl
              refine pure_ (i := 8) (N := some 265) (v := ?_) (a' := ?_) #[false, true, true, true, true, true, true, true, true, false, false, false, false, false, false, false] rfl rfl (by kernel_rfl) (fun _ _ _ h => h) (Or.inl ⟨by rfl, ?_⟩) ?_ ?_
              rotate_left
              · intro w'
                go_simp
                with_reducible rfl
              rotate_left
              · simp only [Act.put, List.setIfInBounds_toArray, List.set_cons_zero, List.set_cons_succ]
                rfl
              refine take_ (i := 9) (N := some 266) (v := ?_) (a' := ?_) #[false, true, true, true, true, true, true, true, true, true, false, false, false, false, false, false] rfl rfl (by kernel_rfl) (fun _ _ _ h => h) (Or.inl ⟨by rfl, ?_⟩) hHeld ?_ ?_
              rotate_left
              · rintro w' ⟨s0, s1, s2, s3, s4, s5⟩
                go_simp
                with_reducible rfl
              rotate_left
              · simp only [Act.put, List.setIfInBounds_toArray, List.set_cons_zero, List.set_cons_succ]
                rfl
              refine pure_ (i := 10) (N := some 267) (v := ?_) (a' := ?_) #[false, true, true, true, true, true, true, true, true, true, true, false, false, false, false, false] rfl rfl (by kernel_rfl) (fun _ _ _ h => h) (Or.inl ⟨by rfl, ?_⟩) ?_ ?_
              rotate_left
              · intro w'
                go_simp
                with_reducible rfl
              rotate_left
              · simp only [Act.put, List.setIfInBounds_toArray, List.set_cons_zero, List.set_cons_succ]
                rfl
              refine pure_ (i := 11) (N := some 268) (v := ?_) (a' := ?_) #[false, true, true, true, true, true, true, true, true, true, true, true, false, false, false, false] rfl rfl (by kernel_rfl) (fun _ _ _ h => h) (Or.inl ⟨by rfl, ?_⟩) ?_ ?_
              rotate_left
              · intro w'
                go_simp
                with_reducible rfl
              rotate_left
              · simp only [Act.put, List.setIfInBounds_toArray, List.set_cons_zero, List.set_cons_succ]
                rfl
              refine pure_ (i := 12) (N := some 269) (v := ?_) (a' := ?_) #[false, true, true, true, true, true, true, true, true, true, true, true, true, false, false, false] rfl rfl (by kernel_rfl) (fun _ _ _ h => h) (Or.inl ⟨by rfl, ?_⟩) ?_ ?_
              rotate_left
              · intro w'
                go_simp
                with_reducible rfl
              rotate_left
              · simp only [Act.put, List.setIfInBounds_toArray, List.set_cons_zero, List.set_cons_succ]
                rfl
              refine take_ (i := 13) (N := some 270) (v := ?_) (a' := ?_) #[false, true, true, true, true, true, true, true, true, true, true, true, true, true, false, false] rfl rfl (by kernel_rfl) (fun _ _ _ h => h) (Or.inl ⟨by rfl, ?_⟩) hHeld ?_ ?_
              rotate_left
              · rintro w' ⟨s0, s1, s2, s3, s4, s5⟩
                go_simp
                with_reducible rfl
              rotate_left
              · simp only [Act.put, List.setIfInBounds_toArray, List.set_cons_zero, List.set_cons_succ]
                rfl
              refine take_ (i := 0) (N := some 257) (v := ?_) (a' := ?_) #[true, true, true, true, true, true, true, true, true, true, true, true, true, true, false, false] rfl rfl (by kernel_rfl) (fun _ _ _ h => h) (Or.inl ⟨by rfl, ?_⟩) hHeld ?_ ?_
              rotate_left
              · rintro w' ⟨s0, s1, s2, s3, s4, s5⟩
                go_simp
                with_reducible rfl
              rotate_left
              · simp only [Act.put, List.setIfInBounds_toArray, List.set_cons_zero, List.set_cons_succ]
                rfl
              refine one_ (i := 14) (N := some 271) #[true, true, true, true, true, true, true, true, true, true, true, true, true, true, true, false] rfl rfl (by kernel_rfl) (by decide) (fun K hK => ?_)
              refine goes_ Try.func48 (by kernel_rfl) rfl #[.agg #[.int .i64 f.f0, .slice fA f.f1.length fc], .agg #[.int .i64 f.f0, .slice gA2 f.f1.length gc2]] (by rfl) rfl rfl (by simp only [List.map_toArray, List.map_cons, List.map_nil]; rfl) ?_
              refine (same_calls fA fc gA2 gc2 f _ (Kd.C_below HFI.out HB.out) HFL.out (Kd.C_below HGI.out HB.out) HGL.out HSF.out).mono ?_
              rintro e w8 ⟨rfl, hb⟩
              replace HA := Aside0.mk (Kd.R_below HA.out hb)
              replace HE := Aside0.mk (Kd.R_below HE.out hb)
              replace HU := Aside0.mk (Kd.R_below HU.out hb)
              replace HB := Aside0.mk (below_step HB.out hb)
              replace HWZ : Aside0 (b2 ≤ w8.heap.size) := ⟨Nat.le_trans HWZ.out hb.size⟩
              replace fz0 := pw_cell_below hb fz0
              replace fz1 := pw_cell_below hb fz1
              replace hl0 := pw_cell_below hb hl0
              replace cgA := pw_cell_below hb cgA
              replace hz0 := pw_cell_below hb hz0
              replace hz1 := pw_cell_below hb hz1
              clear hb
              refine ⟨_, rfl, ?_⟩
              refine hK.out _ _ ⟨fz0, fz1, hl0, cgA, hz0, hz1⟩ (fun hHeld => ?_)
              clear hK K
              refine norm_ (a' := ?_) ?_ ?_
              rotate_left
              · show Act.put _ (some 271) _ = _
                simp only [Act.put, List.setIfInBounds_toArray, List.set_cons_zero, List.set_cons_succ]
                rfl
              refine pure_ (i := 15) (N := some 272) (v := ?_) (a' := ?_) #[true, true, true, true, true, true, true, true, true, true, true, true, true, true, true, true] rfl rfl (by kernel_rfl) (fun _ _ _ h => h) (Or.inl ⟨by rfl, ?_⟩) ?_ ?_
              rotate_left
              · intro w'
                go_simp
                with_reducible rfl
              rotate_left
              · simp only [Act.put, List.setIfInBounds_toArray, List.set_cons_zero, List.set_cons_succ]
                rfl
              refine done_ (by kernel_rfl) ?_
              clear fz0 fz1 hl0 cgA hz0 hz1 m0 m1 m2 wk2
              go_wp2_with fail
              have hk1 : wrap64 ((k : Int) + 1) = ((k + 1 : Nat) : Int) := by have := HTQ.out.1; have := HLEN.out; rw [EvKit.wrap64_id (by omega) (by omega)]; omega
              go_roundg g4
              case measure => omega
              case rel => exact ⟨k + 1, by first | (rw [← hk1]; done) | rfl | (congr 1; omega), ⟨stp_ HKK.out⟩, HA, HE, HU, HWZ, HB⟩
        have cqb : decide (q < sent.length) = true := decide_eq_true cq
        obtain ⟨g, rfl⟩ : ∃ g, gk = g + 1 := ⟨gk - 1, by have := HQQ.out; omega⟩
        obtain ⟨S1, hst, hfo1⟩ := ffold_drop HFO.out cq
        have hr40 := (HRD.out _ (s73_mem cq)).2
        have HSI1 := Aside0.mk (fstep_inv HSI.out hst hr40)
        have HFO1 := Aside0.mk hfo1
        obtain ⟨hl, ⟨wn, hwn, hwl⟩, hfit, hS1⟩ := fstep_some hst
        obtain ⟨ads, eads, hx0, hx1, hx2, hx3⟩ := at_T73 HR1.out (q : Int) (by omega) (by omega)
        cases eads
        rw [rd73_at] at hx0 hx1 hx2 hx3
        clear hst hfo1 HFO
        generalize sent.getD q z73 = s at hr40 hl hwn hfit hS1 hx0 hx1 hx2 hx3
        obtain ⟨r0, who, id0, gd⟩ := s
        dsimp only at hr40 hl hwn hfit hS1 hx0 hx1 hx2 hx3
        subst hwn
        simp only [Int.toNat_natCast] at hS1 hx0 hx1 hx2 hx3
        replace hx0 := hc_ HB hx0
        replace hx1 := hc_ HB hx1
        replace hx2 := hc_ HB hx2
        replace hx3 := hc_ HB hx3
        have HFIT := Aside0.mk hfit
        have HS1 := Aside0.mk hS1
        have HR0B : Aside0 (S.last < r0 ∧ r0 ≤ 40 ∧ -1 ≤ S.last) := ⟨⟨hl, hr40, HSI.out.lb.1⟩⟩
        have e1 : decide (r0 ≤ S.last) = false := decide_eq_false (by omega)
        have e2 : decide ((wn : Int) < 0) = false := decide_eq_false (by omega)
        have e3 : decide ((l.length : Int) ≤ (wn : Int)) = false := decide_eq_false (by omega)
        have e4 : decide (l.length ≤ wn) = false := decide_eq_false (by omega)
        clear hfit hS1 hl hr40
        have cq0 : (0 ≤ (q : Int)) = True := eq_true (by omega)
        have cq1 : (q < sent.length) = True := eq_true cq
        have cq2 : ((q : Int) < (sent.length : Int)) = True := eq_true (by omega)
        go_upto_region 15 with (first | ((with_reducible refine gate_dst (N := 16) rfl ?_); refine box_event ?hggs (N := 16) ?hdgs (cs := #[.int .i64 0, .int .i64 0, .int .i64 0, .bool false]) (t := 73) ?hrgs ?_; (case hdgs => rfl); (case hggs => rfl); (case hrgs => first | (go_simp; done) | (go_simp; rfl)); intro gs hgz ws hbox hb; have gsZ := Aside0.mk hgz; have gsB := Aside0.mk hbox; have gsH := Aside0.mk hb; clear hgz hbox hb; have gsf0 := blk_frozen gsB.out 0; have gsz0 : ws.cell? ⟨gs, 0, none⟩ = some (.int .i64 0) := (blk_cell gsB.out 0).trans rfl; have gsf1 := blk_frozen gsB.out 1; have gsz1 : ws.cell? ⟨gs, 1, none⟩ = some (.int .i64 0) := (blk_cell gsB.out 1).trans rfl; have gsf2 := blk_frozen gsB.out 2; have gsz2 : ws.cell? ⟨gs, 2, none⟩ = some (.int .i64 0) := (blk_cell gsB.out 2).trans rfl; have gsf3 := blk_frozen gsB.out 3; have gsz3 : ws.cell? ⟨gs, 3, none⟩ = some (.bool false) := (blk_cell gsB.out 3).trans rfl))
        have hle : wr.heap.size ≤ gs := Nat.le_of_eq gsZ.out.symm
        have hbW : Below wr.heap.size wr ((((ws.setCell ⟨gs, 0, none⟩ (.int .i64 r0)).setCell ⟨gs, 1, none⟩ (.int .i64 (wn : Int))).setCell ⟨gs, 2, none⟩ (.int .i64 id0)).setCell ⟨gs, 3, none⟩ (.bool gd)) := (below_set (below_set (below_set (below_set gsH.out hle) hle) hle) hle)
        have hBT : ((((ws.setCell ⟨gs, 0, none⟩ (.int .i64 r0)).setCell ⟨gs, 1, none⟩ (.int .i64 (wn : Int))).setCell ⟨gs, 2, none⟩ (.int .i64 id0)).setCell ⟨gs, 3, none⟩ (.bool gd)).heap[gs]? = some (.cells #[.int .i64 r0, .int .i64 (wn : Int), .int .i64 id0, .bool gd] 73 (0, 0)) := (blk_put (blk_put (blk_put (blk_put gsB.out 0 _ rfl) 1 _ rfl) 2 _ rfl) 3 _ rfl)
        generalize ((((ws.setCell ⟨gs, 0, none⟩ (.int .i64 r0)).setCell ⟨gs, 1, none⟩ (.int .i64 (wn : Int))).setCell ⟨gs, 2, none⟩ (.int .i64 id0)).setCell ⟨gs, 3, none⟩ (.bool gd)) = w4 at hbW hBT ⊢
        have BS := Aside0.mk hBT
        replace HA := Aside0.mk (Kd.R_below HA.out hbW)
        replace HE := Aside0.mk (Kd.R_below HE.out hbW)
        replace HU := Aside0.mk (Kd.R_below HU.out hbW)
        replace HB := Aside0.mk (below_step HB.out hbW)
        replace HWZ : Aside0 (b2 ≤ w4.heap.size) := ⟨Nat.le_trans HWZ.out hbW.size⟩
        skip
        clear hBT hbW hle gsB gsH gsf0 gsz0 gsf1 gsz1 gsf2 gsz2 gsf3 gsz3
        clear hx0 hx1 hx2 hx3 cq0 cq1 cq2
        have zz0 : w4.cell? ⟨gs, 0, none⟩ = some (.int .i64 r0) := (blk_cell BS.out 0).trans rfl
        have zf0 := blk_frozen BS.out 0
        have zz1 : w4.cell? ⟨gs, 1, none⟩ = some (.int .i64 (wn : Int)) := (blk_cell BS.out 1).trans rfl
        have zf1 := blk_frozen BS.out 1
        have zz2 : w4.cell? ⟨gs, 2, none⟩ = some (.int .i64 id0) := (blk_cell BS.out 2).trans rfl
        have zf2 := blk_frozen BS.out 2
        have zz3 : w4.cell? ⟨gs, 3, none⟩ = some (.bool gd) := (blk_cell BS.out 3).trans rfl
        have zf3 := blk_frozen BS.out 3
        go_upto_if 87 with (fail)
        clear e1 e2 e3 e4
        go_cut [87] (fun v87 wc => v87 = .bool (decide (S.last < 0 ∨ Int.tdiv r0 wi ≠ Int.tdiv S.last wi)) ∧ Aside0 (wc.heap[gs]? = some (.cells #[.int .i64 r0, .int .i64 (wn : Int), .int .i64 id0, .bool gd] 73 (0, 0))) ∧ Aside0 (Kd.R (Kd.int .i64) 3 wc w.heap.size (fun k => k < b1) (.slice A9 l.length d9) S.at_) ∧ Aside0 (Kd.R (Kd.int .i64) 3 wc w.heap.size (fun k => b1 ≤ k ∧ k < b2) (.slice A10 l.length d10) S.err) ∧ Aside0 (Kd.R (Kd.int .i64) 3 wc w.heap.size (fun k => b2 ≤ k) u11 S.used) ∧ Aside0 (b2 ≤ wc.heap.size) ∧ Aside0 (Below w.heap.size w wc))
        case first =>
          have hrv := HRV.out
          have hr0b := HR0B.out
          have hw0 : (wi = 0) = False := eq_false (by omega)
          have hw1' : (wi = -1) = False := eq_false (by omega)
          by_cases k1 : S.last < 0
          · have k1b : decide (S.last < 0) = true := decide_eq_true k1
            have hcd : Aside0 (decide (S.last < 0 ∨ Int.tdiv r0 wi ≠ Int.tdiv S.last wi) = true) := ⟨decide_eq_true (Or.inl k1)⟩
            clear k1 hr0b hrv
            repeat (go_quiet (fail); try go_wp2)
            go_meet
            case rel => exact ⟨by rw [hcd.out], ⟨by repeat (first | exact BS.out | apply blk_drewN | apply blk_drew)⟩, ⟨ra_ HA.out⟩, ⟨ra_ HE.out⟩, ⟨ra_ HU.out⟩, HWZ, ⟨by repeat (first | exact HB.out | apply pw_below_drewN | apply below_drew1)⟩⟩
          have k1b : decide (S.last < 0) = false := decide_eq_false k1
          have d1 : wrap64 (Int.tdiv r0 wi) = Int.tdiv r0 wi := tdiv_wrap hr0b hrv (by omega)
          have d2 : wrap64 (Int.tdiv S.last wi) = Int.tdiv S.last wi := tdiv_wrap2 hr0b hrv (by omega)
          by_cases k2 : Int.tdiv r0 wi = Int.tdiv S.last wi
          rotate_left
          · have k2b : (Int.tdiv r0 wi != Int.tdiv S.last wi) = true := bne_iff_ne.2 k2
            have hcd : Aside0 (decide (S.last < 0 ∨ Int.tdiv r0 wi ≠ Int.tdiv S.last wi) = true) := ⟨decide_eq_true (Or.inr k2)⟩
            clear k1 k2 hr0b hrv
            repeat (go_quiet (fail); try go_wp2)
            go_meet
            case rel => exact ⟨by rw [hcd.out], ⟨by repeat (first | exact BS.out | apply blk_drewN | apply blk_drew)⟩, ⟨ra_ HA.out⟩, ⟨ra_ HE.out⟩, ⟨ra_ HU.out⟩, HWZ, ⟨by repeat (first | exact HB.out | apply pw_below_drewN | apply below_drew1)⟩⟩
          have k2b : (Int.tdiv r0 wi != Int.tdiv S.last wi) = false := by rw [k2]; exact bne_self_eq_false _
          have hcd : Aside0 (decide (S.last < 0 ∨ Int.tdiv r0 wi ≠ Int.tdiv S.last wi) = false) := ⟨decide_eq_false (fun h => by rcases h with h | h; exact k1 h; exact h k2)⟩
          clear k1 k2 hr0b hrv
          repeat (go_quiet (fail); try go_wp2)
          go_meet
          case rel => exact ⟨by rw [hcd.out], ⟨by repeat (first | exact BS.out | apply blk_drewN | apply blk_drew)⟩, ⟨ra_ HA.out⟩, ⟨ra_ HE.out⟩, ⟨ra_ HU.out⟩, HWZ, ⟨by repeat (first | exact HB.out | apply pw_below_drewN | apply below_drew1)⟩⟩
        case rest =>
          clear HA HE HU HWZ HB BS zz0 zz1 zz2 zz3 zf0 zf1 zf2 zf3
          obtain ⟨rfl, BS, HA, HE, HU, HWZ, HB⟩ := hcut
          go_upto_if 87 with (fail)
          go_cut [11] (fun v11 wd => ∃ z11 : Value, v11 = z11 ∧ Aside0 (wd.heap[gs]? = some (.cells #[.int .i64 r0, .int .i64 (wn : Int), .int .i64 id0, .bool gd] 73 (0, 0))) ∧ Aside0 (Kd.R (Kd.int .i64) 3 wd w.heap.size (fun k => k < b1) (.slice A9 l.length d9) S.at_) ∧ Aside0 (Kd.R (Kd.int .i64) 3 wd w.heap.size (fun k => b1 ≤ k ∧ k < b2) (.slice A10 l.length d10) S.err) ∧ Aside0 (Kd.R (Kd.int .i64) 3 wd w.heap.size (fun k => b2 ≤ k) z11 (useOf wi.toNat S l.length r0)) ∧ Aside0 (b2 ≤ wd.heap.size) ∧ Aside0 (Below w.heap.size w wd))
          case first =>
            have hwt : ((wi.toNat : Nat) : Int) = wi := Int.toNat_of_nonneg (by have := HRV.out; omega)
            by_cases kc : (S.last < 0 ∨ Int.tdiv r0 wi ≠ Int.tdiv S.last wi)
            · have hus : Aside0 (useOf wi.toNat S l.length r0 = List.replicate l.length 0) := ⟨by unfold useOf; rw [hwt]; exact if_pos kc⟩
              have hcd : decide (S.last < 0 ∨ Int.tdiv r0 wi ≠ Int.tdiv S.last wi) = true := decide_eq_true kc
              rw [hcd]
              clear kc hwt hcd
              go_wp2_with (first | ((with_reducible refine gate_dst (N := 90) rfl ?_); refine Kd.R_make (Kd.int .i64) (w0 := w) w.heap.size 3 rfl (N := 90) rfl 31 _ _ rfl (l.length : Int) rfl rfl Try.underlying31 (.int .i64 0) 8 info3 rfl (by decide) (by omega) 0 (ok := fun k => b2 ≤ k) (okp := fun _ => False) rfl (fun _ hk => hk.elim) (by have := HWZ.out; omega) (by omega) (by have := HRV.out; omega) HB.out HB.out.size ?_; intro v11 w5 ho hb hg hnew; have n0_ := Aside0.mk ho; have n1_ := Aside0.mk (Kd.R_grown HA.out hg (fun _ _ h => by cases h)); have n2_ := Aside0.mk (Kd.R_grown HE.out hg (fun _ _ h => by cases h)); have n3_ := Aside0.mk hb; have n4_ : Aside0 (b2 ≤ w5.heap.size) := ⟨Nat.le_trans HWZ.out hg.size⟩; have n5_ := Aside0.mk (blk_grown BS.out hg (fun h => by cases h)); clear HA HE HU HB HWZ BS ho hb hg hnew; have HU := n0_; have HA := n1_; have HE := n2_; have HB := n3_; have HWZ := n4_; have BS := n5_; clear n0_ n1_ n2_ n3_ n4_ n5_; simp only [Int.toNat_natCast] at HU))
              go_meet
              case rel => exact ⟨_, rfl, BS, HA, HE, ⟨by rw [hus.out]; exact HU.out⟩, HWZ, HB⟩
            have hus : Aside0 (useOf wi.toNat S l.length r0 = S.used) := ⟨by unfold useOf; rw [hwt]; exact if_neg kc⟩
            have hcd : decide (S.last < 0 ∨ Int.tdiv r0 wi ≠ Int.tdiv S.last wi) = false := decide_eq_false kc
            rw [hcd]
            clear kc hwt hcd
            go_wp2_with fail
            go_meet
            case rel => exact ⟨_, rfl, BS, HA, HE, ⟨by rw [hus.out]; exact HU.out⟩, HWZ, HB⟩
          case rest => as_aux_lemma =>
          clear HA HE HU HWZ HB BS
          obtain ⟨_, rfl, BS, HA, HE, HU, HWZ, HB⟩ := hcut
          obtain ⟨hul, hub⟩ := useOf_inv (w := wi.toNat) HSI.out r0
          generalize useOf wi.toNat S l.length r0 = u at HU HFIT HS1 hul hub
          obtain ⟨A11, d11, e11⟩ := Kd.R_slice HU.out
          rw [hul] at e11
          subst e11
          have HUL := Aside0.mk hul
          have HUB := Aside0.mk hub
          clear hul hub
          have zz0 : wc.cell? ⟨gs, 0, none⟩ = some (.int .i64 r0) := (blk_cell BS.out 0).trans rfl
          have zf0 := blk_frozen BS.out 0
          have zz1 : wc.cell? ⟨gs, 1, none⟩ = some (.int .i64 (wn : Int)) := (blk_cell BS.out 1).trans rfl
          have zf1 := blk_frozen BS.out 1
          have zz2 : wc.cell? ⟨gs, 2, none⟩ = some (.int .i64 id0) := (blk_cell BS.out 2).trans rfl
          have zf2 := blk_frozen BS.out 2
          have zz3 : wc.cell? ⟨gs, 3, none⟩ = some (.bool gd) := (blk_cell BS.out 3).trans rfl
          have zf3 := blk_frozen BS.out 3
          go_wp2_with fail
          clear zz0 zz1 zz2 zz3 zf0 zf1 zf2 zf3
          go_loopg [95] l.length (fun g v95 w' => ∃ i : Nat, v95 = .int .i64 (i : Int) ∧ Aside0 (i + g = l.length) ∧ Aside0 (w'.heap[gs]? = some (.cells #[.int .i64 r0, .int .i64 (wn : Int), .int .i64 id0, .bool gd] 73 (0, 0))) ∧ Aside0 (Kd.R (Kd.int .i64) 3 w' w.heap.size (fun k => k < b1) (.slice A9 l.length d9) S.at_) ∧ Aside0 (Kd.R (Kd.int .i64) 3 w' w.heap.size (fun k => b1 ≤ k ∧ k < b2) (.slice A10 l.length d10) S.err) ∧ Aside0 (Kd.R (Kd.int .i64) 3 w' w.heap.size (fun k => b2 ≤ k) (.slice A11 l.length d11) u) ∧ Aside0 (b2 ≤ w'.heap.size) ∧ Aside0 (Below w.heap.size w w'))
          case atStart => exact ⟨0, rfl, ⟨by omega⟩, BS, HA, HE, HU, HWZ, HB⟩
          case round =>
            clear HA HE HU HWZ HB BS
            obtain ⟨i, rfl, HII, BS, HA, HE, HU, HWZ, HB⟩ := hrel
            by_cases ci : i < l.length
            rotate_left
            · have hi : i = l.length := by have := HII.out; omega
              subst hi
              have cib : decide (l.length < l.length) = false := decide_eq_false (by omega)
              clear ci
              have hla := HSI.out.la
              have hle := HSI.out.le
              have hlu := HUL.out
              obtain ⟨gA, c_, e_, hgA, _, _⟩ := Kd.R_form HA.out (by rw [hla]; omega)
              injection e_ with e1 e2 e3
              clear e2 e3
              subst e1
              obtain ⟨gE, c_, e_, hgE, _, _⟩ := Kd.R_form HE.out (by rw [hle]; omega)
              injection e_ with e1 e2 e3
              clear e2 e3
              subst e1
              obtain ⟨gU, c_, e_, hgU, _, _⟩ := Kd.R_form HU.out (by rw [hlu]; omega)
              injection e_ with e1 e2 e3
              clear e2 e3
              subst e1
              have hab := HSI.out.ab wn hwl
              have heb := HSI.out.eb wn hwl
              have hub := HUB.out wn hwl
              have hq40 : q < 40 := by have := HRV.out; omega
              have s0 : (0 ≤ (wn : Int)) = True := eq_true (by omega)
              have s1 : (wn < l.length) = True := eq_true hwl
              have s2 : ((wn : Int) < (l.length : Int)) = True := eq_true (by omega)
              obtain ⟨av, hav⟩ : ∃ x, S.at_.getD wn 0 = x := ⟨_, rfl⟩
              obtain ⟨ev, hev⟩ : ∃ x, S.err.getD wn 0 = x := ⟨_, rfl⟩
              obtain ⟨uv, huv⟩ : ∃ x, u.getD wn 0 = x := ⟨_, rfl⟩
              rw [hav] at hab
              rw [hev] at heb
              rw [huv] at hub
              have HAV := Aside0.mk hav
              have HEV := Aside0.mk hev
              have HUV := Aside0.mk huv
              have HGA : Aside0 (gA < b1) := ⟨HA.out.1 gA (by simp [Value.ownBlock])⟩
              have HGE : Aside0 (b1 ≤ gE ∧ gE < b2) := ⟨HE.out.1 gE (by simp [Value.ownBlock])⟩
              have HGU : Aside0 (b2 ≤ gU) := ⟨HU.out.1 gU (by simp [Value.ownBlock])⟩
              skip
              have wu : wrap64 (uv + 1) = uv + 1 := EvKit.wrap64_id (by omega) (by omega)
              have wa : wrap64 (av + 1) = av + 1 := EvKit.wrap64_id (by omega) (by omega)
              have we : wrap64 (ev - 1) = ev - 1 := EvKit.wrap64_id (by omega) (by omega)
              have wf : wrap64 (ev + 8) = ev + 8 := EvKit.wrap64_id (by omega) (by omega)
              have HS1c := HS1.out
              rw [hav, hev, huv] at HS1c
              replace HS1 := Aside0.mk HS1c
              clear HS1c hav hev huv hla hle hlu
              have HWR : Aside0 (wrap64 (uv + 1) = uv + 1 ∧ wrap64 (av + 1) = av + 1 ∧ wrap64 (ev - 1) = ev - 1 ∧ wrap64 (ev + 8) = ev + 8) := ⟨⟨wu, wa, we, wf⟩⟩
              clear wu wa we wf hab hub heb
              have cgU : wr.cell? ⟨gU, wn, none⟩ = some (.int .i64 uv) := by have h := (Kd.Q_cell (0 : Int) (Kd.Q_of_R HU.out) (wn : Int) (by omega) (by omega)).1; rw [Nat.zero_add] at h; rw [← HUV.out]; exact h
              have fgU : wr.frozen? ⟨gU, wn, none⟩ = false := by have h := (Kd.Q_cell (0 : Int) (Kd.Q_of_R HU.out) (wn : Int) (by omega) (by omega)).2; rw [Nat.zero_add] at h; exact h
              have zz0 : wr.cell? ⟨gs, 0, none⟩ = some (.int .i64 r0) := (blk_cell BS.out 0).trans rfl
              have zf0 := blk_frozen BS.out 0
              have zz1 : wr.cell? ⟨gs, 1, none⟩ = some (.int .i64 (wn : Int)) := (blk_cell BS.out 1).trans rfl
              have zf1 := blk_frozen BS.out 1
              have zz2 : wr.cell? ⟨gs, 2, none⟩ = some (.int .i64 id0) := (blk_cell BS.out 2).trans rfl
              have zf2 := blk_frozen BS.out 2
              have zz3 : wr.cell? ⟨gs, 3, none⟩ = some (.bool gd) := (blk_cell BS.out 3).trans rfl
              have zf3 := blk_frozen BS.out 3
              go_upto_region 30 with (fail)
              clear zz0 zz1 zz2 zz3 zf0 zf1 zf2 zf3 cgU fgU
              have n0_ : Aside0 (Kd.R (Kd.int .i64) 3 (wr.setCell ⟨gU, wn, none⟩ (.int .i64 (wrap64 (uv + 1)))) w.heap.size (fun k => b2 ≤ k) (.slice (some ⟨gU, 0, none⟩) l.length d11) (u.set wn (wrap64 (uv + 1)))) := ⟨Kd.R_putn HU.out (wn : Int) (wrap64 (uv + 1))⟩
              have n1_ := Aside0.mk (Kd.R_far (p := ⟨gU, wn, none⟩) HA.out (fun k hk => by have := HGA.out; have := HGE.out; have := HGU.out; have := HW12.out; have hk := hk; show k ≠ gU; omega) (.int .i64 (wrap64 (uv + 1))))
              have n2_ := Aside0.mk (Kd.R_far (p := ⟨gU, wn, none⟩) HE.out (fun k hk => by have := HGA.out; have := HGE.out; have := HGU.out; have := HW12.out; have hk := hk; show k ≠ gU; omega) (.int .i64 (wrap64 (uv + 1))))
              have n4_ : Aside0 (Below w.heap.size w (wr.setCell ⟨gU, wn, none⟩ (.int .i64 (wrap64 (uv + 1))))) := ⟨below_set HB.out hgU⟩
              have n5_ : Aside0 (b2 ≤ (wr.setCell ⟨gU, wn, none⟩ (.int .i64 (wrap64 (uv + 1)))).heap.size) := ⟨by simpa using HWZ.out⟩
              have n6_ : Aside0 ((wr.setCell ⟨gU, wn, none⟩ (.int .i64 (wrap64 (uv + 1)))).heap[gs]? = some (.cells #[.int .i64 r0, .int .i64 (wn : Int), .int .i64 id0, .bool gd] 73 (0, 0))) := ⟨blk_far (p := ⟨gU, wn, none⟩) BS.out (fun e => Kd.R_ne HU.out BS.out (by decide) (congrArg some e)) (.int .i64 (wrap64 (uv + 1)))⟩
              clear HA HE HU HB HWZ BS
              have HU := n0_
              have HA := n1_
              have HE := n2_
              have HB := n4_
              have HWZ := n5_
              have BS := n6_
              clear n0_ n1_ n2_ n4_ n5_ n6_
              generalize (wr.setCell ⟨gU, wn, none⟩ (.int .i64 (wrap64 (uv + 1)))) = w5 at HA HE HU HB HWZ BS ⊢
              rw [HWR.out.1] at HU
              cases gd
              case true => as_aux_lemma =>
                have cgA : w5.cell? ⟨gA, wn, none⟩ = some (.int .i64 av) := by have h := (Kd.Q_cell (0 : Int) (Kd.Q_of_R HA.out) (wn : Int) (by omega) (by omega)).1; rw [Nat.zero_add] at h; rw [← HAV.out]; exact h
                have fgA : w5.frozen? ⟨gA, wn, none⟩ = false := by have h := (Kd.Q_cell (0 : Int) (Kd.Q_of_R HA.out) (wn : Int) (by omega) (by omega)).2; rw [Nat.zero_add] at h; exact h
                have zz0 : w5.cell? ⟨gs, 0, none⟩ = some (.int .i64 r0) := (blk_cell BS.out 0).trans rfl
                have zf0 := blk_frozen BS.out 0
                have zz1 : w5.cell? ⟨gs, 1, none⟩ = some (.int .i64 (wn : Int)) := (blk_cell BS.out 1).trans rfl
                have zf1 := blk_frozen BS.out 1
                have zz2 : w5.cell? ⟨gs, 2, none⟩ = some (.int .i64 id0) := (blk_cell BS.out 2).trans rfl
                have zf2 := blk_frozen BS.out 2
                have zz3 : w5.cell? ⟨gs, 3, none⟩ = some (.bool true) := (blk_cell BS.out 3).trans rfl
                have zf3 := blk_frozen BS.out 3
                go_upto_region 32 with (fail)
                clear zz0 zz1 zz2 zz3 zf0 zf1 zf2 zf3 cgA fgA
                have n0_ : Aside0 (Kd.R (Kd.int .i64) 3 (w5.setCell ⟨gA, wn, none⟩ (.int .i64 (wrap64 (av + 1)))) w.heap.size (fun k => k < b1) (.slice (some ⟨gA, 0, none⟩) l.length d9) (S.at_.set wn (wrap64 (av + 1)))) := ⟨Kd.R_putn HA.out (wn : Int) (wrap64 (av + 1))⟩
                have n1_ := Aside0.mk (Kd.R_far (p := ⟨gA, wn, none⟩) HU.out (fun k hk => by have := HGA.out; have := HGE.out; have := HGU.out; have := HW12.out; have hk := hk; show k ≠ gA; omega) (.int .i64 (wrap64 (av + 1))))
                have n2_ := Aside0.mk (Kd.R_far (p := ⟨gA, wn, none⟩) HE.out (fun k hk => by have := HGA.out; have := HGE.out; have := HGU.out; have := HW12.out; have hk := hk; show k ≠ gA; omega) (.int .i64 (wrap64 (av + 1))))
                have n4_ : Aside0 (Below w.heap.size w (w5.setCell ⟨gA, wn, none⟩ (.int .i64 (wrap64 (av + 1))))) := ⟨below_set HB.out hgA⟩
                have n5_ : Aside0 (b2 ≤ (w5.setCell ⟨gA, wn, none⟩ (.int .i64 (wrap64 (av + 1)))).heap.size) := ⟨by simpa using HWZ.out⟩
                have n6_ : Aside0 ((w5.setCell ⟨gA, wn, none⟩ (.int .i64 (wrap64 (av + 1)))).heap[gs]? = some (.cells #[.int .i64 r0, .int .i64 (wn : Int), .int .i64 id0, .bool true] 73 (0, 0))) := ⟨blk_far (p := ⟨gA, wn, none⟩) BS.out (fun e => Kd.R_ne HA.out BS.out (by decide) (congrArg some e)) (.int .i64 (wrap64 (av + 1)))⟩
                clear HA HE HU HB HWZ BS
                have HA := n0_
                have HU := n1_
                have HE := n2_
                have HB := n4_
                have HWZ := n5_
                have BS := n6_
                clear n0_ n1_ n2_ n4_ n5_ n6_
                generalize (w5.setCell ⟨gA, wn, none⟩ (.int .i64 (wrap64 (av + 1)))) = w6 at HA HE HU HB HWZ BS ⊢
                rw [HWR.out.2.1] at HA
                have cgE : w6.cell? ⟨gE, wn, none⟩ = some (.int .i64 ev) := by have h := (Kd.Q_cell (0 : Int) (Kd.Q_of_R HE.out) (wn : Int) (by omega) (by omega)).1; rw [Nat.zero_add] at h; rw [← HEV.out]; exact h
                have fgE : w6.frozen? ⟨gE, wn, none⟩ = false := by have h := (Kd.Q_cell (0 : Int) (Kd.Q_of_R HE.out) (wn : Int) (by omega) (by omega)).2; rw [Nat.zero_add] at h; exact h
                have zz0 : w6.cell? ⟨gs, 0, none⟩ = some (.int .i64 r0) := (blk_cell BS.out 0).trans rfl
                have zf0 := blk_frozen BS.out 0
                have zz1 : w6.cell? ⟨gs, 1, none⟩ = some (.int .i64 (wn : Int)) := (blk_cell BS.out 1).trans rfl
                have zf1 := blk_frozen BS.out 1
                have zz2 : w6.cell? ⟨gs, 2, none⟩ = some (.int .i64 id0) := (blk_cell BS.out 2).trans rfl
                have zf2 := blk_frozen BS.out 2
                have zz3 : w6.cell? ⟨gs, 3, none⟩ = some (.bool true) := (blk_cell BS.out 3).trans rfl
                have zf3 := blk_frozen BS.out 3
                by_cases ke : 0 < ev
                · as_aux_lemma =>
                    have keb : decide (0 < ev) = true := decide_eq_true ke
                    have HE1 : Aside0 (S1 = ⟨S.at_.set wn (av + 1), S.err.set wn (ev - 1), u.set wn (uv + 1), r0⟩) := ⟨by have h := HS1.out; rw [if_pos rfl, if_pos ke] at h; exact h⟩
                    go_upto_region 37 with (fail)
                    clear zz0 zz1 zz2 zz3 zf0 zf1 zf2 zf3 cgE fgE
                    have n0_ : Aside0 (Kd.R (Kd.int .i64) 3 (w6.setCell ⟨gE, wn, none⟩ (.int .i64 (wrap64 (ev - 1)))) w.heap.size (fun k => b1 ≤ k ∧ k < b2) (.slice (some ⟨gE, 0, none⟩) l.length d10) (S.err.set wn (wrap64 (ev - 1)))) := ⟨Kd.R_putn HE.out (wn : Int) (wrap64 (ev - 1))⟩
                    have n1_ := Aside0.mk (Kd.R_far (p := ⟨gE, wn, none⟩) HU.out (fun k hk => by have := HGA.out; have := HGE.out; have := HGU.out; have := HW12.out; have hk := hk; show k ≠ gE; omega) (.int .i64 (wrap64 (ev - 1))))
                    have n2_ := Aside0.mk (Kd.R_far (p := ⟨gE, wn, none⟩) HA.out (fun k hk => by have := HGA.out; have := HGE.out; have := HGU.out; have := HW12.out; have hk := hk; show k ≠ gE; omega) (.int .i64 (wrap64 (ev - 1))))
                    have n4_ : Aside0 (Below w.heap.size w (w6.setCell ⟨gE, wn, none⟩ (.int .i64 (wrap64 (ev - 1))))) := ⟨below_set HB.out hgE⟩
                    have n5_ : Aside0 (b2 ≤ (w6.setCell ⟨gE, wn, none⟩ (.int .i64 (wrap64 (ev - 1)))).heap.size) := ⟨by simpa using HWZ.out⟩
                    have n6_ : Aside0 ((w6.setCell ⟨gE, wn, none⟩ (.int .i64 (wrap64 (ev - 1)))).heap[gs]? = some (.cells #[.int .i64 r0, .int .i64 (wn : Int), .int .i64 id0, .bool true] 73 (0, 0))) := ⟨blk_far (p := ⟨gE, wn, none⟩) BS.out (fun e => Kd.R_ne HE.out BS.out (by decide) (congrArg some e)) (.int .i64 (wrap64 (ev - 1)))⟩
                    clear HA HE HU HB HWZ BS
                    have HE := n0_
                    have HU := n1_
                    have HA := n2_
                    have HB := n4_
                    have HWZ := n5_
                    have BS := n6_
                    clear n0_ n1_ n2_ n4_ n5_ n6_
                    generalize (w6.setCell ⟨gE, wn, none⟩ (.int .i64 (wrap64 (ev - 1)))) = w7 at HA HE HU HB HWZ BS ⊢
                    rw [HWR.out.2.2.1] at HE
                    go_wp2_with fail
                    have hr1 : wrap64 ((q : Int) + 1) = ((q + 1 : Nat) : Int) := by rw [EvKit.wrap64_id (by omega) (by omega)]; omega
                    go_roundg g
                    case measure => omega
                    case rel => exact ⟨q + 1, S1, by rw [HE1.out], by first | (rw [← hr1]; done) | rfl | (congr 1; omega), ⟨stp_ HQQ.out⟩, HSI1, HFO1, ⟨by rw [HE1.out]; exact HA.out⟩, ⟨by rw [HE1.out]; exact HE.out⟩, ⟨by rw [HE1.out]; exact HU.out⟩, HWZ, HB⟩
                have keb : decide (0 < ev) = false := decide_eq_false ke
                have HE1 : Aside0 (S1 = ⟨S.at_.set wn (av + 1), S.err, u.set wn (uv + 1), r0⟩) := ⟨by have h := HS1.out; rw [if_pos rfl, if_neg ke] at h; exact h⟩
                go_wp2_with fail
                have hr1 : wrap64 ((q : Int) + 1) = ((q + 1 : Nat) : Int) := by rw [EvKit.wrap64_id (by omega) (by omega)]; omega
                go_roundg g
                case measure => omega
                case rel => exact ⟨q + 1, S1, by rw [HE1.out], by first | (rw [← hr1]; done) | rfl | (congr 1; omega), ⟨stp_ HQQ.out⟩, HSI1, HFO1, ⟨by rw [HE1.out]; exact HA.out⟩, ⟨by rw [HE1.out]; exact HE.out⟩, ⟨by rw [HE1.out]; exact HU.out⟩, HWZ, HB⟩
              case false => as_aux_lemma =>
                have cgE : w5.cell? ⟨gE, wn, none⟩ = some (.int .i64 ev) := by have h := (Kd.Q_cell (0 : Int) (Kd.Q_of_R HE.out) (wn : Int) (by omega) (by omega)).1; rw [Nat.zero_add] at h; rw [← HEV.out]; exact h
                have fgE : w5.frozen? ⟨gE, wn, none⟩ = false := by have h := (Kd.Q_cell (0 : Int) (Kd.Q_of_R HE.out) (wn : Int) (by omega) (by omega)).2; rw [Nat.zero_add] at h; exact h
                have zz0 : w5.cell? ⟨gs, 0, none⟩ = some (.int .i64 r0) := (blk_cell BS.out 0).trans rfl
                have zf0 := blk_frozen BS.out 0
                have zz1 : w5.cell? ⟨gs, 1, none⟩ = some (.int .i64 (wn : Int)) := (blk_cell BS.out 1).trans rfl
                have zf1 := blk_frozen BS.out 1
                have zz2 : w5.cell? ⟨gs, 2, none⟩ = some (.int .i64 id0) := (blk_cell BS.out 2).trans rfl
                have zf2 := blk_frozen BS.out 2
                have zz3 : w5.cell? ⟨gs, 3, none⟩ = some (.bool false) := (blk_cell BS.out 3).trans rfl
                have zf3 := blk_frozen BS.out 3
                go_upto_region 35 with (fail)
                clear zz0 zz1 zz2 zz3 zf0 zf1 zf2 zf3 cgE fgE
                have n0_ : Aside0 (Kd.R (Kd.int .i64) 3 (w5.setCell ⟨gE, wn, none⟩ (.int .i64 (wrap64 (ev + 8)))) w.heap.size (fun k => b1 ≤ k ∧ k < b2) (.slice (some ⟨gE, 0, none⟩) l.length d10) (S.err.set wn (wrap64 (ev + 8)))) := ⟨Kd.R_putn HE.out (wn : Int) (wrap64 (ev + 8))⟩
                have n1_ := Aside0.mk (Kd.R_far (p := ⟨gE, wn, none⟩) HU.out (fun k hk => by have := HGA.out; have := HGE.out; have := HGU.out; have := HW12.out; have hk := hk; show k ≠ gE; omega) (.int .i64 (wrap64 (ev + 8))))
                have n2_ := Aside0.mk (Kd.R_far (p := ⟨gE, wn, none⟩) HA.out (fun k hk => by have := HGA.out; have := HGE.out; have := HGU.out; have := HW12.out; have hk := hk; show k ≠ gE; omega) (.int .i64 (wrap64 (ev + 8))))
                have n4_ : Aside0 (Below w.heap.size w (w5.setCell ⟨gE, wn, none⟩ (.int .i64 (wrap64 (ev + 8))))) := ⟨below_set HB.out hgE⟩
                have n5_ : Aside0 (b2 ≤ (w5.setCell ⟨gE, wn, none⟩ (.int .i64 (wrap64 (ev + 8)))).heap.size) := ⟨by simpa using HWZ.out⟩
                have n6_ : Aside0 ((w5.setCell ⟨gE, wn, none⟩ (.int .i64 (wrap64 (ev + 8)))).heap[gs]? = some (.cells #[.int .i64 r0, .int .i64 (wn : Int), .int .i64 id0, .bool false] 73 (0, 0))) := ⟨blk_far (p := ⟨gE, wn, none⟩) BS.out (fun e => Kd.R_ne HE.out BS.out (by decide) (congrArg some e)) (.int .i64 (wrap64 (ev + 8)))⟩
                clear HA HE HU HB HWZ BS
                have HE := n0_
                have HU := n1_
                have HA := n2_
                have HB := n4_
                have HWZ := n5_
                have BS := n6_
                clear n0_ n1_ n2_ n4_ n5_ n6_
                generalize (w5.setCell ⟨gE, wn, none⟩ (.int .i64 (wrap64 (ev + 8)))) = w6 at HA HE HU HB HWZ BS ⊢
                rw [HWR.out.2.2.2] at HE
                have hx8 : (S.err.set wn (ev + 8)).getD wn 0 = ev + 8 := by rw [getD_seti _ _ _ _ (by rw [HSI.out.le]; exact hwl), if_pos rfl]
                have cgE : w6.cell? ⟨gE, wn, none⟩ = some (.int .i64 (ev + 8)) := by have h := (Kd.Q_cell (0 : Int) (Kd.Q_of_R HE.out) (wn : Int) (by omega) (by omega)).1; rw [Nat.zero_add] at h; rw [← hx8]; exact h
                have fgE : w6.frozen? ⟨gE, wn, none⟩ = false := by have h := (Kd.Q_cell (0 : Int) (Kd.Q_of_R HE.out) (wn : Int) (by omega) (by omega)).2; rw [Nat.zero_add] at h; exact h
                have zz0 : w6.cell? ⟨gs, 0, none⟩ = some (.int .i64 r0) := (blk_cell BS.out 0).trans rfl
                have zf0 := blk_frozen BS.out 0
                have zz1 : w6.cell? ⟨gs, 1, none⟩ = some (.int .i64 (wn : Int)) := (blk_cell BS.out 1).trans rfl
                have zf1 := blk_frozen BS.out 1
                have zz2 : w6.cell? ⟨gs, 2, none⟩ = some (.int .i64 id0) := (blk_cell BS.out 2).trans rfl
                have zf2 := blk_frozen BS.out 2
                have zz3 : w6.cell? ⟨gs, 3, none⟩ = some (.bool false) := (blk_cell BS.out 3).trans rfl
                have zf3 := blk_frozen BS.out 3
                by_cases ke : 255 < ev + 8
                · as_aux_lemma =>
                    have keb : decide (255 < ev + 8) = true := decide_eq_true ke
                    have HE1 : Aside0 (S1 = ⟨S.at_, S.err.set wn 255, u.set wn (uv + 1), r0⟩) := ⟨by have h := HS1.out; rw [if_neg (by decide), if_pos ke] at h; exact h⟩
                    go_upto_region 37 with (fail)
                    clear zz0 zz1 zz2 zz3 zf0 zf1 zf2 zf3 cgE fgE
                    have n0_ : Aside0 (Kd.R (Kd.int .i64) 3 (w6.setCell ⟨gE, wn, none⟩ (.int .i64 255)) w.heap.size (fun k => b1 ≤ k ∧ k < b2) (.slice (some ⟨gE, 0, none⟩) l.length d10) ((S.err.set wn (ev + 8)).set wn 255)) := ⟨Kd.R_putn HE.out (wn : Int) 255⟩
                    have n1_ := Aside0.mk (Kd.R_far (p := ⟨gE, wn, none⟩) HU.out (fun k hk => by have := HGA.out; have := HGE.out; have := HGU.out; have := HW12.out; have hk := hk; show k ≠ gE; omega) (.int .i64 255))
                    have n2_ := Aside0.mk (Kd.R_far (p := ⟨gE, wn, none⟩) HA.out (fun k hk => by have := HGA.out; have := HGE.out; have := HGU.out; have := HW12.out; have hk := hk; show k ≠ gE; omega) (.int .i64 255))
                    have n4_ : Aside0 (Below w.heap.size w (w6.setCell ⟨gE, wn, none⟩ (.int .i64 255))) := ⟨below_set HB.out hgE⟩
                    have n5_ : Aside0 (b2 ≤ (w6.setCell ⟨gE, wn, none⟩ (.int .i64 255)).heap.size) := ⟨by simpa using HWZ.out⟩
                    have n6_ : Aside0 ((w6.setCell ⟨gE, wn, none⟩ (.int .i64 255)).heap[gs]? = some (.cells #[.int .i64 r0, .int .i64 (wn : Int), .int .i64 id0, .bool false] 73 (0, 0))) := ⟨blk_far (p := ⟨gE, wn, none⟩) BS.out (fun e => Kd.R_ne HE.out BS.out (by decide) (congrArg some e)) (.int .i64 255)⟩
                    clear HA HE HU HB HWZ BS
                    have HE := n0_
                    have HU := n1_
                    have HA := n2_
                    have HB := n4_
                    have HWZ := n5_
                    have BS := n6_
                    clear n0_ n1_ n2_ n4_ n5_ n6_
                    generalize (w6.setCell ⟨gE, wn, none⟩ (.int .i64 255)) = w7 at HA HE HU HB HWZ BS ⊢
                    rw [List.set_set] at HE
                    go_wp2_with fail
                    have hr1 : wrap64 ((q : Int) + 1) = ((q + 1 : Nat) : Int) := by rw [EvKit.wrap64_id (by omega) (by omega)]; omega
                    go_roundg g
                    case measure => omega
                    case rel => exact ⟨q + 1, S1, by rw [HE1.out], by first | (rw [← hr1]; done) | rfl | (congr 1; omega), ⟨stp_ HQQ.out⟩, HSI1, HFO1, ⟨by rw [HE1.out]; exact HA.out⟩, ⟨by rw [HE1.out]; exact HE.out⟩, ⟨by rw [HE1.out]; exact HU.out⟩, HWZ, HB⟩
                have keb : decide (255 < ev + 8) = false := decide_eq_false ke
                have HE1 : Aside0 (S1 = ⟨S.at_, S.err.set wn (ev + 8), u.set wn (uv + 1), r0⟩) := ⟨by have h := HS1.out; rw [if_neg (by decide), if_neg ke] at h; exact h⟩
                go_wp2_with fail
                have hr1 : wrap64 ((q : Int) + 1) = ((q + 1 : Nat) : Int) := by rw [EvKit.wrap64_id (by omega) (by omega)]; omega
                go_roundg g
                case measure => omega
                case rel => exact ⟨q + 1, S1, by rw [HE1.out], by first | (rw [← hr1]; done) | rfl | (congr 1; omega), ⟨stp_ HQQ.out⟩, HSI1, HFO1, ⟨by rw [HE1.out]; exact HA.out⟩, ⟨by rw [HE1.out]; exact HE.out⟩, ⟨by rw [HE1.out]; exact HU.out⟩, HWZ, HB⟩
            have cib : decide (i < l.length) = true := decide_eq_true ci
            obtain ⟨g3, rfl⟩ : ∃ g3, gk = g3 + 1 := ⟨gk - 1, by have := HII.out; omega⟩
            obtain ⟨adt, Aq, cq, ead, hx0, hx1, hx2, hx3, hlq, hcq⟩ := at_T66 HR0.out (i : Int) (by omega) (by omega)
            cases ead
            have HQI := Aside0.mk hcq
            have HQL := Aside0.mk hlq
            clear hcq hlq
            rw [rd66_tk] at hx0 hx1 hx2 hx3 HQI HQL
            obtain ⟨t, hti⟩ : ∃ t, tkAt l i = t := ⟨_, rfl⟩
            rw [hti] at hx0 hx1 hx2 hx3 HQI HQL
            have HTI := Aside0.mk hti
            clear hti
            simp only [Int.toNat_natCast] at hx0 hx1 hx2 hx3
            replace hx0 := hc_ HB hx0
            replace hx1 := hc_ HB hx1
            replace hx2 := hc_ HB hx2
            replace hx3 := hc_ HB hx3
            have ci0 : (0 ≤ (i : Int)) = True := eq_true (by omega)
            have ci1 : (i < l.length) = True := eq_true ci
            have ci2 : ((i : Int) < (l.length : Int)) = True := eq_true (by omega)
            go_upto_region 23 with (first | ((with_reducible refine gate_dst (N := 18) rfl ?_); refine box_event ?hggt (N := 18) ?hdgt (cs := #[.slice none 0 0, .int .i64 0, .int .i64 0, .bool false]) (t := 66) ?hrgt ?_; (case hdgt => rfl); (case hggt => rfl); (case hrgt => first | (go_simp; done) | (go_simp; rfl)); intro gt hgz wt hbox hb; have gtZ := Aside0.mk hgz; have gtB := Aside0.mk hbox; have gtH := Aside0.mk hb; clear hgz hbox hb; have gtf0 := blk_frozen gtB.out 0; have gtz0 : wt.cell? ⟨gt, 0, none⟩ = some (.slice none 0 0) := (blk_cell gtB.out 0).trans rfl; have gtf1 := blk_frozen gtB.out 1; have gtz1 : wt.cell? ⟨gt, 1, none⟩ = some (.int .i64 0) := (blk_cell gtB.out 1).trans rfl; have gtf2 := blk_frozen gtB.out 2; have gtz2 : wt.cell? ⟨gt, 2, none⟩ = some (.int .i64 0) := (blk_cell gtB.out 2).trans rfl; have gtf3 := blk_frozen gtB.out 3; have gtz3 : wt.cell? ⟨gt, 3, none⟩ = some (.bool false) := (blk_cell gtB.out 3).trans rfl))
            have hle : wr.heap.size ≤ gt := Nat.le_of_eq gtZ.out.symm
            have hbW : Below wr.heap.size wr ((((wt.setCell ⟨gt, 0, none⟩ (.slice Aq t.f0.length cq)).setCell ⟨gt, 1, none⟩ (.int .i64 t.f1)).setCell ⟨gt, 2, none⟩ (.int .i64 t.f2)).setCell ⟨gt, 3, none⟩ (.bool t.f3)) := (below_set (below_set (below_set (below_set gtH.out hle) hle) hle) hle)
            have hBT : ((((wt.setCell ⟨gt, 0, none⟩ (.slice Aq t.f0.length cq)).setCell ⟨gt, 1, none⟩ (.int .i64 t.f1)).setCell ⟨gt, 2, none⟩ (.int .i64 t.f2)).setCell ⟨gt, 3, none⟩ (.bool t.f3)).heap[gt]? = some (.cells #[.slice Aq t.f0.length cq, .int .i64 t.f1, .int .i64 t.f2, .bool t.f3] 66 (0, 0)) := (blk_put (blk_put (blk_put (blk_put gtB.out 0 _ rfl) 1 _ rfl) 2 _ rfl) 3 _ rfl)
            generalize ((((wt.setCell ⟨gt, 0, none⟩ (.slice Aq t.f0.length cq)).setCell ⟨gt, 1, none⟩ (.int .i64 t.f1)).setCell ⟨gt, 2, none⟩ (.int .i64 t.f2)).setCell ⟨gt, 3, none⟩ (.bool t.f3)) = w5 at hbW hBT ⊢
            have BT := Aside0.mk hBT
            replace HA := Aside0.mk (Kd.R_below HA.out hbW)
            replace HE := Aside0.mk (Kd.R_below HE.out hbW)
            replace HU := Aside0.mk (Kd.R_below HU.out hbW)
            replace HB := Aside0.mk (below_step HB.out hbW)
            replace BS := Aside0.mk (blk_below BS.out hbW)
            replace HWZ : Aside0 (b2 ≤ w5.heap.size) := ⟨Nat.le_trans HWZ.out hbW.size⟩
            clear hBT hbW hle gtB gtH gtf0 gtz0 gtf1 gtz1 gtf2 gtz2 gtf3 gtz3
            clear hx0 hx1 hx2 hx3
            have hla := HSI.out.la
            have hle := HSI.out.le
            have hlu := HUL.out
            obtain ⟨gA, c_, e_, hgA, _, _⟩ := Kd.R_form HA.out (by rw [hla]; omega)
            injection e_ with e1 e2 e3
            clear e2 e3
            subst e1
            obtain ⟨gE, c_, e_, hgE, _, _⟩ := Kd.R_form HE.out (by rw [hle]; omega)
            injection e_ with e1 e2 e3
            clear e2 e3
            subst e1
            obtain ⟨gU, c_, e_, hgU, _, _⟩ := Kd.R_form HU.out (by rw [hlu]; omega)
            injection e_ with e1 e2 e3
            clear e2 e3
            subst e1
            have hab := HSI.out.ab i ci
            obtain ⟨ak, hak⟩ : ∃ ak : Nat, S.at_.getD i 0 = (ak : Int) := ⟨(S.at_.getD i 0).toNat, by omega⟩
            obtain ⟨ei, hei⟩ : ∃ x, S.err.getD i 0 = x := ⟨_, rfl⟩
            obtain ⟨ui, hui⟩ : ∃ x, u.getD i 0 = x := ⟨_, rfl⟩
            have HAK := Aside0.mk hak
            have HEI := Aside0.mk hei
            have HUI := Aside0.mk hui
            have cgA : w5.cell? ⟨gA, i, none⟩ = some (.int .i64 (ak : Int)) := by have h := (Kd.Q_cell (0 : Int) (Kd.Q_of_R HA.out) (i : Int) (by omega) (by omega)).1; rw [Nat.zero_add] at h; rw [← hak]; exact h
            have cgE : w5.cell? ⟨gE, i, none⟩ = some (.int .i64 ei) := by have h := (Kd.Q_cell (0 : Int) (Kd.Q_of_R HE.out) (i : Int) (by omega) (by omega)).1; rw [Nat.zero_add] at h; rw [← hei]; exact h
            have cgU : w5.cell? ⟨gU, i, none⟩ = some (.int .i64 ui) := by have h := (Kd.Q_cell (0 : Int) (Kd.Q_of_R HU.out) (i : Int) (by omega) (by omega)).1; rw [Nat.zero_add] at h; rw [← hui]; exact h
            clear hab hak hei hui hla hle hlu
            have hfit := HFIT.out i ci
            have tz0 : w5.cell? ⟨gt, 0, none⟩ = some (.slice Aq t.f0.length cq) := (blk_cell BT.out 0).trans rfl
            have tf0 := blk_frozen BT.out 0
            have tz1 : w5.cell? ⟨gt, 1, none⟩ = some (.int .i64 t.f1) := (blk_cell BT.out 1).trans rfl
            have tf1 := blk_frozen BT.out 1
            have tz2 : w5.cell? ⟨gt, 2, none⟩ = some (.int .i64 t.f2) := (blk_cell BT.out 2).trans rfl
            have tf2 := blk_frozen BT.out 2
            have tz3 : w5.cell? ⟨gt, 3, none⟩ = some (.bool t.f3) := (blk_cell BT.out 3).trans rfl
            have tf3 := blk_frozen BT.out 3
            by_cases k1 : ei = 255
            · as_aux_lemma =>
                have k1b : (ei == 255) = true := beq_iff_eq.2 k1
                have k1c : decide (ei = 255) = true := decide_eq_true k1
                have hei := HEI.out
                have hne := fit_shut hfit (Or.inl (by rw [hei]; exact k1))
                have hnn : ¬ i = wn := fun h => hne (by rw [h])
                have n1 : ((i : Int) == (wn : Int)) = false := beq_eq_false_iff_ne.2 hne
                have n2 : (i == wn) = false := beq_eq_false_iff_ne.2 hnn
                have n3 : (i = wn) = False := eq_false hnn
                have n4 : decide (i = wn) = false := decide_eq_false hnn
                clear hne hnn hfit
                have zz0 : w5.cell? ⟨gs, 0, none⟩ = some (.int .i64 r0) := (blk_cell BS.out 0).trans rfl
                have zf0 := blk_frozen BS.out 0
                have zz1 : w5.cell? ⟨gs, 1, none⟩ = some (.int .i64 (wn : Int)) := (blk_cell BS.out 1).trans rfl
                have zf1 := blk_frozen BS.out 1
                have zz2 : w5.cell? ⟨gs, 2, none⟩ = some (.int .i64 id0) := (blk_cell BS.out 2).trans rfl
                have zf2 := blk_frozen BS.out 2
                have zz3 : w5.cell? ⟨gs, 3, none⟩ = some (.bool gd) := (blk_cell BS.out 3).trans rfl
                have zf3 := blk_frozen BS.out 3
                have bs1 : ∀ n, (w5.drewN n).cell? ⟨gs, 1, none⟩ = some (.int .i64 (wn : Int)) := fun n => zz1
                repeat (go_quiet (fail); try go_wp2)
                have hi1 : wrap64 ((i : Int) + 1) = ((i + 1 : Nat) : Int) := by have := HRV.out; rw [EvKit.wrap64_id (by omega) (by omega)]; omega
                go_roundg g3
                case measure => omega
                case rel => exact ⟨i + 1, by first | (rw [← hi1]; done) | rfl | (congr 1; omega), ⟨stp_ HII.out⟩, ⟨by repeat (first | exact BS.out | apply blk_drewN | apply blk_drew)⟩, ⟨ra_ HA.out⟩, ⟨ra_ HE.out⟩, ⟨ra_ HU.out⟩, HWZ, ⟨by repeat (first | exact HB.out | apply pw_below_drewN | apply below_drew1)⟩⟩
            have k1b : (ei == 255) = false := beq_eq_false_iff_ne.2 k1
            have k1c : decide (ei = 255) = false := decide_eq_false k1
            by_cases k2 : t.f0.length ≤ ak
            · as_aux_lemma =>
                have k2b : decide ((t.f0.length : Int) ≤ (ak : Int)) = true := decide_eq_true (by omega)
                have k2c : decide (t.f0.length ≤ ak) = true := decide_eq_true k2
                have hne := fit_shut hfit (Or.inr (Or.inl (by rw [HTI.out, HAK.out]; omega)))
                have hnn : ¬ i = wn := fun h => hne (by rw [h])
                have n1 : ((i : Int) == (wn : Int)) = false := beq_eq_false_iff_ne.2 hne
                have n2 : (i == wn) = false := beq_eq_false_iff_ne.2 hnn
                have n3 : (i = wn) = False := eq_false hnn
                have n4 : decide (i = wn) = false := decide_eq_false hnn
                clear hne hnn hfit
                have zz0 : w5.cell? ⟨gs, 0, none⟩ = some (.int .i64 r0) := (blk_cell BS.out 0).trans rfl
                have zf0 := blk_frozen BS.out 0
                have zz1 : w5.cell? ⟨gs, 1, none⟩ = some (.int .i64 (wn : Int)) := (blk_cell BS.out 1).trans rfl
                have zf1 := blk_frozen BS.out 1
                have zz2 : w5.cell? ⟨gs, 2, none⟩ = some (.int .i64 id0) := (blk_cell BS.out 2).trans rfl
                have zf2 := blk_frozen BS.out 2
                have zz3 : w5.cell? ⟨gs, 3, none⟩ = some (.bool gd) := (blk_cell BS.out 3).trans rfl
                have zf3 := blk_frozen BS.out 3
                have bs1 : ∀ n, (w5.drewN n).cell? ⟨gs, 1, none⟩ = some (.int .i64 (wn : Int)) := fun n => zz1
                repeat (go_quiet (fail); try go_wp2)
                have hi1 : wrap64 ((i : Int) + 1) = ((i + 1 : Nat) : Int) := by have := HRV.out; rw [EvKit.wrap64_id (by omega) (by omega)]; omega
                go_roundg g3
                case measure => omega
                case rel => exact ⟨i + 1, by first | (rw [← hi1]; done) | rfl | (congr 1; omega), ⟨stp_ HII.out⟩, ⟨by repeat (first | exact BS.out | apply blk_drewN | apply blk_drew)⟩, ⟨ra_ HA.out⟩, ⟨ra_ HE.out⟩, ⟨ra_ HU.out⟩, HWZ, ⟨by repeat (first | exact HB.out | apply pw_below_drewN | apply below_drew1)⟩⟩
            have k2b : decide ((t.f0.length : Int) ≤ (ak : Int)) = false := decide_eq_false (by omega)
            have k2c : decide (t.f0.length ≤ ak) = false := decide_eq_false k2
            by_cases k3 : t.f1 ≤ ui
            · as_aux_lemma =>
                have k3b : decide (t.f1 ≤ ui) = true := decide_eq_true k3
                have hne := fit_shut hfit (Or.inr (Or.inr (by rw [HTI.out, HUI.out]; exact k3)))
                have hnn : ¬ i = wn := fun h => hne (by rw [h])
                have n1 : ((i : Int) == (wn : Int)) = false := beq_eq_false_iff_ne.2 hne
                have n2 : (i == wn) = false := beq_eq_false_iff_ne.2 hnn
                have n3 : (i = wn) = False := eq_false hnn
                have n4 : decide (i = wn) = false := decide_eq_false hnn
                clear hne hnn hfit
                have zz0 : w5.cell? ⟨gs, 0, none⟩ = some (.int .i64 r0) := (blk_cell BS.out 0).trans rfl
                have zf0 := blk_frozen BS.out 0
                have zz1 : w5.cell? ⟨gs, 1, none⟩ = some (.int .i64 (wn : Int)) := (blk_cell BS.out 1).trans rfl
                have zf1 := blk_frozen BS.out 1
                have zz2 : w5.cell? ⟨gs, 2, none⟩ = some (.int .i64 id0) := (blk_cell BS.out 2).trans rfl
                have zf2 := blk_frozen BS.out 2
                have zz3 : w5.cell? ⟨gs, 3, none⟩ = some (.bool gd) := (blk_cell BS.out 3).trans rfl
                have zf3 := blk_frozen BS.out 3
                have bs1 : ∀ n, (w5.drewN n).cell? ⟨gs, 1, none⟩ = some (.int .i64 (wn : Int)) := fun n => zz1
                repeat (go_quiet (fail); try go_wp2)
                have hi1 : wrap64 ((i : Int) + 1) = ((i + 1 : Nat) : Int) := by have := HRV.out; rw [EvKit.wrap64_id (by omega) (by omega)]; omega
                go_roundg g3
                case measure => omega
                case rel => exact ⟨i + 1, by first | (rw [← hi1]; done) | rfl | (congr 1; omega), ⟨stp_ HII.out⟩, ⟨by repeat (first | exact BS.out | apply blk_drewN | apply blk_drew)⟩, ⟨ra_ HA.out⟩, ⟨ra_ HE.out⟩, ⟨ra_ HU.out⟩, HWZ, ⟨by repeat (first | exact HB.out | apply pw_below_drewN | apply below_drew1)⟩⟩
            have k3b : decide (t.f1 ≤ ui) = false := decide_eq_false k3
            obtain ⟨h1, h2⟩ := fit_open hfit (fun h => by rcases h with h | h | h; exact k1 (by rw [← HEI.out]; exact h); exact k2 (by have h := h; rw [HTI.out, HAK.out] at h; omega); exact k3 (by have h := h; rw [HTI.out, HUI.out] at h; exact h))
            clear hfit
            unfold atId at h1 h2
            rw [HTI.out, HAK.out, Int.toNat_natCast] at h1 h2
            obtain ⟨adq, qA, qc, eadq, hq0, _, _, _⟩ := at_T27 HQI.out (ak : Int) (by omega) (by omega)
            cases eadq
            change w.cell? _ = some (.int .i64 (t.f0.getD (ak : Int).toNat z27).f0) at hq0
            simp only [Int.toNat_natCast] at hq0
            replace hq0 := hc_ HB hq0
            generalize (t.f0.getD ak z27).f0 = id1 at hq0 h1 h2
            have k4b : decide (id1 < id0) = false := decide_eq_false (by omega)
            have a0 : (0 ≤ (ak : Int)) = True := eq_true (by omega)
            have a1 : (ak < t.f0.length) = True := eq_true (by omega)
            have a2 : ((ak : Int) < (t.f0.length : Int)) = True := eq_true (by omega)
            clear k1 k2 k3 h1
            have zz0 : w5.cell? ⟨gs, 0, none⟩ = some (.int .i64 r0) := (blk_cell BS.out 0).trans rfl
            have zf0 := blk_frozen BS.out 0
            have zz1 : w5.cell? ⟨gs, 1, none⟩ = some (.int .i64 (wn : Int)) := (blk_cell BS.out 1).trans rfl
            have zf1 := blk_frozen BS.out 1
            have zz2 : w5.cell? ⟨gs, 2, none⟩ = some (.int .i64 id0) := (blk_cell BS.out 2).trans rfl
            have zf2 := blk_frozen BS.out 2
            have zz3 : w5.cell? ⟨gs, 3, none⟩ = some (.bool gd) := (blk_cell BS.out 3).trans rfl
            have zf3 := blk_frozen BS.out 3
            by_cases k5 : i = wn
            · as_aux_lemma =>
                have hid := h2 (by rw [k5])
                have m1 : ((i : Int) == (wn : Int)) = true := beq_iff_eq.2 (by rw [k5])
                have m2 : (i == wn) = true := beq_iff_eq.2 k5
                have m3 : (i = wn) = True := eq_true k5
                have m4 : decide (i = wn) = true := decide_eq_true k5
                have m5 : (id1 != id0) = false := by rw [hid]; exact bne_self_eq_false _
                clear k5 h2 hid
                repeat (go_quiet (fail); try go_wp2)
                have hi1 : wrap64 ((i : Int) + 1) = ((i + 1 : Nat) : Int) := by have := HRV.out; rw [EvKit.wrap64_id (by omega) (by omega)]; omega
                go_roundg g3
                case measure => omega
                case rel => exact ⟨i + 1, by first | (rw [← hi1]; done) | rfl | (congr 1; omega), ⟨stp_ HII.out⟩, ⟨by repeat (first | exact BS.out | apply blk_drewN | apply blk_drew)⟩, ⟨ra_ HA.out⟩, ⟨ra_ HE.out⟩, ⟨ra_ HU.out⟩, HWZ, ⟨by repeat (first | exact HB.out | apply pw_below_drewN | apply below_drew1)⟩⟩
            have m1 : ((i : Int) == (wn : Int)) = false := beq_eq_false_iff_ne.2 (by omega)
            have m2 : (i == wn) = false := beq_eq_false_iff_ne.2 k5
            have m3 : (i = wn) = False := eq_false k5
            have m4 : decide (i = wn) = false := decide_eq_false k5
            clear k5 h2
            repeat (go_quiet (fail); try go_wp2)
            have hi1 : wrap64 ((i : Int) + 1) = ((i + 1 : Nat) : Int) := by have := HRV.out; rw [EvKit.wrap64_id (by omega) (by omega)]; omega
            go_roundg g3
            case measure => omega
            case rel => exact ⟨i + 1, by first | (rw [← hi1]; done) | rfl | (congr 1; omega), ⟨stp_ HII.out⟩, ⟨by repeat (first | exact BS.out | apply blk_drewN | apply blk_drew)⟩, ⟨ra_ HA.out⟩, ⟨ra_ HE.out⟩, ⟨ra_ HU.out⟩, HWZ, ⟨by repeat (first | exact HB.out | apply pw_below_drewN | apply below_drew1)⟩⟩
    have cib : decide (i < l.length) = true := decide_eq_true ci
    obtain ⟨g3, rfl⟩ : ∃ g3, gk = g3 + 1 := ⟨gk - 1, by have := HII.out; omega⟩
    obtain ⟨adt, Aq, cq, ead, hx0, hx1, hx2, hx3, hlq, hcq⟩ := at_T66 HR0.out (i : Int) (by omega) (by omega)
    cases ead
    have HQI := Aside0.mk hcq
    have HQL := Aside0.mk hlq
    clear hcq hlq
    rw [rd66_tk] at hx0 hx1 hx2 hx3 HQI HQL
    obtain ⟨t, hti⟩ : ∃ t, tkAt l i = t := ⟨_, rfl⟩
    rw [hti] at hx0 hx1 hx2 hx3 HQI HQL
    have HTI := Aside0.mk hti
    clear hti
    simp only [Int.toNat_natCast] at hx0 hx1 hx2 hx3
    replace hx0 := hc_ HB hx0
    replace hx1 := hc_ HB hx1
    replace hx2 := hc_ HB hx2
    replace hx3 := hc_ HB hx3
    have ci0 : (0 ≤ (i : Int)) = True := eq_true (by omega)
    have ci1 : (i < l.length) = True := eq_true ci
    have ci2 : ((i : Int) < (l.length : Int)) = True := eq_true (by omega)
    go_upto_region 9 with (first | ((with_reducible refine gate_dst (N := 13) rfl ?_); refine box_event ?hggt (N := 13) ?hdgt (cs := #[.slice none 0 0, .int .i64 0, .int .i64 0, .bool false]) (t := 66) ?hrgt ?_; (case hdgt => rfl); (case hggt => rfl); (case hrgt => first | (go_simp; done) | (go_simp; rfl)); intro gt hgz wt hbox hb; have gtZ := Aside0.mk hgz; have gtB := Aside0.mk hbox; have gtH := Aside0.mk hb; clear hgz hbox hb; have gtf0 := blk_frozen gtB.out 0; have gtz0 : wt.cell? ⟨gt, 0, none⟩ = some (.slice none 0 0) := (blk_cell gtB.out 0).trans rfl; have gtf1 := blk_frozen gtB.out 1; have gtz1 : wt.cell? ⟨gt, 1, none⟩ = some (.int .i64 0) := (blk_cell gtB.out 1).trans rfl; have gtf2 := blk_frozen gtB.out 2; have gtz2 : wt.cell? ⟨gt, 2, none⟩ = some (.int .i64 0) := (blk_cell gtB.out 2).trans rfl; have gtf3 := blk_frozen gtB.out 3; have gtz3 : wt.cell? ⟨gt, 3, none⟩ = some (.bool false) := (blk_cell gtB.out 3).trans rfl))
    have hle : wr.heap.size ≤ gt := Nat.le_of_eq gtZ.out.symm
    have hbW : Below wr.heap.size wr ((((wt.setCell ⟨gt, 0, none⟩ (.slice Aq t.f0.length cq)).setCell ⟨gt, 1, none⟩ (.int .i64 t.f1)).setCell ⟨gt, 2, none⟩ (.int .i64 t.f2)).setCell ⟨gt, 3, none⟩ (.bool t.f3)) := (below_set (below_set (below_set (below_set gtH.out hle) hle) hle) hle)
    have hBT : ((((wt.setCell ⟨gt, 0, none⟩ (.slice Aq t.f0.length cq)).setCell ⟨gt, 1, none⟩ (.int .i64 t.f1)).setCell ⟨gt, 2, none⟩ (.int .i64 t.f2)).setCell ⟨gt, 3, none⟩ (.bool t.f3)).heap[gt]? = some (.cells #[.slice Aq t.f0.length cq, .int .i64 t.f1, .int .i64 t.f2, .bool t.f3] 66 (0, 0)) := (blk_put (blk_put (blk_put (blk_put gtB.out 0 _ rfl) 1 _ rfl) 2 _ rfl) 3 _ rfl)
    generalize ((((wt.setCell ⟨gt, 0, none⟩ (.slice Aq t.f0.length cq)).setCell ⟨gt, 1, none⟩ (.int .i64 t.f1)).setCell ⟨gt, 2, none⟩ (.int .i64 t.f2)).setCell ⟨gt, 3, none⟩ (.bool t.f3)) = w4 at hbW hBT ⊢
    have BT := Aside0.mk hBT
    replace HA := Aside0.mk (Kd.R_below HA.out hbW)
    replace HE := Aside0.mk (Kd.R_below HE.out hbW)
    replace HU := Aside0.mk (Kd.R_below HU.out hbW)
    replace HB := Aside0.mk (below_step HB.out hbW)
    replace HWZ : Aside0 (b2 ≤ w4.heap.size) := ⟨Nat.le_trans HWZ.out hbW.size⟩
    clear hBT hbW hle gtB gtH gtf0 gtz0 gtf1 gtz1 gtf2 gtz2 gtf3 gtz3
    clear hx0 hx1 hx2 hx3
    have tz0 : w4.cell? ⟨gt, 0, none⟩ = some (.slice Aq t.f0.length cq) := (blk_cell BT.out 0).trans rfl
    have tf0 := blk_frozen BT.out 0
    have tz1 : w4.cell? ⟨gt, 1, none⟩ = some (.int .i64 t.f1) := (blk_cell BT.out 1).trans rfl
    have tf1 := blk_frozen BT.out 1
    have tz2 : w4.cell? ⟨gt, 2, none⟩ = some (.int .i64 t.f2) := (blk_cell BT.out 2).trans rfl
    have tf2 := blk_frozen BT.out 2
    have tz3 : w4.cell? ⟨gt, 3, none⟩ = some (.bool t.f3) := (blk_cell BT.out 3).trans rfl
    have tf3 := blk_frozen BT.out 3
    have hes := HES.out.1
    obtain ⟨gE, c_, e_, hgE, _, _⟩ := Kd.R_form HE.out (by rw [hes]; omega)
    injection e_ with e1 e2 e3
    clear e2 e3
    subst e1
    have hsc := Kd.Q_cell (0 : Int) (Kd.Q_of_R HE.out) (i : Int) (by omega) (by omega)
    rw [Nat.zero_add] at hsc
    have hy0 : w4.cell? ⟨gE, i, none⟩ = _ := hsc.1
    have hy1 : w4.frozen? ⟨gE, i, none⟩ = false := hsc.2
    clear hsc hes
    go_upto_region 10 with (fail)
    have hge : b1 ≤ gE ∧ gE < b2 := HE.out.1 gE (by simp [Value.ownBlock])
    have n0_ : Aside0 (Kd.R (Kd.int .i64) 3 (w4.setCell ⟨gE, i, none⟩ (.int .i64 t.f2)) w.heap.size (fun k => b1 ≤ k ∧ k < b2) (.slice (some ⟨gE, 0, none⟩) l.length d10) (es.set i t.f2)) := ⟨Kd.R_putn HE.out (i : Int) t.f2⟩
    have n1_ := Aside0.mk (Kd.R_far (p := ⟨gE, i, none⟩) HA.out (fun k hk => by show k ≠ gE; omega) (.int .i64 t.f2))
    have n2_ := Aside0.mk (Kd.R_far (p := ⟨gE, i, none⟩) HU.out (fun k hk => by show k ≠ gE; omega) (.int .i64 t.f2))
    have n3_ : Aside0 (Below w.heap.size w (w4.setCell ⟨gE, i, none⟩ (.int .i64 t.f2))) := ⟨below_set HB.out hgE⟩
    have n4_ : Aside0 (b2 ≤ (w4.setCell ⟨gE, i, none⟩ (.int .i64 t.f2)).heap.size) := ⟨by simpa using HWZ.out⟩
    have n5_ : Aside0 ((es.set i t.f2).length = l.length ∧ ∀ k, k < i + 1 → (es.set i t.f2).getD k 0 = (tkAt l k).f2) := ⟨by have h := errs_next HES.out ci; rw [HTI.out] at h; exact h⟩
    clear hge
    go_wp2_with fail
    have hi1 : wrap64 ((i : Int) + 1) = ((i + 1 : Nat) : Int) := by have := HRV.out; rw [EvKit.wrap64_id (by omega) (by omega)]; omega
    go_roundg g3
    case measure => omega
    case rel => exact ⟨i + 1, _, by first | (rw [← hi1]; done) | rfl | (congr 1; omega), ⟨stp_ HII.out⟩, n5_, n1_, n0_, n2_, n4_, n3_⟩
theorem spec_BusFine.calls (A0 : Option Addr) (c0 : Nat) (l0 : List S66) (A1 : Option Addr) (c1 : Nat) (l1 : List S73) (A2 : Option Addr) (c2 : Nat) (l2 : List S66) (a3 : Int) (r : Bool) (w : World)
    (hr0 : Kd.C k66 w A0 l0.length l0) (hc0 : l0.length ≤ c0) (hr1 : Kd.C k73 w A1 l1.length l1) (hc1 : l1.length ≤ c1) (hr2 : Kd.C k66 w A2 l2.length l2) (hc2 : l2.length ≤ c2) (h : spec_BusFine.f l0 l1 l2 a3 = some r) :
    Calls Try.prog 26 #[.slice A0 l0.length c0, .slice A1 l1.length c1, .slice A2 l2.length c2, .int .i64 a3] w fun e w' => e = .returned (.bool r) ∧ Below w.heap.size w w' := by
  unfold spec_BusFine.f at h
  by_cases c : FineP l0 l1 l2 a3
  · rw [if_pos c] at h
    obtain rfl := Option.some.inj h
    exact bfw_walk A0 c0 l0 A1 c1 l1 A2 c2 l2 a3 w hr0 hc0 hr1 hc1 hr2 hc2 c
  · rw [if_neg c] at h
    cases h
end Go.Proofs.Ytbdonoeellmeoaa.Pr
