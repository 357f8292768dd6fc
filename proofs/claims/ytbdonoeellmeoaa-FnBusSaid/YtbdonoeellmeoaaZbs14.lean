-- Joined and pruned by wip/tools/prune.py out of this session's own texts (Rbs, Pr16, PureBusD, PureFnBus)
import Derived.Test.YtbdonoeellmeoaaZbs13
/- spec.RunBus by hand: the walk; of its result the flag alone is told. -/
namespace Go.Proofs.Ytbdonoeellmeoaa.Pr
open Go.RowKit Go.Proofs.YtbdonoeellmeoaaW.PrintWords Go.Proofs.YtbdonoeellmeoaaW.PrintLast Go.Proofs.YtbdonoeellmeoaaW.PrintMore Go.Proofs.Ytbdonoeellmeoaa.Bus Go.Proofs.Ytbdonoeellmeoaa.EvKit
set_option linter.unusedVariables false
set_option linter.unusedSimpArgs false
def EndsS (w : World) (b : Bool) (e : Ending) (w' : World) : Prop := ∃ v0_ v1_ : Value, e = .returned (.tuple #[v0_, v1_, .bool b]) ∧ Below w.heap.size w w'
theorem endsS_no {w w' : World} (h : Below w.heap.size w w') : EndsS w false (.returned (.tuple #[.slice none 0 0, .slice none 0 0, .bool false])) w' := ⟨_, _, rfl, h⟩
theorem l23t_calls (A : Option Addr) (c : Nat) (t : S66) (b : Bool) (w : World) (h1 : Kd.C k27 w A t.f0.length t.f0) (h2 : t.f0.length ≤ c) (hs : smallT t = true) (h : goodT t = b) :
    Calls Try.prog 46 #[.agg #[.slice A t.f0.length c, .int .i64 t.f1, .int .i64 t.f2, .bool t.f3]] w fun e w' => e = .returned (.bool b) ∧ Below w.heap.size w w' := by
  obtain ⟨k, hk⟩ := Pure.l23Talker_ev t hs
  exact spec_l23Talker.calls k A c t.f0 t.f1 t.f2 t.f3 b w h1 h2 (by rw [← h]; exact hk k (Nat.le_refl _))
theorem frames_l0 (q : List S27) (hl : q.length ≤ 1048576) (hs : ∀ f ∈ q, f.f1.length ≤ 1048576) (d : Nat) : ∀ i : Nat, i + d = q.length → Ev (fun k => spec_l23Frames.l0 k (q.take i) q (q.length : Int) (i : Int)) q := by
  induction d with
  | zero =>
    intro i hi
    have e : i = q.length := by omega
    subst e
    apply Ev.succ
    simp only [spec_l23Frames.l0, show ¬ ((q.length : Int) < (q.length : Int)) by omega, if_false, List.take_length]
    exact Ev.some rfl
  | succ d ih =>
    intro i hi
    have hi2 : i < q.length := by omega
    have e1 : rd_T27 q (i : Int) = q[i] := by
      show q.getD i z27 = _
      simp [List.getD_eq_getElem?_getD, List.getElem?_eq_getElem hi2]
    have hb := hs _ (List.getElem_mem hi2)
    have h0 : (q.take i).length < 4398046511104 := by rw [List.length_take]; omega
    have e2 : q.take i ++ [q[i]] = q.take (i + 1) := by rw [List.take_succ_eq_append_getElem hi2]
    apply Ev.succ
    simp only [spec_l23Frames.l0, show ((i : Int) < (q.length : Int)) by omega, show (0 : Int) ≤ (i : Int) by omega, if_true, e1, Option.bind_some, List.nil_append, List.length_nil, show (0 + q[i].f1.length < 140737488355328) by omega, h0, Pure.succ_b (show i < 1048577 by omega), e2]
    exact ih (i + 1) (by omega)
theorem frames_ev (q : List S27) (hl : q.length ≤ 1048576) (hs : ∀ f ∈ q, f.f1.length ≤ 1048576) : Ev (fun k => spec_l23Frames.f k q) q := frames_l0 q hl hs q.length 0 (by omega)
theorem small_fs {t : S66} (h : smallT t = true) : ∀ f ∈ t.f0, f.f1.length ≤ 1048576 := by
  unfold smallT at h
  simp only [Bool.and_eq_true] at h
  exact fun f hf => of_decide_eq_true (List.all_eq_true.1 h.2 f hf)
theorem frames_calls (A : Option Addr) (c : Nat) (t : S66) (w : World) (h1 : Kd.C k27 w A t.f0.length t.f0) (h2 : t.f0.length ≤ c) (hs : smallT t = true) :
    Calls Try.prog 47 #[.slice A t.f0.length c] w fun e w' => ∃ v : Value, e = .returned v ∧ Kd.N k27 27 w' w.heap.size (fun k => w.heap.size ≤ k) v t.f0 ∧ Below w.heap.size w w' := by
  obtain ⟨k, hk⟩ := frames_ev t.f0 (small_q hs) (small_fs hs)
  refine (spec_l23Frames.calls k A c t.f0 t.f0 w h1 h2 (hk k (Nat.le_refl _))).mono ?_
  rintro e w' ⟨v, rfl, hS, hb⟩
  exact ⟨v, rfl, Kd.N_mono (Kd.R_N (Kd.R_bound (Kd.S_R hS))) (fun k hk => hk.2.1), hb⟩
theorem arb_any (ids : List Int) (h : ids ≠ []) : ∃ (pk : Nat) (x : List Int) (b : Bool), pk < ids.length ∧ Ev (fun q => spec_Arbitrate.f q ids) ((pk : Int), x, b) := by
  by_cases hf : Pure.Fine ids
  · obtain ⟨x, _, h1, _, h2⟩ := arb_pk ids hf
    exact ⟨_, x, true, h1, h2⟩
  · exact ⟨0, [], false, List.length_pos_iff.2 h, (Pure.arbitrate_no ids hf).2⟩
/-- What stays true of the talkers and the shares: their number, and that no queue is long. -/
structure WInv (n : Nat) (now : List S66) (used : List Int) : Prop where
  ln : now.length = n
  lu : used.length = n
  sm : ∀ i, i < n → smallT (now.getD i z66) = true
theorem WInv.first {l : List S66} {sp : List Int} (h : smallB l sp = true) : WInv l.length l (List.replicate l.length 0) := ⟨rfl, List.length_replicate, fun i hi => small_at h i hi⟩
theorem WInv.zero {n : Nat} {now : List S66} {used : List Int} (h : WInv n now used) : WInv n now (List.replicate n 0) := ⟨h.ln, List.length_replicate, h.sm⟩
theorem WInv.use {n : Nat} {now : List S66} {used : List Int} (h : WInv n now used) (i : Nat) (x : Int) : WInv n now (used.set i x) := ⟨h.ln, by rw [List.length_set]; exact h.lu, h.sm⟩
theorem WInv.put {n : Nat} {now : List S66} {used : List Int} (h : WInv n now used) (i : Nat) (t : S66) (ht : smallT t = true) : WInv n (now.set i t) used := by
  refine ⟨by rw [List.length_set]; exact h.ln, h.lu, fun j hj => ?_⟩
  by_cases c : i = j
  · subst c
    rw [getD_set_self _ _ _ _ (by rw [h.ln]; exact hj)]
    exact ht
  · have e : (now.set i t).getD j z66 = now.getD j z66 := by simp [List.getD_eq_getElem?_getD, List.getElem?_set, c]
    rw [e]
    exact h.sm j hj
theorem small_drop {t : S66} (h : smallT t = true) (e : Int) (b : Bool) : smallT ⟨t.f0.drop 1, t.f1, e, b⟩ = true := by
  unfold smallT at h ⊢
  simp only [Bool.and_eq_true, decide_eq_true_eq] at h ⊢
  refine ⟨by rw [List.length_drop]; omega, ?_⟩
  exact List.all_eq_true.2 fun f hf => List.all_eq_true.1 h.2 f (List.mem_of_mem_drop hf)
theorem small_same {t : S66} (h : smallT t = true) (e : Int) (b : Bool) : smallT ⟨t.f0, t.f1, e, b⟩ = true := h
section
variable {W : World} {base g n cap : Nat} {ok : Nat → Prop} {xs : List S66}
theorem now_cut1 (h : Kd.N k66 66 W base ok (.slice (some ⟨g, 0, none⟩) n cap) xs) (i : Nat) (hi : i < n) {t : S66} (ht : xs.getD i z66 = t) {A : Option Addr} (hl : t.f0.length ≤ 1) (hp : 0 < t.f0.length) (hF : Kd.F k27 W (fun k => ok k ∧ k ≠ g) A t.f0.length t.f0) :
    Kd.N k66 66 (W.setCell ⟨g, i * 4, none⟩ (.slice A (t.f0.length - 1) 0)) base ok (.slice (some ⟨g, 0, none⟩) n cap) (xs.set i ⟨t.f0.drop 1, t.f1, t.f2, t.f3⟩) := by
  subst ht
  have hq : ((xs.getD i z66).f0.drop 1).length = (xs.getD i z66).f0.length - 1 := List.length_drop ..
  have hC := Kd.F_cut (m := 1) (c := 1) hF hp hl
  have h1 := now_put0 h i hi ((xs.getD i z66).f0.drop 1) (A' := A) (c' := 0) (by rw [hq]; omega) hC (fun _ hk => hk)
  rw [hq] at h1
  exact h1
theorem now_cutN (h : Kd.N k66 66 W base ok (.slice (some ⟨g, 0, none⟩) n cap) xs) (i : Nat) (hi : i < n) {t : S66} (ht : xs.getD i z66 = t) {A : Option Addr} {c : Nat} (hl : t.f0.length ≤ c) (hp : 0 < t.f0.length) (hF : Kd.F k27 W (fun k => ok k ∧ k ≠ g) A t.f0.length t.f0) (hc : ¬ c = 1) :
    Kd.N k66 66 (W.setCell ⟨g, i * 4, none⟩ (.slice (Option.map (fun x => (⟨x.block, x.off + 2, none⟩ : Addr)) A) (t.f0.length - 1) (c - 1))) base ok (.slice (some ⟨g, 0, none⟩) n cap) (xs.set i ⟨t.f0.drop 1, t.f1, t.f2, t.f3⟩) := by
  subst ht
  have hq : ((xs.getD i z66).f0.drop 1).length = (xs.getD i z66).f0.length - 1 := List.length_drop ..
  have hC := Kd.F_cut (m := 1) (c := c) hF hp hl
  rw [if_neg hc] at hC
  have h1 := now_put0 h i hi ((xs.getD i z66).f0.drop 1) (c' := c - 1) (by rw [hq]; omega) hC (fun _ hk => hk)
  rw [hq] at h1
  exact h1
theorem now_two (h : Kd.N k66 66 W base ok (.slice (some ⟨g, 0, none⟩) n cap) xs) (i : Nat) (hi : i < n) {t : S66} (ht : xs.getD i z66 = t) (e : Int) :
    Kd.N k66 66 (W.setCell ⟨g, i * 4 + 2, none⟩ (.int .i64 e)) base ok (.slice (some ⟨g, 0, none⟩) n cap) (xs.set i ⟨t.f0, t.f1, e, t.f3⟩) := by
  subst ht
  exact now_put2 h i hi e
theorem now_three (h : Kd.N k66 66 W base ok (.slice (some ⟨g, 0, none⟩) n cap) xs) (i : Nat) (hi : i < n) {t : S66} (ht : xs.getD i z66 = t) (b : Bool) :
    Kd.N k66 66 (W.setCell ⟨g, i * 4 + 3, none⟩ (.bool b)) base ok (.slice (some ⟨g, 0, none⟩) n cap) (xs.set i ⟨t.f0, t.f1, t.f2, b⟩) := by
  subst ht
  exact now_put3 h i hi b
end
/-- Who may talk, of the first i: as many as their ids, each with a frame. -/
def CInv (n : Nat) (now : List S66) (i : Nat) (cs : List Nat) (is : List Int) : Prop := cs.length = is.length ∧ cs.length ≤ i ∧ ∀ c ∈ cs, c < n ∧ 0 < (now.getD c z66).f0.length
theorem CInv.first (n : Nat) (now : List S66) : CInv n now 0 [] [] := ⟨rfl, Nat.le_refl _, fun c hc => by cases hc⟩
theorem CInv.skip {n i : Nat} {now : List S66} {cs : List Nat} {is : List Int} (h : CInv n now i cs is) : CInv n now (i + 1) cs is := ⟨h.1, by have := h.2.1; omega, h.2.2⟩
theorem CInv.take {n i : Nat} {now : List S66} {cs : List Nat} {is : List Int} (h : CInv n now i cs is) (x : Int) (hi : i < n) (hp : 0 < (now.getD i z66).f0.length) : CInv n now (i + 1) (cs ++ [i]) (is ++ [x]) := by
  refine ⟨by rw [List.length_append, List.length_append, h.1]; rfl, by rw [List.length_append, List.length_singleton]; have := h.2.1; omega, fun c hc => ?_⟩
  rcases List.mem_append.1 hc with hc | hc
  · exact h.2.2 c hc
  · rw [List.mem_singleton.1 hc]
    exact ⟨hi, hp⟩
theorem ne_lt {a b k : Nat} (h : a < b) (hk : b ≤ k) : k ≠ a := by omega
set_option maxHeartbeats 4000000 in
set_option maxRecDepth 100000 in
theorem sbus_walk (A0 : Option Addr) (c0 : Nat) (l : List S66) (rounds window : Int) (A3 : Option Addr) (c3 : Nat) (sp : List Int) (w : World) (b : Bool)
    (hr0 : Kd.C k66 w A0 l.length l) (hc0 : l.length ≤ c0) (hr3 : Kd.C (Kd.int .i64) w A3 sp.length sp) (hc3 : sp.length ≤ c3) (hsm : smallB l sp = true) (hr : (argsOk l rounds window sp && l.all goodT) = b) :
    Calls Try.prog 25 #[.slice A0 l.length c0, .int .i64 rounds, .int .i64 window, .slice A3 sp.length c3] w (EndsS w b) := by
  have HR0 := Aside0.mk hr0
  have HC0 := Aside0.mk hc0
  have HR3 := Aside0.mk hr3
  have HC3 := Aside0.mk hc3
  have HSM := Aside0.mk hsm
  have HRR := Aside0.mk hr
  clear hr0 hc0 hr3 hc3 hsm hr
  by_cases a0 : 6 < l.length
  · have a0b : decide (6 < l.length) = true := decide_eq_true a0
    have a0c : decide ((6 : Int) < (l.length : Int)) = true := decide_eq_true (by omega)
    have hr := HRR.out
    rw [show argsOk l rounds window sp = false from decide_eq_false (by omega), Bool.false_and] at hr
    have HR2 := Aside0.mk hr
    clear hr HRR
    go_enter Try.func25, Try.ntmps25
    go_wp2_with fail
    go_ret3
    rw [← HR2.out]
    exact endsS_no (by repeat (first | exact Below.refl _ _ | apply pw_below_drewN))
  have a0b : decide (6 < l.length) = false := decide_eq_false a0
  have a0c : decide ((6 : Int) < (l.length : Int)) = false := decide_eq_false (by omega)
  by_cases a1 : rounds < 0
  · have a1b : decide (rounds < 0) = true := decide_eq_true a1
    have hr := HRR.out
    rw [show argsOk l rounds window sp = false from decide_eq_false (by omega), Bool.false_and] at hr
    have HR2 := Aside0.mk hr
    clear hr HRR
    go_enter Try.func25, Try.ntmps25
    go_wp2_with fail
    go_ret3
    rw [← HR2.out]
    exact endsS_no (by repeat (first | exact Below.refl _ _ | apply pw_below_drewN))
  have a1b : decide (rounds < 0) = false := decide_eq_false a1
  by_cases a2 : 40 < rounds
  · have a2b : decide (40 < rounds) = true := decide_eq_true a2
    have hr := HRR.out
    rw [show argsOk l rounds window sp = false from decide_eq_false (by omega), Bool.false_and] at hr
    have HR2 := Aside0.mk hr
    clear hr HRR
    go_enter Try.func25, Try.ntmps25
    go_wp2_with fail
    go_ret3
    rw [← HR2.out]
    exact endsS_no (by repeat (first | exact Below.refl _ _ | apply pw_below_drewN))
  have a2b : decide (40 < rounds) = false := decide_eq_false a2
  by_cases a3 : window < 1
  · have a3b : decide (window < 1) = true := decide_eq_true a3
    have hr := HRR.out
    rw [show argsOk l rounds window sp = false from decide_eq_false (by omega), Bool.false_and] at hr
    have HR2 := Aside0.mk hr
    clear hr HRR
    go_enter Try.func25, Try.ntmps25
    go_wp2_with fail
    go_ret3
    rw [← HR2.out]
    exact endsS_no (by repeat (first | exact Below.refl _ _ | apply pw_below_drewN))
  have a3b : decide (window < 1) = false := decide_eq_false a3
  by_cases a4 : 20 < window
  · have a4b : decide (20 < window) = true := decide_eq_true a4
    have hr := HRR.out
    rw [show argsOk l rounds window sp = false from decide_eq_false (by omega), Bool.false_and] at hr
    have HR2 := Aside0.mk hr
    clear hr HRR
    go_enter Try.func25, Try.ntmps25
    go_wp2_with fail
    go_ret3
    rw [← HR2.out]
    exact endsS_no (by repeat (first | exact Below.refl _ _ | apply pw_below_drewN))
  have a4b : decide (20 < window) = false := decide_eq_false a4
  by_cases a5 : 40 < sp.length
  · have a5b : decide (40 < sp.length) = true := decide_eq_true a5
    have a5c : decide ((40 : Int) < (sp.length : Int)) = true := decide_eq_true (by omega)
    have hr := HRR.out
    rw [show argsOk l rounds window sp = false from decide_eq_false (by omega), Bool.false_and] at hr
    have HR2 := Aside0.mk hr
    clear hr HRR
    go_enter Try.func25, Try.ntmps25
    go_wp2_with fail
    go_ret3
    rw [← HR2.out]
    exact endsS_no (by repeat (first | exact Below.refl _ _ | apply pw_below_drewN))
  have a5b : decide (40 < sp.length) = false := decide_eq_false a5
  have a5c : decide ((40 : Int) < (sp.length : Int)) = false := decide_eq_false (by omega)
  have hr := HRR.out
  rw [show argsOk l rounds window sp = true from decide_eq_true (by omega), Bool.true_and] at hr
  replace HRR := Aside0.mk hr
  clear hr
  go_enter Try.func25, Try.ntmps25
  go_wp2_with fail
  obtain ⟨R, hR⟩ : ∃ R : Nat, rounds = (R : Int) := ⟨rounds.toNat, by omega⟩
  obtain ⟨V, hV⟩ : ∃ V : Nat, window = (V : Int) := ⟨window.toNat, by omega⟩
  subst hR
  subst hV
  have HRV : Aside0 (R ≤ 40 ∧ 1 ≤ V ∧ V ≤ 20 ∧ l.length ≤ 6 ∧ sp.length ≤ 40) := ⟨by omega⟩
  clear a0 a0b a1 a1b a2 a2b a3 a3b a4 a4b a5 a5b a0c a5c
  go_loopg [11, 55] l.length (fun g v11 v55 w' => ∃ j : Nat, v55 = .int .i64 (j : Int) ∧ Aside0 (j + g = l.length) ∧ Aside0 (Kd.N k66 66 w' w.heap.size (fun _ => True) v11 (l.take j)) ∧ Aside0 ((l.take j).all goodT = true) ∧ Aside0 (Below w.heap.size w w'))
  case atStart => exact ⟨0, rfl, ⟨by omega⟩, ⟨Kd.N_nil _ _ _ _ _⟩, ⟨rfl⟩, ⟨by repeat (first | exact Below.refl _ _ | apply pw_below_drewN)⟩⟩
  case round =>
    obtain ⟨j, rfl, HJ, HE, HG, HB⟩ := hrel
    by_cases cj : j < l.length
    rotate_left
    · have hj : j = l.length := by have := HJ.out; omega
      subst hj
      have cjb : decide (l.length < l.length) = false := decide_eq_false (by omega)
      clear cj
      rw [List.take_length] at HE HG
      have hr := HRR.out
      rw [HG.out] at hr
      have HR2 : Aside0 (true = b) := ⟨hr⟩
      clear hr HRR HG
      obtain ⟨AE, cE, eE⟩ := Kd.N_slice HE.out
      subst eE
      obtain ⟨b1, hb1⟩ : ∃ b1, b1 = wr.heap.size := ⟨_, rfl⟩
      have HB1 := Aside0.mk hb1
      clear hb1
      have HW1 : Aside0 (w.heap.size ≤ b1) := ⟨by rw [HB1.out]; exact HB.out.size⟩
      replace HE := Aside0.mk (Kd.N_mono (Kd.N_bound HE.out) (ok' := fun k => k < b1) (fun k hk => by have := HB1.out; have := hk.2; omega))
      have HI := Aside0.mk (WInv.first HSM.out)
      go_wp2_with (first | ((with_reducible refine gate_dst (N := 73) rfl ?_); refine Kd.R_make (Kd.int .i64) (w0 := w) w.heap.size 3 rfl (N := 73) rfl 31 _ _ rfl (l.length : Int) rfl rfl Try.underlying31 (.int .i64 0) 8 info3 rfl (by decide) (by omega) 0 (ok := fun k => b1 ≤ k) (okp := fun _ => False) rfl (fun _ hk => hk.elim) (Nat.le_of_eq HB1.out) (by omega) (by have := HRV.out; omega) HB.out HB.out.size ?_; intro v15 w5 ho hb hg hnew; have HS := Aside0.mk ho; have HBn := Aside0.mk hb; have HGn := Aside0.mk hg; clear ho hb hg hnew))
      replace HE := Aside0.mk (Kd.N_grown HE.out HGn.out (fun _ _ h => by cases h))
      replace HB := HBn
      simp only [Int.toNat_natCast] at HS
      have HWZ : Aside0 (b1 ≤ w5.heap.size) := ⟨Nat.le_trans (Nat.le_of_eq HB1.out) HGn.out.size⟩
      go_loopg [14, 15, 16] R (fun g v14 v15 v16 w' => ∃ (r : Nat) (now : List S66) (used : List Int) (out : List S73), v16 = .int .i64 (r : Int) ∧ Aside0 (r + g = R) ∧ Aside0 (WInv l.length now used) ∧ Aside0 (out.length ≤ r) ∧ Aside0 (Kd.N k66 66 w' w.heap.size (fun k => k < b1) (.slice AE l.length cE) now) ∧ Aside0 (Kd.R (Kd.int .i64) 3 w' w.heap.size (fun k => b1 ≤ k ∧ some k ≠ (v14 : Value).ownBlock) v15 used) ∧ Aside0 (Kd.R k73 73 w' w.heap.size (fun k => b1 ≤ k ∧ some k ≠ (v15 : Value).ownBlock) v14 out) ∧ Aside0 (b1 ≤ w'.heap.size) ∧ Aside0 (Below w.heap.size w w'))
      case atStart => exact ⟨0, l, List.replicate l.length 0, [], rfl, ⟨by omega⟩, HI, ⟨Nat.zero_le _⟩, HE, ⟨Kd.R_mono HS.out (fun k hk => ⟨hk, by simp [Value.ownBlock]⟩)⟩, ⟨Kd.R_nil _ _ _ _ _⟩, HWZ, HB⟩
      case round =>
        clear HE HS HB HI HWZ HBn HGn HB1 HSM HR0 HC0
        obtain ⟨r, now, used, out, rfl, HRG, HI, HOL, HE, HS, HO, HWZ, HB⟩ := hrel
        by_cases cr : r < R
        rotate_left
        · have crb : decide (r < R) = false := decide_eq_false cr
          have crc : decide ((r : Int) < (R : Int)) = false := decide_eq_false (by omega)
          clear cr
          obtain ⟨b4, hb4⟩ : ∃ b4, b4 = wr.heap.size := ⟨_, rfl⟩
          have HB4 := Aside0.mk hb4
          clear hb4
          have HW4 : Aside0 (b1 ≤ b4) := ⟨by rw [HB4.out]; exact HWZ.out⟩
          replace HE := Aside0.mk (Kd.N_mono HE.out (ok' := fun k => k < b1 ∨ b4 ≤ k) (fun k hk => Or.inl hk))
          have HEB : Aside0 (∀ k, (Value.slice AE l.length cE).ownBlock = some k → k < b1) := ⟨fun k hk => by have h1 := HE.out.1 k hk; have h2 := Kd.N_lt HE.out k hk; have := HB4.out; omega⟩
          clear HS
          go_wp2_with fail
          go_loopg [219] l.length (fun g v219 w' => ∃ j : Nat, v219 = .int .i64 (j : Int) ∧ Aside0 (j + g = l.length) ∧ Aside0 (Kd.N k66 66 w' w.heap.size (fun k => k < b1 ∨ b4 ≤ k) (.slice AE l.length cE) now) ∧ Aside0 (b4 ≤ w'.heap.size) ∧ Aside0 (Below w.heap.size w w'))
          case atStart => exact ⟨0, rfl, ⟨by omega⟩, HE, ⟨Nat.le_of_eq HB4.out⟩, HB⟩
          case round =>
            clear HE HB HWZ HB4 HO
            obtain ⟨j, rfl, HJ2, HE, HWZ, HB⟩ := hrel
            by_cases cj : j < l.length
            rotate_left
            · have cjb2 : decide (j < l.length) = false := decide_eq_false cj
              go_wp2_with fail
              go_ret3
              rw [← HR2.out]
              exact ⟨_, _, rfl, by repeat (first | exact HB.out | apply pw_below_drewN | apply below_drew1)⟩
            have cjb2 : decide (j < l.length) = true := decide_eq_true cj
            obtain ⟨g5, rfl⟩ : ∃ g5, gk = g5 + 1 := ⟨gk - 1, by have := HJ2.out; omega⟩
            obtain ⟨gE, cE2, eE, hgE, _, _⟩ := Kd.N_form HE.out (by rw [HI.out.ln]; omega)
            injection eE with eE1 eE2 eE3
            clear eE2 eE3
            subst eE1
            obtain ⟨Aq, cq, hlq, hFq, hcc⟩ := now_open HE.out j cj
            obtain ⟨t, hti⟩ : ∃ t, now.getD j z66 = t := ⟨_, rfl⟩
            rw [hti] at hlq hFq hcc
            have HTI := Aside0.mk hti
            have HFQ := Aside0.mk hFq
            have HLQ := Aside0.mk hlq
            have HST : Aside0 (smallT t = true) := ⟨by rw [← hti]; exact HI.out.sm j cj⟩
            have hx0 : wr.cell? ⟨gE, j * 4, none⟩ = some (.slice Aq t.f0.length cq) := hcc 0 _ rfl
            clear hti hlq hFq hcc
            have j0 : (0 ≤ (j : Int)) = True := eq_true (by omega)
            have j1 : (j < l.length) = True := eq_true cj
            have j2 : ((j : Int) < (l.length : Int)) = True := eq_true (by omega)
            obtain ⟨cells, hce⟩ := Kd.N_typed HE.out gE (by simp [Value.ownBlock])
            have HCE := Aside0.mk hce
            clear hce
            go_wp2_with (first | (go_at_call 47; refine (frames_calls Aq cq t _ (Kd.F_now HFQ.out) HLQ.out HST.out).mono ?_; rintro e w5 ⟨v5, rfl, hn, hb⟩; obtain ⟨A5, c5, e5⟩ := Kd.N_slice hn; subst e5; replace hx0 := pw_cell_below hb hx0; have hy0 : w5.frozen? ⟨gE, j * 4, none⟩ = false := blk_frozen (blk_below HCE.out hb) _; have HN5 := Aside0.mk hn; have HSZ : Aside0 (wr.heap.size ≤ w5.heap.size) := ⟨hb.size⟩; replace HE := Aside0.mk (Kd.N_below HE.out hb); replace HB := Aside0.mk (below_step HB.out hb); clear hb hn))
            have hgb := HEB.out gE (by simp [Value.ownBlock])
            have hn_ := now_keep HE.out j cj HI.out.ln HTI.out (Kd.N_reads' HN5.out).2.1 (Kd.N_F HN5.out) (fun k hk => by have := HWZ.out; have := HW4.out; exact ⟨Or.inr (by omega), by omega⟩)
            have hj1 : wrap64 ((j : Int) + 1) = ((j + 1 : Nat) : Int) := by have := HRV.out; rw [EvKit.wrap64_id (by omega) (by omega)]; omega
            go_roundg g5
            case measure => omega
            case rel => exact ⟨j + 1, by first | (rw [← hj1]; done) | rfl | (congr 1; omega), ⟨stp_ HJ2.out⟩, ⟨hn_⟩, ⟨by have := HSZ.out; have := HWZ.out; simpa using (by omega : b4 ≤ w5.heap.size)⟩, ⟨below_set HB.out hgE⟩⟩
        have crb : decide (r < R) = true := decide_eq_true cr
        have crc : decide ((r : Int) < (R : Int)) = true := decide_eq_true (by omega)
        obtain ⟨g, rfl⟩ : ∃ g, gk = g + 1 := ⟨gk - 1, by have := HRG.out; omega⟩
        have hV0 : (V = 0) = False := eq_false (by have := HRV.out; omega)
        go_upto_if 82 with (fail)
        go_cut [15] (fun v15 wc => ∃ (z15 : Value) (used1 : List Int), v15 = z15 ∧ Aside0 (WInv l.length now used1) ∧ Aside0 (Kd.N k66 66 wc w.heap.size (fun k => k < b1) (.slice AE l.length cE) now) ∧ Aside0 (Kd.R (Kd.int .i64) 3 wc w.heap.size (fun k => b1 ≤ k ∧ some k ≠ (u14 : Value).ownBlock) z15 used1) ∧ Aside0 (Kd.R k73 73 wc w.heap.size (fun k => b1 ≤ k ∧ some k ≠ (z15 : Value).ownBlock) u14 out) ∧ Aside0 (b1 ≤ wc.heap.size) ∧ Aside0 (Below w.heap.size w wc))
        case first =>
          have hmc : (r : Int) % (V : Int) = ((r % V : Nat) : Int) := by simp
          by_cases cm : r % V = 0
          · have hmt : ((r : Int) % (V : Int) == 0) = true := beq_iff_eq.mpr (by rw [hmc, cm]; rfl)
            clear hmc cm
            go_wp2_with (first | ((with_reducible refine gate_dst (N := 85) rfl ?_); refine Kd.R_make (Kd.int .i64) (w0 := w) w.heap.size 3 rfl (N := 85) rfl 31 _ _ rfl (l.length : Int) rfl rfl Try.underlying31 (.int .i64 0) 8 info3 rfl (by decide) (by omega) 0 (ok := fun k => b1 ≤ k ∧ some k ≠ (u14 : Value).ownBlock) (okp := fun _ => False) rfl (fun _ hk => hk.elim) ⟨HWZ.out, fun e => by have := Kd.R_lt HO.out _ e.symm; omega⟩ (by omega) (by have := HRV.out; omega) HB.out HB.out.size ?_; intro v15 w5 ho hb hg hnew; have n0_ := Aside0.mk (Kd.N_grown HE.out hg (fun _ _ h => by cases h)); have n1_ : Aside0 (Kd.R k73 73 w5 w.heap.size (fun k => b1 ≤ k ∧ some k ≠ (v15 : Value).ownBlock) u14 out) := ⟨Kd.R_mono (Kd.R_grown (Kd.R_bound HO.out) hg (fun _ _ h => by cases h)) (fun k hk => ⟨hk.1.1, fun e => by obtain ⟨bb, h1, h2⟩ := hnew; rw [h1] at e; cases e; have := hk.2.2.1; omega⟩)⟩; have n2_ := Aside0.mk hb; have n3_ : Aside0 (b1 ≤ w5.heap.size) := ⟨Nat.le_trans HWZ.out hg.size⟩; have n4_ := Aside0.mk ho; clear HE HO HB HWZ HS hb hg ho hnew; have HE := n0_; have HO := n1_; have HB := n2_; have HWZ := n3_; have HS := n4_; clear n0_ n1_ n2_ n3_ n4_; simp only [Int.toNat_natCast] at HS))
            go_meet
            case rel => exact ⟨_, _, rfl, ⟨HI.out.zero⟩, HE, HS, HO, HWZ, HB⟩
          · have hmt : ((r : Int) % (V : Int) == 0) = false := beq_eq_false_iff_ne.mpr (by rw [hmc]; exact_mod_cast cm)
            clear hmc cm
            go_wp2
            go_meet
            case rel => exact ⟨_, _, rfl, HI, HE, HS, HO, HWZ, HB⟩
        case rest => as_aux_lemma =>
          clear HE HS HO HWZ HB HI hV0
          obtain ⟨_, used1, rfl, HI, HE, HS, HO, HWZ, HB⟩ := hcut
          obtain ⟨b3, hb3⟩ : ∃ b3, b3 = wc.heap.size := ⟨_, rfl⟩
          have HB3 := Aside0.mk hb3
          clear hb3
          have HW3 : Aside0 (b1 ≤ b3) := ⟨by rw [HB3.out]; exact HWZ.out⟩
          replace HO := Aside0.mk (Kd.R_mono (Kd.R_bound HO.out) (ok' := fun k => (b1 ≤ k ∧ k < b3) ∧ some k ≠ (u15 : Value).ownBlock) (fun k hk => ⟨⟨hk.1.1, by have := HB3.out; have := hk.2.2.1; omega⟩, hk.1.2⟩))
          replace HS := Aside0.mk (Kd.R_mono (Kd.R_bound HS.out) (ok' := fun k => (b1 ≤ k ∧ k < b3) ∧ some k ≠ (u14 : Value).ownBlock) (fun k hk => ⟨⟨hk.1.1, by have := HB3.out; have := hk.2.2.1; omega⟩, hk.1.2⟩))
          replace HWZ : Aside0 (b3 ≤ wc.heap.size) := ⟨Nat.le_of_eq HB3.out⟩
          go_wp2_with fail
          go_loopg [17, 18, 88] l.length (fun g v17 v18 v88 w' => ∃ (i : Nat) (cs : List Nat) (is : List Int), v88 = .int .i64 (i : Int) ∧ Aside0 (i + g = l.length) ∧ Aside0 (CInv l.length now i cs is) ∧ Aside0 (Kd.R (Kd.int .i64) 3 w' w.heap.size (fun k => b3 ≤ k ∧ some k ≠ (v18 : Value).ownBlock) v17 (cs.map fun (x : Nat) => (x : Int))) ∧ Aside0 (Kd.R (Kd.int .i64) 3 w' w.heap.size (fun k => b3 ≤ k ∧ some k ≠ (v17 : Value).ownBlock) v18 is) ∧ Aside0 (Kd.N k66 66 w' w.heap.size (fun k => k < b1) (.slice AE l.length cE) now) ∧ Aside0 (Kd.R (Kd.int .i64) 3 w' w.heap.size (fun k => (b1 ≤ k ∧ k < b3) ∧ some k ≠ (u14 : Value).ownBlock) u15 used1) ∧ Aside0 (Kd.R k73 73 w' w.heap.size (fun k => (b1 ≤ k ∧ k < b3) ∧ some k ≠ (u15 : Value).ownBlock) u14 out) ∧ Aside0 (b3 ≤ w'.heap.size) ∧ Aside0 (Below w.heap.size w w'))
          case atStart => exact ⟨0, [], [], rfl, ⟨by omega⟩, ⟨CInv.first _ _⟩, ⟨Kd.R_nil _ _ _ _ _⟩, ⟨Kd.R_nil _ _ _ _ _⟩, HE, HS, HO, HWZ, HB⟩
          case round =>
            clear HE HS HO HWZ HB HB3
            obtain ⟨i, cs, is, rfl, HII, HCI, HC, HD, HE, HS, HO, HWZ, HB⟩ := hrel
            by_cases ci : i < l.length
            rotate_left
            · have hi : i = l.length := by have := HII.out; omega
              subst hi
              have cib : decide (l.length < l.length) = false := decide_eq_false (by omega)
              clear ci
              have HCI0 := HCI.out
              by_cases cc : cs = []
              · as_aux_lemma =>
                  have h0 : cs.length = 0 := by rw [cc]; rfl
                  obtain ⟨A17, c17, e17⟩ := Kd.R_slice HC.out
                  subst e17
                  simp only [List.length_map] at HC
                  have cl0 : ((cs.length : Int) == 0) = true := beq_iff_eq.2 (by omega)
                  have cl1 : (cs.length == 0) = true := beq_iff_eq.2 h0
                  have cl2 : cs.length = 0 := h0
                  have cl3 : (cs.length = 0) = True := eq_true h0
                  clear h0 HCI0
                  go_wp2_with fail
                  have hr1 : wrap64 ((r : Int) + 1) = ((r + 1 : Nat) : Int) := by have := HRV.out; rw [EvKit.wrap64_id (by omega) (by omega)]; omega
                  go_roundg g
                  case measure => omega
                  case rel => exact ⟨r + 1, now, used1, out, by first | (rw [← hr1]; done) | rfl | (congr 1; omega), ⟨stp_ HRG.out⟩, HI, ⟨Nat.le_succ_of_le HOL.out⟩, HE, ⟨Kd.R_mono HS.out (fun k hk => ⟨hk.1.1, hk.2⟩)⟩, ⟨Kd.R_mono HO.out (fun k hk => ⟨hk.1.1, hk.2⟩)⟩, ⟨by have := HWZ.out; have := HW3.out; omega⟩, HB⟩
              have hcl : 0 < cs.length := List.length_pos_iff.2 cc
              have cl0 : ((cs.length : Int) == 0) = false := beq_eq_false_iff_ne.2 (by omega)
              have cl1 : (cs.length == 0) = false := beq_eq_false_iff_ne.2 (by omega)
              have cl3 : (cs.length = 0) = False := eq_false (by omega)
              clear cc
              obtain ⟨pk, x, bb, hpk, ⟨ka, hka⟩⟩ := arb_any is (fun h => by have := HCI0.1; rw [h, List.length_nil] at this; omega)
              have HKA := Aside0.mk (hka ka (Nat.le_refl _))
              clear hka
              have hpc : pk < cs.length := by rw [HCI0.1]; exact hpk
              obtain ⟨si, hsi⟩ : ∃ si, cs.getD pk 0 = si := ⟨_, rfl⟩
              have hmem : si ∈ cs := by rw [← hsi]; simp [List.getD_eq_getElem?_getD, List.getElem?_eq_getElem hpc]
              obtain ⟨hs1, hsq⟩ := HCI0.2.2 si hmem
              have HSI := Aside0.mk hsi
              have HSQ := Aside0.mk hsq
              have HLE : Aside0 (cs.length ≤ 6 ∧ is.length = cs.length) := ⟨by have := HRV.out; have := HCI0.2.1; omega, HCI0.1.symm⟩
              clear hsi hmem hsq HCI0
              obtain ⟨A18, c18, e18⟩ := Kd.R_slice HD.out
              subst e18
              obtain ⟨A17, c17, e17⟩ := Kd.R_slice HC.out
              subst e17
              simp only [List.length_map] at HC
              go_upto_region 29 with (first | (go_at_call 13; refine (spec_Arbitrate.calls ka A18 c18 is (pk : Int) x bb _ (Kd.R_reads' HD.out).2.2 (Kd.R_reads' HD.out).2.1 HKA.out).mono ?_; rintro e w6 ⟨v6, rfl, hr6, hb⟩; replace HE := Aside0.mk (Kd.N_below HE.out hb); replace HS := Aside0.mk (Kd.R_below HS.out hb); replace HO := Aside0.mk (Kd.R_below HO.out hb); replace HC := Aside0.mk (Kd.R_below HC.out hb); replace HB := Aside0.mk (below_step HB.out hb); replace HWZ : Aside0 (b3 ≤ w6.heap.size) := ⟨Nat.le_trans HWZ.out hb.size⟩; clear hb hr6))
              obtain ⟨gE, cE2, eE, hgE, _, _⟩ := Kd.N_form HE.out (by rw [HI.out.ln]; omega)
              injection eE with eE1 eE2 eE3
              clear eE2 eE3
              subst eE1
              obtain ⟨gw, cw, ew, _, _, _⟩ := Kd.R_form HC.out (by rw [List.length_map]; omega)
              obtain ⟨gS, cS, eS, hgS, _, _⟩ := Kd.R_form HS.out (by rw [HI.out.lu]; omega)
              injection ew with ew1 ew2 ew3
              clear ew2 ew3
              subst ew1
              subst eS
              have hcw := (Kd.Q_cell (0 : Int) (Kd.Q_of_R HC.out) (pk : Int) (by omega) (by omega)).1
              have hcs := Kd.Q_cell (0 : Int) (Kd.Q_of_R HS.out) (si : Int) (by omega) (by rw [HI.out.lu]; omega)
              rw [Nat.zero_add] at hcw hcs
              have hw : w6.cell? ⟨gw, pk, none⟩ = some (.int .i64 (si : Int)) := by rw [← HSI.out, ← getD_map _ (fun (x : Nat) => (x : Int)) _ 0 _ hpc]; exact hcw
              obtain ⟨ui, hui⟩ : ∃ ui, used1.getD si 0 = ui := ⟨_, rfl⟩
              have hs : w6.cell? ⟨gS, si, none⟩ = some (.int .i64 ui) := by rw [← hui]; exact hcs.1
              have hsf : w6.frozen? ⟨gS, si, none⟩ = false := hcs.2
              clear hcw hcs hui
              have hlu := HI.out.lu
              have p0 : (0 ≤ (pk : Int)) = True := eq_true (by omega)
              have p1 : (pk < cs.length) = True := eq_true hpc
              have p2 : ((pk : Int) < (cs.length : Int)) = True := eq_true (by omega)
              have s0 : (0 ≤ (si : Int)) = True := eq_true (by omega)
              have s1 : (si < l.length) = True := eq_true hs1
              have s2 : ((si : Int) < (l.length : Int)) = True := eq_true (by omega)
              have u1 : (si < used1.length) = True := eq_true (by omega)
              have u2 : ((si : Int) < (used1.length : Int)) = True := eq_true (by omega)
              clear hlu
              go_upto_region 31 with (fail)
              have hsb : b1 ≤ gS := by have := (HS.out.1 gS (by simp [Value.ownBlock])).1; omega
              have n0_ : Aside0 (Kd.R (Kd.int .i64) 3 (w6.setCell ⟨gS, si, none⟩ (.int .i64 (wrap64 (ui + 1)))) w.heap.size (fun k => (b1 ≤ k ∧ k < b3) ∧ some k ≠ (u14 : Value).ownBlock) (.slice (some ⟨gS, 0, none⟩) used1.length cS) (used1.set si (wrap64 (ui + 1)))) := ⟨Kd.R_putn HS.out (si : Int) (wrap64 (ui + 1))⟩
              have n1_ := Aside0.mk (Kd.N_far (p := ⟨gS, si, none⟩) HE.out (fun k hk => by show k ≠ gS; omega) (.int .i64 (wrap64 (ui + 1))))
              have n2_ := Aside0.mk (Kd.R_far (p := ⟨gS, si, none⟩) HO.out (fun k hk e => hk.2 (by rw [show k = gS from e]; rfl)) (.int .i64 (wrap64 (ui + 1))))
              have n4_ : Aside0 (Below w.heap.size w (w6.setCell ⟨gS, si, none⟩ (.int .i64 (wrap64 (ui + 1))))) := ⟨below_set HB.out hgS⟩
              have n5_ : Aside0 (b3 ≤ (w6.setCell ⟨gS, si, none⟩ (.int .i64 (wrap64 (ui + 1)))).heap.size) := ⟨by simpa using HWZ.out⟩
              have HI2 := Aside0.mk (HI.out.use si (wrap64 (ui + 1)))
              have HSL : Aside0 ((used1.set si (wrap64 (ui + 1))).length = used1.length) := ⟨List.length_set⟩
              clear HS HE HO HD HB HWZ HC HI hw hs hsf hsb p0 p1 p2 u1 u2
              have HS := n0_
              have HE := n1_
              have HO := n2_
              have HB := n4_
              have HWZ := n5_
              have HI := HI2
              clear n0_ n1_ n2_ n4_ n5_ HI2
              generalize (w6.setCell ⟨gS, si, none⟩ (.int .i64 (wrap64 (ui + 1)))) = w7 at HS HE HO HB HWZ ⊢
              generalize used1.set si (wrap64 (ui + 1)) = used2 at HS HI
              skip
              obtain ⟨c66, hcl, hK, hcc, hfr⟩ := Kd.N_elem HE.out z66 (si : Int) (by omega) (by omega)
              obtain ⟨Aq, cq, rfl, hlq, hcq⟩ := k66_open (Kd.FK_now hK)
              simp only [Int.toNat_natCast] at hK hcc hfr hlq hcq
              clear hcl
              obtain ⟨t, hti⟩ : ∃ t, now.getD si z66 = t := ⟨_, rfl⟩
              rw [hti] at hK hcc hlq hcq
              have HST : Aside0 (smallT t = true) := ⟨by rw [← hti]; exact HI.out.sm si hs1⟩
              have HTI := Aside0.mk hti
              clear hti
              have hx0 : w7.cell? ⟨gE, si * 4, none⟩ = some (.slice Aq t.f0.length cq) := hcc 0 _ rfl
              have hx1 : w7.cell? ⟨gE, si * 4 + 1, none⟩ = some (.int .i64 t.f1) := hcc 1 _ rfl
              have hx2 : w7.cell? ⟨gE, si * 4 + 2, none⟩ = some (.int .i64 t.f2) := hcc 2 _ rfl
              have hx3 : w7.cell? ⟨gE, si * 4 + 3, none⟩ = some (.bool t.f3) := hcc 3 _ rfl
              have hy0 : w7.frozen? ⟨gE, si * 4, none⟩ = false := hfr 0
              have hy1 : w7.frozen? ⟨gE, si * 4 + 1, none⟩ = false := hfr 1
              have hy2 : w7.frozen? ⟨gE, si * 4 + 2, none⟩ = false := hfr 2
              have hy3 : w7.frozen? ⟨gE, si * 4 + 3, none⟩ = false := hfr 3
              have HQF := Aside0.mk (fk66_F hK)
              have HLQ := Aside0.mk hlq
              clear hK hcc hfr hcq hlq
              have t2 : 0 < t.f0.length := by rw [← HTI.out]; exact HSQ.out
              obtain ⟨adq, _, _, eqq, _⟩ := at_T27 (Kd.F_now HQF.out) 0 (by omega) (by omega)
              subst eqq
              obtain ⟨hid, hhd⟩ : ∃ x, headId t = x := ⟨_, rfl⟩
              have bs2 : w7.cell? adq = some (.int .i64 hid) := by rw [← hhd]; exact head_cell (Kd.F_now HQF.out) t2
              clear hhd
              have t2d : (0 < t.f0.length) = True := eq_true t2
              have t2e : ((0 : Int) < (t.f0.length : Int)) = True := eq_true (by omega)
              have HGE : Aside0 (gE < b1) := ⟨HE.out.1 gE (by simp [Value.ownBlock])⟩
              go_upto_region 32 with (first | ((with_reducible refine gate_dst (N := 25) rfl ?_); refine box_event ?hggs (N := 25) ?hdgs (cs := #[.int .i64 0, .int .i64 0, .int .i64 0, .bool false]) (t := 73) ?hrgs ?_; (case hdgs => rfl); (case hggs => rfl); (case hrgs => first | (go_simp; done) | (go_simp; rfl)); intro gs hgz ws hbox hb; have gsZ := Aside0.mk hgz; have gsB := Aside0.mk hbox; have gsH := Aside0.mk hb; clear hgz hbox hb; have gsf0 := blk_frozen gsB.out 0; have gsz0 : ws.cell? ⟨gs, 0, none⟩ = some (.int .i64 0) := (blk_cell gsB.out 0).trans rfl; have gsf1 := blk_frozen gsB.out 1; have gsz1 : ws.cell? ⟨gs, 1, none⟩ = some (.int .i64 0) := (blk_cell gsB.out 1).trans rfl; have gsf2 := blk_frozen gsB.out 2; have gsz2 : ws.cell? ⟨gs, 2, none⟩ = some (.int .i64 0) := (blk_cell gsB.out 2).trans rfl; have gsf3 := blk_frozen gsB.out 3; have gsz3 : ws.cell? ⟨gs, 3, none⟩ = some (.bool false) := (blk_cell gsB.out 3).trans rfl))
              have hle : w7.heap.size ≤ gs := Nat.le_of_eq gsZ.out.symm
              have hbW : Below w7.heap.size w7 ((((ws.setCell ⟨gs, 0, none⟩ (.int .i64 (r : Int))).setCell ⟨gs, 1, none⟩ (.int .i64 (si : Int))).setCell ⟨gs, 2, none⟩ (.int .i64 hid)).setCell ⟨gs, 3, none⟩ (.bool true)) := (below_set (below_set (below_set (below_set gsH.out hle) hle) hle) hle)
              have hBT : ((((ws.setCell ⟨gs, 0, none⟩ (.int .i64 (r : Int))).setCell ⟨gs, 1, none⟩ (.int .i64 (si : Int))).setCell ⟨gs, 2, none⟩ (.int .i64 hid)).setCell ⟨gs, 3, none⟩ (.bool true)).heap[gs]? = some (.cells #[.int .i64 (r : Int), .int .i64 (si : Int), .int .i64 hid, .bool true] 73 (0, 0)) := (blk_put (blk_put (blk_put (blk_put gsB.out 0 _ rfl) 1 _ rfl) 2 _ rfl) 3 _ rfl)
              generalize ((((ws.setCell ⟨gs, 0, none⟩ (.int .i64 (r : Int))).setCell ⟨gs, 1, none⟩ (.int .i64 (si : Int))).setCell ⟨gs, 2, none⟩ (.int .i64 hid)).setCell ⟨gs, 3, none⟩ (.bool true)) = w8 at hbW hBT ⊢
              have BS := Aside0.mk hBT
              replace HE := Aside0.mk (Kd.N_below HE.out hbW)
              replace HS := Aside0.mk (Kd.R_below HS.out hbW)
              replace HO := Aside0.mk (Kd.R_below HO.out hbW)
              replace HB := Aside0.mk (below_step HB.out hbW)
              have HGS : Aside0 (b3 ≤ gs) := ⟨by have := gsZ.out; have := HWZ.out; omega⟩
              replace HWZ : Aside0 (b3 ≤ w8.heap.size) := ⟨Nat.le_trans HWZ.out hbW.size⟩
              clear hBT hbW hle gsB gsH gsf0 gsz0 gsf1 gsz1 gsf2 gsz2 gsf3 gsz3
              clear hx0 hy0 hx1 hy1 hx2 hy2 hx3 hy3 bs2 t2 t2d t2e HQF HLQ HST
              go_wp2_with fail
              go_loopg [156] sp.length (fun g v156 w' => ∃ (q : Nat) (bg : Bool), v156 = .int .i64 (q : Int) ∧ Aside0 (q + g = sp.length) ∧ Aside0 (w'.heap[gs]? = some (.cells #[.int .i64 (r : Int), .int .i64 (si : Int), .int .i64 hid, .bool bg] 73 (0, 0))) ∧ Aside0 (Kd.N k66 66 w' w.heap.size (fun k => k < b1) (.slice (some ⟨gE, 0, none⟩) l.length cE) now) ∧ Aside0 (Kd.R (Kd.int .i64) 3 w' w.heap.size (fun k => (b1 ≤ k ∧ k < b3) ∧ some k ≠ (u14 : Value).ownBlock) (.slice (some ⟨gS, 0, none⟩) used1.length cS) used2) ∧ Aside0 (Kd.R k73 73 w' w.heap.size (fun k => (b1 ≤ k ∧ k < b3) ∧ some k ≠ (Value.slice (some ⟨gS, 0, none⟩) used1.length cS).ownBlock) u14 out) ∧ Aside0 (b3 ≤ w'.heap.size) ∧ Aside0 (Below w.heap.size w w'))
              case atStart => exact ⟨0, true, rfl, ⟨by omega⟩, BS, HE, HS, HO, HWZ, HB⟩
              case round =>
                clear BS HE HS HO HWZ HB
                obtain ⟨q, bg, rfl, HQQ, BS, HE, HS, HO, HWZ, HB⟩ := hrel
                by_cases cq : q < sp.length
                rotate_left
                · have cqb : decide (q < sp.length) = false := decide_eq_false cq
                  clear cq
                  have zz0 : wr.cell? ⟨gs, 0, none⟩ = some (.int .i64 (r : Int)) := (blk_cell BS.out 0).trans rfl
                  have zf0 := blk_frozen BS.out 0
                  have zz1 : wr.cell? ⟨gs, 1, none⟩ = some (.int .i64 (si : Int)) := (blk_cell BS.out 1).trans rfl
                  have zf1 := blk_frozen BS.out 1
                  have zz2 : wr.cell? ⟨gs, 2, none⟩ = some (.int .i64 hid) := (blk_cell BS.out 2).trans rfl
                  have zf2 := blk_frozen BS.out 2
                  have zz3 : wr.cell? ⟨gs, 3, none⟩ = some (.bool bg) := (blk_cell BS.out 3).trans rfl
                  have zf3 := blk_frozen BS.out 3
                  go_upto_region 39 with (first | ((with_reducible refine gate_builtin (b := .append) (xs := #[.tmp 165, .tmp 167]) rfl ?_); at_builtin; refine Kd.R_append k73 (w0 := w) w.heap.size rfl (.tmp 165) (.tmp 167) 45 73 (.agg #[.int .i64 0, .int .i64 0, .int .i64 0, .bool false]) 32 rfl Try.underlying45 info73 rfl (by decide) (by omega) u14 out ⟨(r : Int), (si : Int), hid, bg⟩ [.int .i64 (r : Int), .int .i64 (si : Int), .int .i64 hid, .bool bg] (fun k => b1 ≤ k ∧ some k ≠ (Value.slice (some ⟨gS, 0, none⟩) used1.length cS).ownBlock) (fun _ => False) rfl rfl (k73_mkM _ _ _ ⟨(r : Int), (si : Int), hid, bg⟩) (fun _ hk => hk.elim) (fun k hk => ⟨by have := HWZ.out; have := HW3.out; omega, fun e => by have := Kd.R_lt HS.out k e.symm; omega⟩) (Kd.R_mono HO.out (fun k hk => ⟨hk.1.1, hk.2⟩)) HB.out HB.out.size (by have := HOL.out; have := HRV.out; omega) ?_; intro v14 w9 ho hb hg hat; have n0_ := Aside0.mk (Kd.N_grown HE.out hg (fun k hk e => by have := (HO.out.1 k e.symm).1.1; omega)); have n1_ := Aside0.mk (Kd.R_after HS.out hg hat); have n2_ := Aside0.mk ho; have n3_ := Aside0.mk hb; have n4_ : Aside0 (b1 ≤ w9.heap.size) := ⟨by have := HWZ.out; have := HW3.out; have := hg.size; omega⟩; have n5_ := Aside0.mk (blk_grown BS.out hg (fun e => by have h := HO.out.1 gs e.symm; have := HGS.out; omega)); clear HE HS HO HB HWZ BS ho hb hg hat; have HE := n0_; have HS := n1_; have HO := n2_; have HB := n3_; have HWZ := n4_; have BS := n5_; clear n0_ n1_ n2_ n3_ n4_ n5_))
                  clear zz0 zf0 zz1 zf1 zz2 zf2 zz3 zf3
                  replace HS := Aside0.mk (Kd.R_mono HS.out (ok' := fun k => b1 ≤ k ∧ some k ≠ (v14 : Value).ownBlock) (fun k hk => ⟨hk.1.1, hk.2⟩))
                  have hne : Aside0 (True) := ⟨trivial⟩
                  have hw9 : w9 = w9 := rfl
                  clear hw9 hne
                  cases bg
                  case true => as_aux_lemma =>
                    obtain ⟨c66, hcl, hK, hcc, hfr⟩ := Kd.N_elem HE.out z66 (si : Int) (by omega) (by omega)
                    obtain ⟨Aq, cq, rfl, hlq, hcq⟩ := k66_open (Kd.FK_now hK)
                    simp only [Int.toNat_natCast] at hK hcc hfr hlq hcq
                    clear hcl
                    obtain ⟨t, hti⟩ : ∃ t, now.getD si z66 = t := ⟨_, rfl⟩
                    rw [hti] at hK hcc hlq hcq
                    have HST : Aside0 (smallT t = true) := ⟨by rw [← hti]; exact HI.out.sm si hs1⟩
                    have HTI := Aside0.mk hti
                    clear hti
                    have hx0 : w9.cell? ⟨gE, si * 4, none⟩ = some (.slice Aq t.f0.length cq) := hcc 0 _ rfl
                    have hx1 : w9.cell? ⟨gE, si * 4 + 1, none⟩ = some (.int .i64 t.f1) := hcc 1 _ rfl
                    have hx2 : w9.cell? ⟨gE, si * 4 + 2, none⟩ = some (.int .i64 t.f2) := hcc 2 _ rfl
                    have hx3 : w9.cell? ⟨gE, si * 4 + 3, none⟩ = some (.bool t.f3) := hcc 3 _ rfl
                    have hy0 : w9.frozen? ⟨gE, si * 4, none⟩ = false := hfr 0
                    have hy1 : w9.frozen? ⟨gE, si * 4 + 1, none⟩ = false := hfr 1
                    have hy2 : w9.frozen? ⟨gE, si * 4 + 2, none⟩ = false := hfr 2
                    have hy3 : w9.frozen? ⟨gE, si * 4 + 3, none⟩ = false := hfr 3
                    have HQF := Aside0.mk (fk66_F hK)
                    have HLQ := Aside0.mk hlq
                    clear hK hcc hfr hcq hlq
                    have zz0 : w9.cell? ⟨gs, 0, none⟩ = some (.int .i64 (r : Int)) := (blk_cell BS.out 0).trans rfl
                    have zf0 := blk_frozen BS.out 0
                    have zz1 : w9.cell? ⟨gs, 1, none⟩ = some (.int .i64 (si : Int)) := (blk_cell BS.out 1).trans rfl
                    have zf1 := blk_frozen BS.out 1
                    have zz2 : w9.cell? ⟨gs, 2, none⟩ = some (.int .i64 hid) := (blk_cell BS.out 2).trans rfl
                    have zf2 := blk_frozen BS.out 2
                    have zz3 : w9.cell? ⟨gs, 3, none⟩ = some (.bool true) := (blk_cell BS.out 3).trans rfl
                    have zf3 := blk_frozen BS.out 3
                    have t2 : 0 < t.f0.length := by rw [← HTI.out]; exact HSQ.out
                    have k1 : ((1 : Int) ≤ (t.f0.length : Int)) = True := eq_true (by omega)
                    have HTP := Aside0.mk t2
                    clear t2
                    by_cases c1 : cq = 1
                    · subst c1
                      as_aux_lemma =>
                        go_upto_region 41 with (fail)
                        clear zz0 zf0 zz1 zf1 zz2 zf2 zz3 zf3 k1
                        have hn_ := Aside0.mk (now_cut1 HE.out si hs1 HTI.out HLQ.out HTP.out HQF.out)
                        have hs_ := Aside0.mk (Kd.R_far (p := ⟨gE, si * 4, none⟩) HS.out (fun k hk => ne_lt (HGE.out) hk.1) (.slice Aq (t.f0.length - 1) 0))
                        have ho_ := Aside0.mk (Kd.R_far (p := ⟨gE, si * 4, none⟩) HO.out (fun k hk => ne_lt (HGE.out) hk.1) (.slice Aq (t.f0.length - 1) 0))
                        have hb_ : Aside0 (Below w.heap.size w (w9.setCell ⟨gE, si * 4, none⟩ (.slice Aq (t.f0.length - 1) 0))) := ⟨below_set HB.out hgE⟩
                        have hw_ : Aside0 (b1 ≤ (w9.setCell ⟨gE, si * 4, none⟩ (.slice Aq (t.f0.length - 1) 0)).heap.size) := ⟨by simpa using HWZ.out⟩
                        have hi_ := Aside0.mk (HI.out.put si ⟨t.f0.drop 1, t.f1, t.f2, t.f3⟩ (small_drop HST.out _ _))
                        clear HE HS HO HB HWZ HI hx0 hy0 hx1 hy1 hx2 hy2 hx3 hy3
                        generalize (w9.setCell ⟨gE, si * 4, none⟩ (.slice Aq (t.f0.length - 1) 0)) = w10 at hn_ hs_ ho_ hb_ hw_ ⊢
                        have HE := hn_
                        have HS := hs_
                        have HO := ho_
                        have HB := hb_
                        have HWZ := hw_
                        have HI := hi_
                        clear hn_ hs_ ho_ hb_ hw_ hi_
                        generalize now.set si ⟨t.f0.drop 1, t.f1, t.f2, t.f3⟩ = now at HE HI
                        clear HQF HLQ HST HTI HTP HSQ
                        obtain ⟨c66, hcl, hK, hcc, hfr⟩ := Kd.N_elem HE.out z66 (si : Int) (by omega) (by omega)
                        obtain ⟨Aq1, cq1, rfl, hlq, hcq⟩ := k66_open (Kd.FK_now hK)
                        simp only [Int.toNat_natCast] at hK hcc hfr hlq hcq
                        clear hcl
                        obtain ⟨t1, hti⟩ : ∃ t, now.getD si z66 = t := ⟨_, rfl⟩
                        rw [hti] at hK hcc hlq hcq
                        have HST1 : Aside0 (smallT t1 = true) := ⟨by rw [← hti]; exact HI.out.sm si hs1⟩
                        have HTI1 := Aside0.mk hti
                        clear hti
                        have hx0 : w10.cell? ⟨gE, si * 4, none⟩ = some (.slice Aq1 t1.f0.length cq1) := hcc 0 _ rfl
                        have hx1 : w10.cell? ⟨gE, si * 4 + 1, none⟩ = some (.int .i64 t1.f1) := hcc 1 _ rfl
                        have hx2 : w10.cell? ⟨gE, si * 4 + 2, none⟩ = some (.int .i64 t1.f2) := hcc 2 _ rfl
                        have hx3 : w10.cell? ⟨gE, si * 4 + 3, none⟩ = some (.bool t1.f3) := hcc 3 _ rfl
                        have hy0 : w10.frozen? ⟨gE, si * 4, none⟩ = false := hfr 0
                        have hy1 : w10.frozen? ⟨gE, si * 4 + 1, none⟩ = false := hfr 1
                        have hy2 : w10.frozen? ⟨gE, si * 4 + 2, none⟩ = false := hfr 2
                        have hy3 : w10.frozen? ⟨gE, si * 4 + 3, none⟩ = false := hfr 3
                        have HQF1 := Aside0.mk (fk66_F hK)
                        have HLQ1 := Aside0.mk hlq
                        clear hK hcc hfr hcq hlq
                        by_cases ce : 0 < t1.f2
                        · have ceb : decide (0 < t1.f2) = true := decide_eq_true ce
                          clear ce
                          go_upto_region 16 with (fail)
                          have hn_ := Aside0.mk (now_two HE.out si hs1 HTI1.out (wrap64 (t1.f2 - 1)))
                          have hs_ := Aside0.mk (Kd.R_far (p := ⟨gE, si * 4 + 2, none⟩) HS.out (fun k hk => ne_lt (HGE.out) hk.1) (.int .i64 (wrap64 (t1.f2 - 1))))
                          have ho_ := Aside0.mk (Kd.R_far (p := ⟨gE, si * 4 + 2, none⟩) HO.out (fun k hk => ne_lt (HGE.out) hk.1) (.int .i64 (wrap64 (t1.f2 - 1))))
                          have hb_ : Aside0 (Below w.heap.size w (w10.setCell ⟨gE, si * 4 + 2, none⟩ (.int .i64 (wrap64 (t1.f2 - 1))))) := ⟨below_set HB.out hgE⟩
                          have hw_ : Aside0 (b1 ≤ (w10.setCell ⟨gE, si * 4 + 2, none⟩ (.int .i64 (wrap64 (t1.f2 - 1)))).heap.size) := ⟨by simpa using HWZ.out⟩
                          have hi_ := Aside0.mk (HI.out.put si ⟨t1.f0, t1.f1, wrap64 (t1.f2 - 1), t1.f3⟩ (small_same HST1.out _ _))
                          clear HE HS HO HB HWZ HI hx0 hy0 hx1 hy1 hx2 hy2 hx3 hy3
                          generalize (w10.setCell ⟨gE, si * 4 + 2, none⟩ (.int .i64 (wrap64 (t1.f2 - 1)))) = w11 at hn_ hs_ ho_ hb_ hw_ ⊢
                          have HE := hn_
                          have HS := hs_
                          have HO := ho_
                          have HB := hb_
                          have HWZ := hw_
                          have HI := hi_
                          clear hn_ hs_ ho_ hb_ hw_ hi_
                          generalize now.set si ⟨t1.f0, t1.f1, wrap64 (t1.f2 - 1), t1.f3⟩ = now at HE HI
                          go_wp2_with fail
                          have hr1 : wrap64 ((r : Int) + 1) = ((r + 1 : Nat) : Int) := by have := HRV.out; rw [EvKit.wrap64_id (by omega) (by omega)]; omega
                          go_roundg g
                          case measure => omega
                          case rel => exact ⟨r + 1, now, used2, _, by first | (rw [← hr1]; done) | rfl | (congr 1; omega), ⟨stp_ HRG.out⟩, HI, ⟨len1_ HOL.out⟩, HE, HS, HO, HWZ, HB⟩
                        have ceb : decide (0 < t1.f2) = false := decide_eq_false ce
                        clear ce
                        go_wp2_with fail
                        have hr1 : wrap64 ((r : Int) + 1) = ((r + 1 : Nat) : Int) := by have := HRV.out; rw [EvKit.wrap64_id (by omega) (by omega)]; omega
                        go_roundg g
                        case measure => omega
                        case rel => exact ⟨r + 1, now, used2, _, by first | (rw [← hr1]; done) | rfl | (congr 1; omega), ⟨stp_ HRG.out⟩, HI, ⟨len1_ HOL.out⟩, HE, HS, HO, HWZ, HB⟩
                    · have c1b : (cq = 1) = False := eq_false c1
                      as_aux_lemma =>
                        go_upto_region 41 with (fail)
                        clear zz0 zf0 zz1 zf1 zz2 zf2 zz3 zf3 k1
                        have hn_ := Aside0.mk (now_cutN HE.out si hs1 HTI.out HLQ.out HTP.out HQF.out c1)
                        have hs_ := Aside0.mk (Kd.R_far (p := ⟨gE, si * 4, none⟩) HS.out (fun k hk => ne_lt (HGE.out) hk.1) (.slice (Option.map (fun x => (⟨x.block, x.off + 2, none⟩ : Addr)) Aq) (t.f0.length - 1) (cq - 1)))
                        have ho_ := Aside0.mk (Kd.R_far (p := ⟨gE, si * 4, none⟩) HO.out (fun k hk => ne_lt (HGE.out) hk.1) (.slice (Option.map (fun x => (⟨x.block, x.off + 2, none⟩ : Addr)) Aq) (t.f0.length - 1) (cq - 1)))
                        have hb_ : Aside0 (Below w.heap.size w (w9.setCell ⟨gE, si * 4, none⟩ (.slice (Option.map (fun x => (⟨x.block, x.off + 2, none⟩ : Addr)) Aq) (t.f0.length - 1) (cq - 1)))) := ⟨below_set HB.out hgE⟩
                        have hw_ : Aside0 (b1 ≤ (w9.setCell ⟨gE, si * 4, none⟩ (.slice (Option.map (fun x => (⟨x.block, x.off + 2, none⟩ : Addr)) Aq) (t.f0.length - 1) (cq - 1))).heap.size) := ⟨by simpa using HWZ.out⟩
                        have hi_ := Aside0.mk (HI.out.put si ⟨t.f0.drop 1, t.f1, t.f2, t.f3⟩ (small_drop HST.out _ _))
                        clear HE HS HO HB HWZ HI hx0 hy0 hx1 hy1 hx2 hy2 hx3 hy3
                        generalize (w9.setCell ⟨gE, si * 4, none⟩ (.slice (Option.map (fun x => (⟨x.block, x.off + 2, none⟩ : Addr)) Aq) (t.f0.length - 1) (cq - 1))) = w10 at hn_ hs_ ho_ hb_ hw_ ⊢
                        have HE := hn_
                        have HS := hs_
                        have HO := ho_
                        have HB := hb_
                        have HWZ := hw_
                        have HI := hi_
                        clear hn_ hs_ ho_ hb_ hw_ hi_
                        generalize now.set si ⟨t.f0.drop 1, t.f1, t.f2, t.f3⟩ = now at HE HI
                        clear HQF HLQ HST HTI HTP HSQ
                        obtain ⟨c66, hcl, hK, hcc, hfr⟩ := Kd.N_elem HE.out z66 (si : Int) (by omega) (by omega)
                        obtain ⟨Aq1, cq1, rfl, hlq, hcq⟩ := k66_open (Kd.FK_now hK)
                        simp only [Int.toNat_natCast] at hK hcc hfr hlq hcq
                        clear hcl
                        obtain ⟨t1, hti⟩ : ∃ t, now.getD si z66 = t := ⟨_, rfl⟩
                        rw [hti] at hK hcc hlq hcq
                        have HST1 : Aside0 (smallT t1 = true) := ⟨by rw [← hti]; exact HI.out.sm si hs1⟩
                        have HTI1 := Aside0.mk hti
                        clear hti
                        have hx0 : w10.cell? ⟨gE, si * 4, none⟩ = some (.slice Aq1 t1.f0.length cq1) := hcc 0 _ rfl
                        have hx1 : w10.cell? ⟨gE, si * 4 + 1, none⟩ = some (.int .i64 t1.f1) := hcc 1 _ rfl
                        have hx2 : w10.cell? ⟨gE, si * 4 + 2, none⟩ = some (.int .i64 t1.f2) := hcc 2 _ rfl
                        have hx3 : w10.cell? ⟨gE, si * 4 + 3, none⟩ = some (.bool t1.f3) := hcc 3 _ rfl
                        have hy0 : w10.frozen? ⟨gE, si * 4, none⟩ = false := hfr 0
                        have hy1 : w10.frozen? ⟨gE, si * 4 + 1, none⟩ = false := hfr 1
                        have hy2 : w10.frozen? ⟨gE, si * 4 + 2, none⟩ = false := hfr 2
                        have hy3 : w10.frozen? ⟨gE, si * 4 + 3, none⟩ = false := hfr 3
                        have HQF1 := Aside0.mk (fk66_F hK)
                        have HLQ1 := Aside0.mk hlq
                        clear hK hcc hfr hcq hlq
                        by_cases ce : 0 < t1.f2
                        · have ceb : decide (0 < t1.f2) = true := decide_eq_true ce
                          clear ce
                          go_upto_region 16 with (fail)
                          have hn_ := Aside0.mk (now_two HE.out si hs1 HTI1.out (wrap64 (t1.f2 - 1)))
                          have hs_ := Aside0.mk (Kd.R_far (p := ⟨gE, si * 4 + 2, none⟩) HS.out (fun k hk => ne_lt (HGE.out) hk.1) (.int .i64 (wrap64 (t1.f2 - 1))))
                          have ho_ := Aside0.mk (Kd.R_far (p := ⟨gE, si * 4 + 2, none⟩) HO.out (fun k hk => ne_lt (HGE.out) hk.1) (.int .i64 (wrap64 (t1.f2 - 1))))
                          have hb_ : Aside0 (Below w.heap.size w (w10.setCell ⟨gE, si * 4 + 2, none⟩ (.int .i64 (wrap64 (t1.f2 - 1))))) := ⟨below_set HB.out hgE⟩
                          have hw_ : Aside0 (b1 ≤ (w10.setCell ⟨gE, si * 4 + 2, none⟩ (.int .i64 (wrap64 (t1.f2 - 1)))).heap.size) := ⟨by simpa using HWZ.out⟩
                          have hi_ := Aside0.mk (HI.out.put si ⟨t1.f0, t1.f1, wrap64 (t1.f2 - 1), t1.f3⟩ (small_same HST1.out _ _))
                          clear HE HS HO HB HWZ HI hx0 hy0 hx1 hy1 hx2 hy2 hx3 hy3
                          generalize (w10.setCell ⟨gE, si * 4 + 2, none⟩ (.int .i64 (wrap64 (t1.f2 - 1)))) = w11 at hn_ hs_ ho_ hb_ hw_ ⊢
                          have HE := hn_
                          have HS := hs_
                          have HO := ho_
                          have HB := hb_
                          have HWZ := hw_
                          have HI := hi_
                          clear hn_ hs_ ho_ hb_ hw_ hi_
                          generalize now.set si ⟨t1.f0, t1.f1, wrap64 (t1.f2 - 1), t1.f3⟩ = now at HE HI
                          go_wp2_with fail
                          have hr1 : wrap64 ((r : Int) + 1) = ((r + 1 : Nat) : Int) := by have := HRV.out; rw [EvKit.wrap64_id (by omega) (by omega)]; omega
                          go_roundg g
                          case measure => omega
                          case rel => exact ⟨r + 1, now, used2, _, by first | (rw [← hr1]; done) | rfl | (congr 1; omega), ⟨stp_ HRG.out⟩, HI, ⟨len1_ HOL.out⟩, HE, HS, HO, HWZ, HB⟩
                        have ceb : decide (0 < t1.f2) = false := decide_eq_false ce
                        clear ce
                        go_wp2_with fail
                        have hr1 : wrap64 ((r : Int) + 1) = ((r + 1 : Nat) : Int) := by have := HRV.out; rw [EvKit.wrap64_id (by omega) (by omega)]; omega
                        go_roundg g
                        case measure => omega
                        case rel => exact ⟨r + 1, now, used2, _, by first | (rw [← hr1]; done) | rfl | (congr 1; omega), ⟨stp_ HRG.out⟩, HI, ⟨len1_ HOL.out⟩, HE, HS, HO, HWZ, HB⟩
                  case false => as_aux_lemma =>
                    obtain ⟨c66, hcl, hK, hcc, hfr⟩ := Kd.N_elem HE.out z66 (si : Int) (by omega) (by omega)
                    obtain ⟨Aq, cq, rfl, hlq, hcq⟩ := k66_open (Kd.FK_now hK)
                    simp only [Int.toNat_natCast] at hK hcc hfr hlq hcq
                    clear hcl
                    obtain ⟨t, hti⟩ : ∃ t, now.getD si z66 = t := ⟨_, rfl⟩
                    rw [hti] at hK hcc hlq hcq
                    have HST : Aside0 (smallT t = true) := ⟨by rw [← hti]; exact HI.out.sm si hs1⟩
                    have HTI := Aside0.mk hti
                    clear hti
                    have hx0 : w9.cell? ⟨gE, si * 4, none⟩ = some (.slice Aq t.f0.length cq) := hcc 0 _ rfl
                    have hx1 : w9.cell? ⟨gE, si * 4 + 1, none⟩ = some (.int .i64 t.f1) := hcc 1 _ rfl
                    have hx2 : w9.cell? ⟨gE, si * 4 + 2, none⟩ = some (.int .i64 t.f2) := hcc 2 _ rfl
                    have hx3 : w9.cell? ⟨gE, si * 4 + 3, none⟩ = some (.bool t.f3) := hcc 3 _ rfl
                    have hy0 : w9.frozen? ⟨gE, si * 4, none⟩ = false := hfr 0
                    have hy1 : w9.frozen? ⟨gE, si * 4 + 1, none⟩ = false := hfr 1
                    have hy2 : w9.frozen? ⟨gE, si * 4 + 2, none⟩ = false := hfr 2
                    have hy3 : w9.frozen? ⟨gE, si * 4 + 3, none⟩ = false := hfr 3
                    have HQF := Aside0.mk (fk66_F hK)
                    have HLQ := Aside0.mk hlq
                    clear hK hcc hfr hcq hlq
                    have zz0 : w9.cell? ⟨gs, 0, none⟩ = some (.int .i64 (r : Int)) := (blk_cell BS.out 0).trans rfl
                    have zf0 := blk_frozen BS.out 0
                    have zz1 : w9.cell? ⟨gs, 1, none⟩ = some (.int .i64 (si : Int)) := (blk_cell BS.out 1).trans rfl
                    have zf1 := blk_frozen BS.out 1
                    have zz2 : w9.cell? ⟨gs, 2, none⟩ = some (.int .i64 hid) := (blk_cell BS.out 2).trans rfl
                    have zf2 := blk_frozen BS.out 2
                    have zz3 : w9.cell? ⟨gs, 3, none⟩ = some (.bool false) := (blk_cell BS.out 3).trans rfl
                    have zf3 := blk_frozen BS.out 3
                    go_upto_region 44 with (fail)
                    clear zz0 zf0 zz1 zf1 zz2 zf2 zz3 zf3
                    have hn_ := Aside0.mk (now_two HE.out si hs1 HTI.out (wrap64 (t.f2 + 8)))
                    have hs_ := Aside0.mk (Kd.R_far (p := ⟨gE, si * 4 + 2, none⟩) HS.out (fun k hk => ne_lt (HGE.out) hk.1) (.int .i64 (wrap64 (t.f2 + 8))))
                    have ho_ := Aside0.mk (Kd.R_far (p := ⟨gE, si * 4 + 2, none⟩) HO.out (fun k hk => ne_lt (HGE.out) hk.1) (.int .i64 (wrap64 (t.f2 + 8))))
                    have hb_ : Aside0 (Below w.heap.size w (w9.setCell ⟨gE, si * 4 + 2, none⟩ (.int .i64 (wrap64 (t.f2 + 8))))) := ⟨below_set HB.out hgE⟩
                    have hw_ : Aside0 (b1 ≤ (w9.setCell ⟨gE, si * 4 + 2, none⟩ (.int .i64 (wrap64 (t.f2 + 8)))).heap.size) := ⟨by simpa using HWZ.out⟩
                    have hi_ := Aside0.mk (HI.out.put si ⟨t.f0, t.f1, wrap64 (t.f2 + 8), t.f3⟩ (small_same HST.out _ _))
                    clear HE HS HO HB HWZ HI hx0 hy0 hx1 hy1 hx2 hy2 hx3 hy3
                    generalize (w9.setCell ⟨gE, si * 4 + 2, none⟩ (.int .i64 (wrap64 (t.f2 + 8)))) = w10 at hn_ hs_ ho_ hb_ hw_ ⊢
                    have HE := hn_
                    have HS := hs_
                    have HO := ho_
                    have HB := hb_
                    have HWZ := hw_
                    have HI := hi_
                    clear hn_ hs_ ho_ hb_ hw_ hi_
                    generalize now.set si ⟨t.f0, t.f1, wrap64 (t.f2 + 8), t.f3⟩ = now at HE HI
                    clear HQF HLQ HST HTI HSQ
                    obtain ⟨c66, hcl, hK, hcc, hfr⟩ := Kd.N_elem HE.out z66 (si : Int) (by omega) (by omega)
                    obtain ⟨Aq1, cq1, rfl, hlq, hcq⟩ := k66_open (Kd.FK_now hK)
                    simp only [Int.toNat_natCast] at hK hcc hfr hlq hcq
                    clear hcl
                    obtain ⟨t1, hti⟩ : ∃ t, now.getD si z66 = t := ⟨_, rfl⟩
                    rw [hti] at hK hcc hlq hcq
                    have HST1 : Aside0 (smallT t1 = true) := ⟨by rw [← hti]; exact HI.out.sm si hs1⟩
                    have HTI1 := Aside0.mk hti
                    clear hti
                    have hx0 : w10.cell? ⟨gE, si * 4, none⟩ = some (.slice Aq1 t1.f0.length cq1) := hcc 0 _ rfl
                    have hx1 : w10.cell? ⟨gE, si * 4 + 1, none⟩ = some (.int .i64 t1.f1) := hcc 1 _ rfl
                    have hx2 : w10.cell? ⟨gE, si * 4 + 2, none⟩ = some (.int .i64 t1.f2) := hcc 2 _ rfl
                    have hx3 : w10.cell? ⟨gE, si * 4 + 3, none⟩ = some (.bool t1.f3) := hcc 3 _ rfl
                    have hy0 : w10.frozen? ⟨gE, si * 4, none⟩ = false := hfr 0
                    have hy1 : w10.frozen? ⟨gE, si * 4 + 1, none⟩ = false := hfr 1
                    have hy2 : w10.frozen? ⟨gE, si * 4 + 2, none⟩ = false := hfr 2
                    have hy3 : w10.frozen? ⟨gE, si * 4 + 3, none⟩ = false := hfr 3
                    have HQF1 := Aside0.mk (fk66_F hK)
                    have HLQ1 := Aside0.mk hlq
                    clear hK hcc hfr hcq hlq
                    by_cases ce : 255 ≤ t1.f2
                    rotate_left
                    · have ceb : decide (255 ≤ t1.f2) = false := decide_eq_false ce
                      clear ce
                      go_wp2_with fail
                      have hr1 : wrap64 ((r : Int) + 1) = ((r + 1 : Nat) : Int) := by have := HRV.out; rw [EvKit.wrap64_id (by omega) (by omega)]; omega
                      go_roundg g
                      case measure => omega
                      case rel => exact ⟨r + 1, now, used2, _, by first | (rw [← hr1]; done) | rfl | (congr 1; omega), ⟨stp_ HRG.out⟩, HI, ⟨len1_ HOL.out⟩, HE, HS, HO, HWZ, HB⟩
                    have ceb : decide (255 ≤ t1.f2) = true := decide_eq_true ce
                    clear ce
                    go_upto_region 46 with (fail)
                    have hn_ := Aside0.mk (now_two HE.out si hs1 HTI1.out 255)
                    have hs_ := Aside0.mk (Kd.R_far (p := ⟨gE, si * 4 + 2, none⟩) HS.out (fun k hk => ne_lt (HGE.out) hk.1) (.int .i64 255))
                    have ho_ := Aside0.mk (Kd.R_far (p := ⟨gE, si * 4 + 2, none⟩) HO.out (fun k hk => ne_lt (HGE.out) hk.1) (.int .i64 255))
                    have hb_ : Aside0 (Below w.heap.size w (w10.setCell ⟨gE, si * 4 + 2, none⟩ (.int .i64 255))) := ⟨below_set HB.out hgE⟩
                    have hw_ : Aside0 (b1 ≤ (w10.setCell ⟨gE, si * 4 + 2, none⟩ (.int .i64 255)).heap.size) := ⟨by simpa using HWZ.out⟩
                    have hi_ := Aside0.mk (HI.out.put si ⟨t1.f0, t1.f1, 255, t1.f3⟩ (small_same HST1.out _ _))
                    clear HE HS HO HB HWZ HI hx0 hy0 hx1 hy1 hx2 hy2 hx3 hy3
                    generalize (w10.setCell ⟨gE, si * 4 + 2, none⟩ (.int .i64 255)) = w11 at hn_ hs_ ho_ hb_ hw_ ⊢
                    have HE := hn_
                    have HS := hs_
                    have HO := ho_
                    have HB := hb_
                    have HWZ := hw_
                    have HI := hi_
                    clear hn_ hs_ ho_ hb_ hw_ hi_
                    generalize now.set si ⟨t1.f0, t1.f1, 255, t1.f3⟩ = now at HE HI
                    clear HQF1 HLQ1 HST1 HTI1 ceb
                    obtain ⟨c66, hcl, hK, hcc, hfr⟩ := Kd.N_elem HE.out z66 (si : Int) (by omega) (by omega)
                    obtain ⟨Aq2, cq2, rfl, hlq, hcq⟩ := k66_open (Kd.FK_now hK)
                    simp only [Int.toNat_natCast] at hK hcc hfr hlq hcq
                    clear hcl
                    obtain ⟨t2, hti⟩ : ∃ t, now.getD si z66 = t := ⟨_, rfl⟩
                    rw [hti] at hK hcc hlq hcq
                    have HST2 : Aside0 (smallT t2 = true) := ⟨by rw [← hti]; exact HI.out.sm si hs1⟩
                    have HTI2 := Aside0.mk hti
                    clear hti
                    have hx0 : w11.cell? ⟨gE, si * 4, none⟩ = some (.slice Aq2 t2.f0.length cq2) := hcc 0 _ rfl
                    have hx1 : w11.cell? ⟨gE, si * 4 + 1, none⟩ = some (.int .i64 t2.f1) := hcc 1 _ rfl
                    have hx2 : w11.cell? ⟨gE, si * 4 + 2, none⟩ = some (.int .i64 t2.f2) := hcc 2 _ rfl
                    have hx3 : w11.cell? ⟨gE, si * 4 + 3, none⟩ = some (.bool t2.f3) := hcc 3 _ rfl
                    have hy0 : w11.frozen? ⟨gE, si * 4, none⟩ = false := hfr 0
                    have hy1 : w11.frozen? ⟨gE, si * 4 + 1, none⟩ = false := hfr 1
                    have hy2 : w11.frozen? ⟨gE, si * 4 + 2, none⟩ = false := hfr 2
                    have hy3 : w11.frozen? ⟨gE, si * 4 + 3, none⟩ = false := hfr 3
                    have HQF2 := Aside0.mk (fk66_F hK)
                    have HLQ2 := Aside0.mk hlq
                    clear hK hcc hfr hcq hlq
                    go_upto_region 16 with (fail)
                    have hn_ := Aside0.mk (now_three HE.out si hs1 HTI2.out true)
                    have hs_ := Aside0.mk (Kd.R_far (p := ⟨gE, si * 4 + 3, none⟩) HS.out (fun k hk => ne_lt (HGE.out) hk.1) (.bool true))
                    have ho_ := Aside0.mk (Kd.R_far (p := ⟨gE, si * 4 + 3, none⟩) HO.out (fun k hk => ne_lt (HGE.out) hk.1) (.bool true))
                    have hb_ : Aside0 (Below w.heap.size w (w11.setCell ⟨gE, si * 4 + 3, none⟩ (.bool true))) := ⟨below_set HB.out hgE⟩
                    have hw_ : Aside0 (b1 ≤ (w11.setCell ⟨gE, si * 4 + 3, none⟩ (.bool true)).heap.size) := ⟨by simpa using HWZ.out⟩
                    have hi_ := Aside0.mk (HI.out.put si ⟨t2.f0, t2.f1, t2.f2, true⟩ (small_same HST2.out _ _))
                    clear HE HS HO HB HWZ HI hx0 hy0 hx1 hy1 hx2 hy2 hx3 hy3
                    generalize (w11.setCell ⟨gE, si * 4 + 3, none⟩ (.bool true)) = w12 at hn_ hs_ ho_ hb_ hw_ ⊢
                    have HE := hn_
                    have HS := hs_
                    have HO := ho_
                    have HB := hb_
                    have HWZ := hw_
                    have HI := hi_
                    clear hn_ hs_ ho_ hb_ hw_ hi_
                    generalize now.set si ⟨t2.f0, t2.f1, t2.f2, true⟩ = now at HE HI
                    go_wp2_with fail
                    have hr1 : wrap64 ((r : Int) + 1) = ((r + 1 : Nat) : Int) := by have := HRV.out; rw [EvKit.wrap64_id (by omega) (by omega)]; omega
                    go_roundg g
                    case measure => omega
                    case rel => exact ⟨r + 1, now, used2, _, by first | (rw [← hr1]; done) | rfl | (congr 1; omega), ⟨stp_ HRG.out⟩, HI, ⟨len1_ HOL.out⟩, HE, HS, HO, HWZ, HB⟩
                have cqb : decide (q < sp.length) = true := decide_eq_true cq
                obtain ⟨g4, rfl⟩ : ∃ g4, gk = g4 + 1 := ⟨gk - 1, by have := HQQ.out; omega⟩
                obtain ⟨ad3, e3, hx3⟩ := Kd.at_int HR3.out (q : Int) (by omega) (by omega)
                cases e3
                replace hx3 := hc_ HB hx3
                simp only [Int.toNat_natCast] at hx3
                generalize rd sp (q : Int) = y at hx3
                have q0 : (0 ≤ (q : Int)) = True := eq_true (by omega)
                have q1 : (q < sp.length) = True := eq_true cq
                have q2 : ((q : Int) < (sp.length : Int)) = True := eq_true (by omega)
                have hq1 : wrap64 ((q : Int) + 1) = ((q + 1 : Nat) : Int) := by have := HRV.out; rw [EvKit.wrap64_id (by omega) (by omega)]; omega
                have zz0 : wr.cell? ⟨gs, 0, none⟩ = some (.int .i64 (r : Int)) := (blk_cell BS.out 0).trans rfl
                have zf0 := blk_frozen BS.out 0
                have zz1 : wr.cell? ⟨gs, 1, none⟩ = some (.int .i64 (si : Int)) := (blk_cell BS.out 1).trans rfl
                have zf1 := blk_frozen BS.out 1
                have zz2 : wr.cell? ⟨gs, 2, none⟩ = some (.int .i64 hid) := (blk_cell BS.out 2).trans rfl
                have zf2 := blk_frozen BS.out 2
                have zz3 : wr.cell? ⟨gs, 3, none⟩ = some (.bool bg) := (blk_cell BS.out 3).trans rfl
                have zf3 := blk_frozen BS.out 3
                by_cases cy : y = (r : Int)
                · as_aux_lemma =>
                    have cy1 : (y == (r : Int)) = true := beq_iff_eq.2 cy
                    have cy2 : decide (y = (r : Int)) = true := decide_eq_true cy
                    clear cy
                    go_wp2_with fail
                    have n1_ : Aside0 ((wr.setCell ⟨gs, 3, none⟩ (.bool false)).heap[gs]? = some (.cells #[.int .i64 (r : Int), .int .i64 (si : Int), .int .i64 hid, .bool false] 73 (0, 0))) := ⟨blk_put BS.out 3 _ rfl⟩
                    have hgs := HGS.out
                    have hw3 := HW3.out
                    have hw1 := HW1.out
                    have n2_ := Aside0.mk (Kd.N_far (p := ⟨gs, 3, none⟩) HE.out (fun k hk => by show k ≠ gs; omega) (.bool false))
                    have n3_ := Aside0.mk (Kd.R_far (p := ⟨gs, 3, none⟩) HS.out (fun k hk => by have h := hk.1; show k ≠ gs; omega) (.bool false))
                    have n4_ := Aside0.mk (Kd.R_far (p := ⟨gs, 3, none⟩) HO.out (fun k hk => by have h := hk.1; show k ≠ gs; omega) (.bool false))
                    have n5_ : Aside0 (Below w.heap.size w (wr.setCell ⟨gs, 3, none⟩ (.bool false))) := ⟨below_set HB.out (by show w.heap.size ≤ gs; omega)⟩
                    have n6_ : Aside0 (b3 ≤ (wr.setCell ⟨gs, 3, none⟩ (.bool false)).heap.size) := ⟨by simpa using HWZ.out⟩
                    go_roundg g4
                    case measure => omega
                    case rel => exact ⟨q + 1, false, by first | (rw [← hq1]; done) | rfl | (congr 1; omega), ⟨stp_ HQQ.out⟩, n1_, n2_, n3_, n4_, n6_, n5_⟩
                have cy1 : (y == (r : Int)) = false := beq_eq_false_iff_ne.2 cy
                have cy2 : decide (y = (r : Int)) = false := decide_eq_false cy
                clear cy
                go_wp2_with fail
                go_roundg g4
                case measure => omega
                case rel => exact ⟨q + 1, bg, by first | (rw [← hq1]; done) | rfl | (congr 1; omega), ⟨stp_ HQQ.out⟩, BS, HE, HS, HO, HWZ, HB⟩
            have cib : decide (i < l.length) = true := decide_eq_true ci
            obtain ⟨g3, rfl⟩ : ∃ g3, gk = g3 + 1 := ⟨gk - 1, by have := HII.out; omega⟩
            obtain ⟨gE, cE2, eE, hgE, _, _⟩ := Kd.N_form HE.out (by rw [HI.out.ln]; omega)
            injection eE with eE1 eE2 eE3
            clear eE2 eE3
            subst eE1
            obtain ⟨gS, cS, eS, hgS, _, _⟩ := Kd.R_form HS.out (by rw [HI.out.lu]; omega)
            subst eS
            have hsc := Kd.Q_cell (0 : Int) (Kd.Q_of_R HS.out) (i : Int) (by omega) (by rw [HI.out.lu]; omega)
            obtain ⟨c66, hcl, hK, hcc, hfr⟩ := Kd.N_elem HE.out z66 (i : Int) (by omega) (by omega)
            obtain ⟨Aq, cq, rfl, hlq, hcq⟩ := k66_open (Kd.FK_now hK)
            simp only [Int.toNat_natCast] at hK hcc hfr hlq hcq
            clear hcl
            obtain ⟨t, hti⟩ : ∃ t, now.getD i z66 = t := ⟨_, rfl⟩
            rw [hti] at hK hcc hlq hcq
            have HST : Aside0 (smallT t = true) := ⟨by rw [← hti]; exact HI.out.sm i ci⟩
            have HTI := Aside0.mk hti
            clear hti
            have hx0 : wr.cell? ⟨gE, i * 4, none⟩ = some (.slice Aq t.f0.length cq) := hcc 0 _ rfl
            have hx1 : wr.cell? ⟨gE, i * 4 + 1, none⟩ = some (.int .i64 t.f1) := hcc 1 _ rfl
            have hx2 : wr.cell? ⟨gE, i * 4 + 2, none⟩ = some (.int .i64 t.f2) := hcc 2 _ rfl
            have hx3 : wr.cell? ⟨gE, i * 4 + 3, none⟩ = some (.bool t.f3) := hcc 3 _ rfl
            have hy0 : wr.frozen? ⟨gE, i * 4, none⟩ = false := hfr 0
            have hy1 : wr.frozen? ⟨gE, i * 4 + 1, none⟩ = false := hfr 1
            have hy2 : wr.frozen? ⟨gE, i * 4 + 2, none⟩ = false := hfr 2
            have hy3 : wr.frozen? ⟨gE, i * 4 + 3, none⟩ = false := hfr 3
            have HQF := Aside0.mk (fk66_F hK)
            have HLQ := Aside0.mk hlq
            clear hK hcc hfr hcq hlq
            have hxs : wr.cell? ⟨gS, i, none⟩ = some (.int .i64 (used1.getD i 0)) := by have h := hsc.1; rw [Nat.zero_add] at h; exact h
            clear hsc
            generalize used1.getD i 0 = ui at hxs
            have HQG : Aside0 (Kd.F k27 wr (fun k => k < b1) Aq t.f0.length t.f0) := ⟨Kd.F_mono HQF.out (fun k hk => hk.1)⟩
            clear HQF
            have hlu := HI.out.lu
            have HUL : Aside0 (used1.length = l.length) := ⟨hlu⟩
            have ci0 : (0 ≤ (i : Int)) = True := eq_true (by omega)
            have ci1 : (i < l.length) = True := eq_true ci
            have ci2 : ((i : Int) < (l.length : Int)) = True := eq_true (by omega)
            have cu1 : (i < used1.length) = True := eq_true (by omega)
            have cu2 : ((i : Int) < (used1.length : Int)) = True := eq_true (by omega)
            clear hlu
            go_upto_region 23 with (first | ((with_reducible refine gate_dst (N := 20) rfl ?_); refine box_event ?hggb (N := 20) ?hdgb (cs := #[.slice none 0 0, .int .i64 0, .int .i64 0, .bool false]) (t := 66) ?hrgb ?_; (case hdgb => rfl); (case hggb => rfl); (case hrgb => first | (go_simp; done) | (go_simp; rfl)); intro gb hgz wb hbox hb; have gbZ := Aside0.mk hgz; have gbB := Aside0.mk hbox; have gbH := Aside0.mk hb; clear hgz hbox hb; have gbf0 := blk_frozen gbB.out 0; have gbz0 : wb.cell? ⟨gb, 0, none⟩ = some (.slice none 0 0) := (blk_cell gbB.out 0).trans rfl; have gbf1 := blk_frozen gbB.out 1; have gbz1 : wb.cell? ⟨gb, 1, none⟩ = some (.int .i64 0) := (blk_cell gbB.out 1).trans rfl; have gbf2 := blk_frozen gbB.out 2; have gbz2 : wb.cell? ⟨gb, 2, none⟩ = some (.int .i64 0) := (blk_cell gbB.out 2).trans rfl; have gbf3 := blk_frozen gbB.out 3; have gbz3 : wb.cell? ⟨gb, 3, none⟩ = some (.bool false) := (blk_cell gbB.out 3).trans rfl))
            have hle : wr.heap.size ≤ gb := Nat.le_of_eq gbZ.out.symm
            have hbW : Below wr.heap.size wr ((((wb.setCell ⟨gb, 0, none⟩ (.slice Aq t.f0.length cq)).setCell ⟨gb, 1, none⟩ (.int .i64 t.f1)).setCell ⟨gb, 2, none⟩ (.int .i64 t.f2)).setCell ⟨gb, 3, none⟩ (.bool t.f3)) := (below_set (below_set (below_set (below_set gbH.out hle) hle) hle) hle)
            have hBT : ((((wb.setCell ⟨gb, 0, none⟩ (.slice Aq t.f0.length cq)).setCell ⟨gb, 1, none⟩ (.int .i64 t.f1)).setCell ⟨gb, 2, none⟩ (.int .i64 t.f2)).setCell ⟨gb, 3, none⟩ (.bool t.f3)).heap[gb]? = some (.cells #[.slice Aq t.f0.length cq, .int .i64 t.f1, .int .i64 t.f2, .bool t.f3] 66 (0, 0)) := (blk_put (blk_put (blk_put (blk_put gbB.out 0 _ rfl) 1 _ rfl) 2 _ rfl) 3 _ rfl)
            generalize ((((wb.setCell ⟨gb, 0, none⟩ (.slice Aq t.f0.length cq)).setCell ⟨gb, 1, none⟩ (.int .i64 t.f1)).setCell ⟨gb, 2, none⟩ (.int .i64 t.f2)).setCell ⟨gb, 3, none⟩ (.bool t.f3)) = w1 at hbW hBT ⊢
            have BG := Aside0.mk hBT
            replace HC := Aside0.mk (Kd.R_below HC.out hbW)
            replace HD := Aside0.mk (Kd.R_below HD.out hbW)
            replace HE := Aside0.mk (Kd.N_below HE.out hbW)
            replace HS := Aside0.mk (Kd.R_below HS.out hbW)
            replace HO := Aside0.mk (Kd.R_below HO.out hbW)
            replace HQG := Aside0.mk (Kd.F_below HQG.out hbW)
            replace HB := Aside0.mk (below_step HB.out hbW)
            have HGB2 : Aside0 (b3 ≤ gb) := ⟨by have := gbZ.out; have := HWZ.out; omega⟩
            replace HWZ : Aside0 (b3 ≤ w1.heap.size) := ⟨Nat.le_trans HWZ.out hbW.size⟩
            replace hxs := pw_cell_below hbW hxs
            clear hBT hbW hle gbB gbH gbf0 gbz0 gbf1 gbz1 gbf2 gbz2 gbf3 gbz3
            clear hx0 hx1 hx2 hx3 hy0 hy1 hy2 hy3
            by_cases t1 : t.f3 = true
            · as_aux_lemma =>
                rw [t1] at BG
                clear t1
                have bz0 : w1.cell? ⟨gb, 0, none⟩ = some (.slice Aq t.f0.length cq) := (blk_cell BG.out 0).trans rfl
                have bf0 := blk_frozen BG.out 0
                have bz1 : w1.cell? ⟨gb, 1, none⟩ = some (.int .i64 t.f1) := (blk_cell BG.out 1).trans rfl
                have bf1 := blk_frozen BG.out 1
                have bz2 : w1.cell? ⟨gb, 2, none⟩ = some (.int .i64 t.f2) := (blk_cell BG.out 2).trans rfl
                have bf2 := blk_frozen BG.out 2
                have bz3 : w1.cell? ⟨gb, 3, none⟩ = some (.bool true) := (blk_cell BG.out 3).trans rfl
                have bf3 := blk_frozen BG.out 3
                repeat (go_quiet (fail); try go_wp2)
                have hi1 : wrap64 ((i : Int) + 1) = ((i + 1 : Nat) : Int) := by have := HRV.out; rw [EvKit.wrap64_id (by omega) (by omega)]; omega
                go_roundg g3
                case measure => omega
                case rel => exact ⟨i + 1, cs, is, by first | (rw [← hi1]; done) | rfl | (congr 1; omega), ⟨stp_ HII.out⟩, ⟨HCI.out.skip⟩, ⟨ra_ HC.out⟩, ⟨ra_ HD.out⟩, ⟨by repeat (first | exact HE.out | apply Kd.N_drewN | apply Kd.N_drew)⟩, ⟨ra_ HS.out⟩, ⟨ra_ HO.out⟩, HWZ, ⟨by repeat (first | exact HB.out | apply pw_below_drewN | apply below_drew1)⟩⟩
            have t1f : t.f3 = false := by simpa using t1
            rw [t1f] at BG
            clear t1 t1f
            by_cases t2 : 0 < t.f0.length
            rotate_left
            · as_aux_lemma =>
                have t2b : decide (0 < t.f0.length) = false := decide_eq_false t2
                have t2c : decide ((0 : Int) < (t.f0.length : Int)) = false := decide_eq_false (by omega)
                clear t2
                have bz0 : w1.cell? ⟨gb, 0, none⟩ = some (.slice Aq t.f0.length cq) := (blk_cell BG.out 0).trans rfl
                have bf0 := blk_frozen BG.out 0
                have bz1 : w1.cell? ⟨gb, 1, none⟩ = some (.int .i64 t.f1) := (blk_cell BG.out 1).trans rfl
                have bf1 := blk_frozen BG.out 1
                have bz2 : w1.cell? ⟨gb, 2, none⟩ = some (.int .i64 t.f2) := (blk_cell BG.out 2).trans rfl
                have bf2 := blk_frozen BG.out 2
                have bz3 : w1.cell? ⟨gb, 3, none⟩ = some (.bool false) := (blk_cell BG.out 3).trans rfl
                have bf3 := blk_frozen BG.out 3
                repeat (go_quiet (fail); try go_wp2)
                have hi1 : wrap64 ((i : Int) + 1) = ((i + 1 : Nat) : Int) := by have := HRV.out; rw [EvKit.wrap64_id (by omega) (by omega)]; omega
                go_roundg g3
                case measure => omega
                case rel => exact ⟨i + 1, cs, is, by first | (rw [← hi1]; done) | rfl | (congr 1; omega), ⟨stp_ HII.out⟩, ⟨HCI.out.skip⟩, ⟨ra_ HC.out⟩, ⟨ra_ HD.out⟩, ⟨by repeat (first | exact HE.out | apply Kd.N_drewN | apply Kd.N_drew)⟩, ⟨ra_ HS.out⟩, ⟨ra_ HO.out⟩, HWZ, ⟨by repeat (first | exact HB.out | apply pw_below_drewN | apply below_drew1)⟩⟩
            have t2b : decide (0 < t.f0.length) = true := decide_eq_true t2
            have t2c : decide ((0 : Int) < (t.f0.length : Int)) = true := decide_eq_true (by omega)
            by_cases t3 : ui < t.f1
            rotate_left
            · as_aux_lemma =>
                have t3b : decide (ui < t.f1) = false := decide_eq_false t3
                clear t3
                have bz0 : w1.cell? ⟨gb, 0, none⟩ = some (.slice Aq t.f0.length cq) := (blk_cell BG.out 0).trans rfl
                have bf0 := blk_frozen BG.out 0
                have bz1 : w1.cell? ⟨gb, 1, none⟩ = some (.int .i64 t.f1) := (blk_cell BG.out 1).trans rfl
                have bf1 := blk_frozen BG.out 1
                have bz2 : w1.cell? ⟨gb, 2, none⟩ = some (.int .i64 t.f2) := (blk_cell BG.out 2).trans rfl
                have bf2 := blk_frozen BG.out 2
                have bz3 : w1.cell? ⟨gb, 3, none⟩ = some (.bool false) := (blk_cell BG.out 3).trans rfl
                have bf3 := blk_frozen BG.out 3
                repeat (go_quiet (fail); try go_wp2)
                have hi1 : wrap64 ((i : Int) + 1) = ((i + 1 : Nat) : Int) := by have := HRV.out; rw [EvKit.wrap64_id (by omega) (by omega)]; omega
                go_roundg g3
                case measure => omega
                case rel => exact ⟨i + 1, cs, is, by first | (rw [← hi1]; done) | rfl | (congr 1; omega), ⟨stp_ HII.out⟩, ⟨HCI.out.skip⟩, ⟨ra_ HC.out⟩, ⟨ra_ HD.out⟩, ⟨by repeat (first | exact HE.out | apply Kd.N_drewN | apply Kd.N_drew)⟩, ⟨ra_ HS.out⟩, ⟨ra_ HO.out⟩, HWZ, ⟨by repeat (first | exact HB.out | apply pw_below_drewN | apply below_drew1)⟩⟩
            have t3b : decide (ui < t.f1) = true := decide_eq_true t3
            clear t3
            have HCN : Aside0 (CInv l.length now (i + 1) (cs ++ [i]) (is ++ [headId t])) := ⟨HCI.out.take _ ci (by rw [HTI.out]; exact t2)⟩
            have bz0 : w1.cell? ⟨gb, 0, none⟩ = some (.slice Aq t.f0.length cq) := (blk_cell BG.out 0).trans rfl
            have bf0 := blk_frozen BG.out 0
            have bz1 : w1.cell? ⟨gb, 1, none⟩ = some (.int .i64 t.f1) := (blk_cell BG.out 1).trans rfl
            have bf1 := blk_frozen BG.out 1
            have bz2 : w1.cell? ⟨gb, 2, none⟩ = some (.int .i64 t.f2) := (blk_cell BG.out 2).trans rfl
            have bf2 := blk_frozen BG.out 2
            have bz3 : w1.cell? ⟨gb, 3, none⟩ = some (.bool false) := (blk_cell BG.out 3).trans rfl
            have bf3 := blk_frozen BG.out 3
            go_quiet (fail)
            go_upto_region 24 with (fail)
            clear bz0 bf0 bz1 bf1 bz2 bf2 bz3 bf3
            have hb : Below w1.heap.size w1 (w1.drewN nq) := pw_below_drewN (Below.refl _ _) nq
            replace HC := Aside0.mk (Kd.R_below HC.out hb)
            replace HD := Aside0.mk (Kd.R_below HD.out hb)
            replace HE := Aside0.mk (Kd.N_below HE.out hb)
            replace HS := Aside0.mk (Kd.R_below HS.out hb)
            replace HO := Aside0.mk (Kd.R_below HO.out hb)
            replace HQG := Aside0.mk (Kd.F_below HQG.out hb)
            replace BG := Aside0.mk (blk_below BG.out hb)
            replace HB := Aside0.mk (below_step HB.out hb)
            replace HWZ : Aside0 (b3 ≤ (w1.drewN nq).heap.size) := ⟨Nat.le_trans HWZ.out hb.size⟩
            clear hb hxs t2b t2c t3b
            generalize w1.drewN nq = w2 at HC HD HE HS HO HQG BG HB HWZ ⊢
            obtain ⟨adq, _, _, eqq, _⟩ := at_T27 (Kd.F_now HQG.out) 0 (by omega) (by omega)
            subst eqq
            have t2d : (0 < t.f0.length) = True := eq_true t2
            have t2e : ((0 : Int) < (t.f0.length : Int)) = True := eq_true (by omega)
            obtain ⟨hid, hhd⟩ : ∃ x, headId t = x := ⟨_, rfl⟩
            rw [hhd] at HCN
            have HHD := Aside0.mk hhd
            clear hhd
            go_upto_region 25 with (first | ((with_reducible refine gate_builtin (b := .append) (xs := #[.tmp 111, .tmp 113]) rfl ?_); at_builtin; refine Kd.R_append (Kd.int .i64) (w0 := w) w.heap.size rfl (.tmp 111) (.tmp 113) 31 3 (.int .i64 0) 8 rfl Try.underlying31 info3 rfl (by decide) (by omega) u17 (cs.map fun (x : Nat) => (x : Int)) (i : Int) [.int .i64 (i : Int)] (fun k => b3 ≤ k ∧ some k ≠ (u18 : Value).ownBlock) (fun _ => False) rfl rfl rfl (fun _ hk => hk.elim) (fun k hk => ⟨by have := HWZ.out; omega, fun e => by have := Kd.R_lt HD.out k e.symm; omega⟩) HC.out HB.out HB.out.size (by rw [List.length_map]; have := HCI.out.2.1; have := HRV.out; omega) ?_; intro v17 w3 ho hb hg hat; have n0_ := Aside0.mk (Kd.R_after HD.out hg hat); have n1_ := Aside0.mk (Kd.N_grown HE.out hg (fun k hk e => by have h1 := (HC.out.1 k e.symm).1; have := HW3.out; have hk := hk; omega)); have n2_ := Aside0.mk (Kd.R_grown HS.out hg (fun k hk e => by have h1 := (HC.out.1 k e.symm).1; have := HW3.out; have hk := hk; omega)); have n3_ := Aside0.mk (Kd.R_grown HO.out hg (fun k hk e => by have h1 := (HC.out.1 k e.symm).1; have := HW3.out; have hk := hk; omega)); have n4_ := Aside0.mk (Kd.F_grown HQG.out hg (fun k hk e => by have h1 := (HC.out.1 k e.symm).1; have := HW3.out; have hk := hk; omega)); have n5_ := Aside0.mk (blk_grown BG.out hg (Kd.R_ne HC.out BG.out (by decide))); have n6_ := Aside0.mk hb; have n7_ : Aside0 (b3 ≤ w3.heap.size) := ⟨Nat.le_trans HWZ.out hg.size⟩; have n8_ := Aside0.mk ho; clear HC HD HE HS HO HQG BG HB HWZ ho hb hg hat; have HD := n0_; have HE := n1_; have HS := n2_; have HO := n3_; have HQG := n4_; have BG := n5_; have HB := n6_; have HWZ := n7_; have HC := n8_; clear n0_ n1_ n2_ n3_ n4_ n5_ n6_ n7_ n8_; have bz0 : w3.cell? ⟨gb, 0, none⟩ = some (.slice (some adq) t.f0.length cq) := (blk_cell BG.out 0).trans rfl; have bs2 : w3.cell? adq = some (.int .i64 hid) := by rw [← HHD.out]; exact head_cell (Kd.F_now HQG.out) t2))
            go_wp2_with (first | ((with_reducible refine gate_builtin (b := .append) (xs := #[.tmp 115, .tmp 121]) rfl ?_); at_builtin; refine Kd.R_append (Kd.int .i64) (w0 := w) w.heap.size rfl (.tmp 115) (.tmp 121) 31 3 (.int .i64 0) 8 rfl Try.underlying31 info3 rfl (by decide) (by omega) u18 is hid [.int .i64 hid] (fun k => b3 ≤ k ∧ some k ≠ (v17 : Value).ownBlock) (fun _ => False) rfl rfl rfl (fun _ hk => hk.elim) (fun k hk => ⟨by have := HWZ.out; omega, fun e => by have := Kd.R_lt HC.out k e.symm; omega⟩) HD.out HB.out HB.out.size (by have := HCI.out.1; have := HCI.out.2.1; have := HRV.out; omega) ?_; intro v18 w4 ho hb hg hat; have n0_ := Aside0.mk (Kd.R_after HC.out hg hat); have n1_ := Aside0.mk (Kd.N_grown HE.out hg (fun k hk e => by have h1 := (HD.out.1 k e.symm).1; have := HW3.out; have hk := hk; omega)); have n2_ := Aside0.mk (Kd.R_grown HS.out hg (fun k hk e => by have h1 := (HD.out.1 k e.symm).1; have := HW3.out; have hk := hk; omega)); have n3_ := Aside0.mk (Kd.R_grown HO.out hg (fun k hk e => by have h1 := (HD.out.1 k e.symm).1; have := HW3.out; have hk := hk; omega)); have n4_ := Aside0.mk (Kd.F_grown HQG.out hg (fun k hk e => by have h1 := (HD.out.1 k e.symm).1; have := HW3.out; have hk := hk; omega)); have n5_ := Aside0.mk (blk_grown BG.out hg (Kd.R_ne HD.out BG.out (by decide))); have n6_ := Aside0.mk hb; have n7_ : Aside0 (b3 ≤ w4.heap.size) := ⟨Nat.le_trans HWZ.out hg.size⟩; have n8_ := Aside0.mk ho; clear HC HD HE HS HO HQG BG HB HWZ ho hb hg hat; have HC := n0_; have HE := n1_; have HS := n2_; have HO := n3_; have HQG := n4_; have BG := n5_; have HB := n6_; have HWZ := n7_; have HD := n8_; clear n0_ n1_ n2_ n3_ n4_ n5_ n6_ n7_ n8_))
            have hi1 : wrap64 ((i : Int) + 1) = ((i + 1 : Nat) : Int) := by have := HRV.out; rw [EvKit.wrap64_id (by omega) (by omega)]; omega
            go_roundg g3
            case measure => omega
            case rel => exact ⟨i + 1, cs ++ [i], is ++ [hid], by first | (rw [← hi1]; done) | rfl | (congr 1; omega), ⟨stp_ HII.out⟩, HCN, ⟨by rw [List.map_append]; exact HC.out⟩, HD, HE, HS, HO, HWZ, HB⟩
    have cjb : decide (j < l.length) = true := decide_eq_true cj
    obtain ⟨g, rfl⟩ : ∃ g, gk = g + 1 := ⟨gk - 1, by have := HJ.out; omega⟩
    have HSJ : Aside0 (smallT (rd_T66 l (j : Int)) = true) := ⟨small_at HSM.out j cj⟩
    obtain ⟨ad, Aq, cq, ead, hx0, hx1, hx2, hx3, hlq, hcq⟩ := at_T66 HR0.out (j : Int) (by omega) (by omega)
    cases ead
    have HQI := Aside0.mk hcq
    have HQL := Aside0.mk hlq
    clear hcq hlq
    have HTK : Aside0 (l.take (j + 1) = l.take j ++ [rd_T66 l (j : Int)]) := ⟨take_T66 l j cj⟩
    generalize rd_T66 l (j : Int) = t at hx0 hx1 hx2 hx3 HQI HQL HSJ HTK
    simp only [Int.toNat_natCast] at hx0 hx1 hx2 hx3
    replace hx0 := hc_ HB hx0
    replace hx1 := hc_ HB hx1
    replace hx2 := hc_ HB hx2
    replace hx3 := hc_ HB hx3
    have cj0 : (0 ≤ (j : Int)) = True := eq_true (by omega)
    have cj1 : (j < l.length) = True := eq_true cj
    have cj2 : ((j : Int) < (l.length : Int)) = True := eq_true (by omega)
    go_upto_region 7 with (first | ((with_reducible refine gate_dst (N := 13) rfl ?_); refine box_event ?hggt (N := 13) ?hdgt (cs := #[.slice none 0 0, .int .i64 0, .int .i64 0, .bool false]) (t := 66) ?hrgt ?_; (case hdgt => rfl); (case hggt => rfl); (case hrgt => first | (go_simp; done) | (go_simp; rfl)); intro gt hgz wt hbox hb; have gtZ := Aside0.mk hgz; have gtB := Aside0.mk hbox; have gtH := Aside0.mk hb; clear hgz hbox hb; have gtf0 := blk_frozen gtB.out 0; have gtz0 : wt.cell? ⟨gt, 0, none⟩ = some (.slice none 0 0) := (blk_cell gtB.out 0).trans rfl; have gtf1 := blk_frozen gtB.out 1; have gtz1 : wt.cell? ⟨gt, 1, none⟩ = some (.int .i64 0) := (blk_cell gtB.out 1).trans rfl; have gtf2 := blk_frozen gtB.out 2; have gtz2 : wt.cell? ⟨gt, 2, none⟩ = some (.int .i64 0) := (blk_cell gtB.out 2).trans rfl; have gtf3 := blk_frozen gtB.out 3; have gtz3 : wt.cell? ⟨gt, 3, none⟩ = some (.bool false) := (blk_cell gtB.out 3).trans rfl))
    replace HE := Aside0.mk (Kd.N_mono (Kd.N_bound HE.out) (ok' := fun k => k < gt) (fun k hk => by have := gtZ.out; have := hk.2; omega))
    have HGB : Aside0 (w.heap.size ≤ gt) := ⟨by have := gtZ.out; have := HB.out.size; omega⟩
    have hle : wr.heap.size ≤ gt := Nat.le_of_eq gtZ.out.symm
    have hbW : Below wr.heap.size wr ((((wt.setCell ⟨gt, 0, none⟩ (.slice Aq t.f0.length cq)).setCell ⟨gt, 1, none⟩ (.int .i64 t.f1)).setCell ⟨gt, 2, none⟩ (.int .i64 t.f2)).setCell ⟨gt, 3, none⟩ (.bool t.f3)) := (below_set (below_set (below_set (below_set gtH.out hle) hle) hle) hle)
    have hBT : ((((wt.setCell ⟨gt, 0, none⟩ (.slice Aq t.f0.length cq)).setCell ⟨gt, 1, none⟩ (.int .i64 t.f1)).setCell ⟨gt, 2, none⟩ (.int .i64 t.f2)).setCell ⟨gt, 3, none⟩ (.bool t.f3)).heap[gt]? = some (.cells #[.slice Aq t.f0.length cq, .int .i64 t.f1, .int .i64 t.f2, .bool t.f3] 66 (0, 0)) := (blk_put (blk_put (blk_put (blk_put gtB.out 0 _ rfl) 1 _ rfl) 2 _ rfl) 3 _ rfl)
    generalize ((((wt.setCell ⟨gt, 0, none⟩ (.slice Aq t.f0.length cq)).setCell ⟨gt, 1, none⟩ (.int .i64 t.f1)).setCell ⟨gt, 2, none⟩ (.int .i64 t.f2)).setCell ⟨gt, 3, none⟩ (.bool t.f3)) = w1 at hbW hBT ⊢
    have BT := Aside0.mk hBT
    replace HE := Aside0.mk (Kd.N_below HE.out hbW)
    replace HB := Aside0.mk (below_step HB.out hbW)
    clear hBT hbW hle gtB gtH gtf0 gtz0 gtf1 gtz1 gtf2 gtz2 gtf3 gtz3
    have tz0 : w1.cell? ⟨gt, 0, none⟩ = some (.slice Aq t.f0.length cq) := (blk_cell BT.out 0).trans rfl
    have tf0 := blk_frozen BT.out 0
    have tz1 : w1.cell? ⟨gt, 1, none⟩ = some (.int .i64 t.f1) := (blk_cell BT.out 1).trans rfl
    have tf1 := blk_frozen BT.out 1
    have tz2 : w1.cell? ⟨gt, 2, none⟩ = some (.int .i64 t.f2) := (blk_cell BT.out 2).trans rfl
    have tf2 := blk_frozen BT.out 2
    have tz3 : w1.cell? ⟨gt, 3, none⟩ = some (.bool t.f3) := (blk_cell BT.out 3).trans rfl
    have tf3 := blk_frozen BT.out 3
    clear hx0 hx1 hx2 hx3 cj0 cj1 cj2
    by_cases cg : goodT t = true
    rotate_left
    · have HGT : Aside0 (goodT t = false) := ⟨by simpa using cg⟩
      have hr := HRR.out
      rw [show l.all goodT = false from Bool.eq_false_iff.2 (fun h => by have h1 := List.all_eq_true.1 h t (List.mem_of_mem_take (i := j + 1) (by rw [HTK.out]; simp)); rw [HGT.out] at h1; cases h1)] at hr
      have HR2 := Aside0.mk hr
      clear hr HRR
      go_wp2_with (first | (go_at_call 46; refine (l23t_calls Aq cq t false _ (Kd.C_below HQI.out HB.out) HQL.out HSJ.out HGT.out).mono ?_; rintro e w2 ⟨rfl, hb⟩; replace HE := Aside0.mk (Kd.N_below HE.out hb); replace BT := Aside0.mk (blk_below BT.out hb); replace HB := Aside0.mk (below_step HB.out hb); clear hb; replace tz0 : w2.cell? ⟨gt, 0, none⟩ = some (.slice Aq t.f0.length cq) := (blk_cell BT.out 0).trans rfl; replace tf0 := blk_frozen BT.out 0; replace tz1 : w2.cell? ⟨gt, 1, none⟩ = some (.int .i64 t.f1) := (blk_cell BT.out 1).trans rfl; replace tf1 := blk_frozen BT.out 1; replace tz2 : w2.cell? ⟨gt, 2, none⟩ = some (.int .i64 t.f2) := (blk_cell BT.out 2).trans rfl; replace tf2 := blk_frozen BT.out 2; replace tz3 : w2.cell? ⟨gt, 3, none⟩ = some (.bool t.f3) := (blk_cell BT.out 3).trans rfl; replace tf3 := blk_frozen BT.out 3))
      go_ret3
      rw [← HR2.out]
      exact endsS_no HB.out
    have HGT := Aside0.mk cg
    go_upto_region 10 with (first | (go_at_call 46; refine (l23t_calls Aq cq t true _ (Kd.C_below HQI.out HB.out) HQL.out HSJ.out HGT.out).mono ?_; rintro e w2 ⟨rfl, hb⟩; replace HE := Aside0.mk (Kd.N_below HE.out hb); replace BT := Aside0.mk (blk_below BT.out hb); replace HB := Aside0.mk (below_step HB.out hb); clear hb; replace tz0 : w2.cell? ⟨gt, 0, none⟩ = some (.slice Aq t.f0.length cq) := (blk_cell BT.out 0).trans rfl; replace tf0 := blk_frozen BT.out 0; replace tz1 : w2.cell? ⟨gt, 1, none⟩ = some (.int .i64 t.f1) := (blk_cell BT.out 1).trans rfl; replace tf1 := blk_frozen BT.out 1; replace tz2 : w2.cell? ⟨gt, 2, none⟩ = some (.int .i64 t.f2) := (blk_cell BT.out 2).trans rfl; replace tf2 := blk_frozen BT.out 2; replace tz3 : w2.cell? ⟨gt, 3, none⟩ = some (.bool t.f3) := (blk_cell BT.out 3).trans rfl; replace tf3 := blk_frozen BT.out 3) | (go_at_call 47; refine (frames_calls Aq cq t _ (Kd.C_below HQI.out HB.out) HQL.out HSJ.out).mono ?_; rintro e w3 ⟨v3, rfl, hn, hb⟩; have HQ := Aside0.mk hn; have HGL : Aside0 (gt < w2.heap.size) := ⟨blk_lt BT.out⟩; replace HE := Aside0.mk (Kd.N_below HE.out hb); replace BT := Aside0.mk (blk_below BT.out hb); replace HB := Aside0.mk (below_step HB.out hb); clear hb hn; obtain ⟨A14, c14, e14⟩ := Kd.N_slice HQ.out; subst e14; replace tz0 : w3.cell? ⟨gt, 0, none⟩ = some (.slice Aq t.f0.length cq) := (blk_cell BT.out 0).trans rfl; replace tf0 := blk_frozen BT.out 0; replace tz1 : w3.cell? ⟨gt, 1, none⟩ = some (.int .i64 t.f1) := (blk_cell BT.out 1).trans rfl; replace tf1 := blk_frozen BT.out 1; replace tz2 : w3.cell? ⟨gt, 2, none⟩ = some (.int .i64 t.f2) := (blk_cell BT.out 2).trans rfl; replace tf2 := blk_frozen BT.out 2; replace tz3 : w3.cell? ⟨gt, 3, none⟩ = some (.bool t.f3) := (blk_cell BT.out 3).trans rfl; replace tf3 := blk_frozen BT.out 3))
    have hgb := HGB.out
    have hgl := HGL.out
    replace HE := Aside0.mk (Kd.N_far (p := ⟨gt, 0, none⟩) HE.out (fun k hk => by show k ≠ gt; omega) (.slice A14 t.f0.length c14))
    replace HQ := Aside0.mk (Kd.N_far (p := ⟨gt, 0, none⟩) HQ.out (fun k hk => by show k ≠ gt; omega) (.slice A14 t.f0.length c14))
    have n1_ : Aside0 ((w3.setCell ⟨gt, 0, none⟩ (.slice A14 t.f0.length c14)).heap[gt]? = some (.cells #[.slice A14 t.f0.length c14, .int .i64 t.f1, .int .i64 t.f2, .bool t.f3] 66 (0, 0))) := ⟨blk_put BT.out 0 _ rfl⟩
    have n2_ : Aside0 (Below w.heap.size w (w3.setCell ⟨gt, 0, none⟩ (.slice A14 t.f0.length c14))) := ⟨below_set HB.out hgb⟩
    clear BT HB tz0 tz1 tz2 tz3 tf0 tf1 tf2 tf3 hgb hgl
    generalize (w3.setCell ⟨gt, 0, none⟩ (.slice A14 t.f0.length c14)) = w4 at HE HQ n1_ n2_ ⊢
    have BT := n1_
    have HB := n2_
    clear n1_ n2_
    have tz0 : w4.cell? ⟨gt, 0, none⟩ = some (.slice A14 t.f0.length c14) := (blk_cell BT.out 0).trans rfl
    have tf0 := blk_frozen BT.out 0
    have tz1 : w4.cell? ⟨gt, 1, none⟩ = some (.int .i64 t.f1) := (blk_cell BT.out 1).trans rfl
    have tf1 := blk_frozen BT.out 1
    have tz2 : w4.cell? ⟨gt, 2, none⟩ = some (.int .i64 t.f2) := (blk_cell BT.out 2).trans rfl
    have tf2 := blk_frozen BT.out 2
    have tz3 : w4.cell? ⟨gt, 3, none⟩ = some (.bool t.f3) := (blk_cell BT.out 3).trans rfl
    have tf3 := blk_frozen BT.out 3
    have hl6 := HRV.out.2.2.2.1
    have HQB : Aside0 (∀ k, (u11 : Value).ownBlock = some k → w.heap.size ≤ k ∧ k < gt) := ⟨fun k hk => ⟨Kd.N_base HE.out k hk, HE.out.1 k hk⟩⟩
    go_wp2_with (first | ((with_reducible refine gate_builtin (b := .append) (xs := #[.tmp 66, .tmp 68]) rfl ?_); at_builtin; refine Kd.N_append k66 (w0 := w) w.heap.size rfl (.tmp 66) (.tmp 68) 42 66 (.agg #[.slice none 0 0, .int .i64 0, .int .i64 0, .bool false]) 48 rfl Try.underlying42 info66 rfl (by decide) (by omega) u11 (l.take j) t [.slice A14 t.f0.length c14, .int .i64 t.f1, .int .i64 t.f2, .bool t.f3] (fun _ => True) (fun k => w2.heap.size ≤ k) rfl rfl (fk66 _ _ t (Kd.N_reads' HQ.out).2.1 (Kd.N_F HQ.out)) (fun k hk => ⟨trivial, fun e => by have := HQB.out k e.symm; have := HGL.out; omega⟩) (fun _ _ => trivial) (Kd.N_mono HE.out (fun _ _ => trivial)) HB.out HB.out.size (by have := HJ.out; rw [List.length_take]; omega) ?_; intro v11 w5 ho hb hg hat; have HE2 := Aside0.mk ho; have HB2 := Aside0.mk hb; clear ho hb hg hat))
    have hj1 : wrap64 ((j : Int) + 1) = ((j + 1 : Nat) : Int) := by rw [EvKit.wrap64_id (by omega) (by omega)]; omega
    go_roundg g
    case measure => omega
    case rel => exact ⟨j + 1, by first | (rw [← hj1]; done) | rfl | (congr 1; omega), ⟨by have := HJ.out; omega⟩, ⟨by rw [HTK.out]; exact HE2.out⟩, ⟨by rw [HTK.out, List.all_append, HG.out]; simp [HGT.out]⟩, HB2⟩
theorem spec_RunBus.calls (A0 : Option Addr) (c0 : Nat) (l0 : List S66) (a1 a2 : Int) (A3 : Option Addr) (c3 : Nat) (l3 : List Int) (r1 : List S73) (r2 : List S66) (r3 : Bool) (w : World)
    (hr0 : Kd.C k66 w A0 l0.length l0) (hc0 : l0.length ≤ c0) (hr3 : Kd.C (Kd.int .i64) w A3 l3.length l3) (hc3 : l3.length ≤ c3) (h : spec_RunBus.f l0 a1 a2 l3 = some (r1, r2, r3)) :
    Calls Try.prog 25 #[.slice A0 l0.length c0, .int .i64 a1, .int .i64 a2, .slice A3 l3.length c3] w fun e w' => ∃ v0_ v1_ : Value, e = .returned (.tuple #[v0_, v1_, .bool r3]) ∧ Below w.heap.size w w' := by
  unfold spec_RunBus.f at h
  by_cases c : smallB l0 l3 = true
  · rw [if_pos c] at h
    refine sbus_walk A0 c0 l0 a1 a2 A3 c3 l3 w r3 hr0 hc0 hr3 hc3 c ?_
    have h := Option.some.inj h
    unfold runOf at h
    by_cases c2 : argsOk l0 a1 a2 l3 = true ∧ l0.all goodT = true
    · rw [if_pos c2] at h
      rw [c2.1, c2.2]
      exact congrArg (fun x => x.2.2) h
    · rw [if_neg c2] at h
      have e : (argsOk l0 a1 a2 l3 && l0.all goodT) = false := by
        cases x : argsOk l0 a1 a2 l3
        · rfl
        · cases y : l0.all goodT
          · rfl
          · exact absurd ⟨x, y⟩ c2
      rw [e]
      exact congrArg (fun x => x.2.2) h
  · rw [if_neg c] at h
    cases h
end Go.Proofs.Ytbdonoeellmeoaa.Pr
-- Written by this session's own print (wip/tools/mkmp.py) out of the translation. Lean checks it.
namespace Go.Proofs.Ytbdonoeellmeoaa.Pr
open Go.RowKit Go.Proofs.YtbdonoeellmeoaaW.PrintWords Go.Proofs.YtbdonoeellmeoaaW.PrintLast Go.Proofs.YtbdonoeellmeoaaW.PrintMore
attribute [local go_sem] max2_int min2_int max_two min_two max_three min_three max_four min_four   -- for this text's walks alone
set_option linter.unusedVariables false
set_option linter.unusedSimpArgs false

set_option maxHeartbeats 8000000 in
set_option maxRecDepth 100000 in
theorem laws_FnBus.calls (k : Nat) (A0 : Option Addr) (c0 : Nat) (l0 : List Int) (r : Bool) (w : World) (hr0 : Kd.C (Kd.int .u8) w A0 l0.length l0) (hc0 : l0.length ≤ c0) (h : laws_FnBus.f k l0 = some r) :
   Calls Try.prog 7 #[.slice A0 l0.length c0] w fun e w' => e = .returned (.bool r) ∧ Below w.heap.size w w' := by
  have HR0 := Aside0.mk hr0
  have HC0 := Aside0.mk hc0
  clear hr0 hc0
  have HB := Aside0.mk (Below.refl w.heap.size w)
  have H : (if (l0.length : Int) > 1048576 then (some true) else ((spec_DrawRunBus.f k l0).bind fun bt415 => ((impl_RunBus.f bt415.1 bt415.2.1 bt415.2.2.1 bt415.2.2.2).bind fun bt423 => ((spec_RunBus.f bt415.1 bt415.2.1 bt415.2.2.1 bt415.2.2.2).bind fun bt430 => (if (bt423.2.2 != bt430.2.2) = true then (some false) else (if bt423.2.2 = true then ((spec_BusFine.f bt415.1 bt423.1 bt423.2.1 bt415.2.2.1).bind fun t437 => (some t437)) else (some true))))))) = some r := h
  clear h
  by_cases c2 : (l0.length : Int) > 1048576
  ·rw [if_pos c2] at H
   have c2b0 : decide (1048576 < (l0.length : Int)) = true := decide_eq_true c2
   have c2b1 : decide (1048576 < l0.length) = true := decide_eq_true (by omega)
   clear c2
   obtain rfl := Option.some.inj H
   go_enter Try.func7, Try.ntmps7
   go_wp2
   go_ret
   exact ⟨er_, hb_⟩
  ·rw [if_neg c2] at H
   have c2b0 : decide (1048576 < (l0.length : Int)) = false := decide_eq_false c2
   have c2b1 : decide (1048576 < l0.length) = false := decide_eq_false (by omega)
   clear c2
   replace H := Option.bind_eq_some_iff.mp H
   obtain ⟨⟨t415, t416, t417, t418⟩, A30, H⟩ := H
   replace H : ((impl_RunBus.f t415 t416 t417 t418).bind fun bt423 => ((spec_RunBus.f t415 t416 t417 t418).bind fun bt430 => (if (bt423.2.2 != bt430.2.2) = true then (some false) else (if bt423.2.2 = true then ((spec_BusFine.f t415 bt423.1 bt423.2.1 t417).bind fun t437 => (some t437)) else (some true))))) = some r := H
   have A3 := Aside0.mk A30
   clear A30
   replace H := Option.bind_eq_some_iff.mp H
   obtain ⟨⟨t423, t424, t425⟩, A40, H⟩ := H
   replace H : ((spec_RunBus.f t415 t416 t417 t418).bind fun bt430 => (if (t425 != bt430.2.2) = true then (some false) else (if t425 = true then ((spec_BusFine.f t415 t423 t424 t417).bind fun t437 => (some t437)) else (some true)))) = some r := H
   have A4 := Aside0.mk A40
   clear A40
   replace H := Option.bind_eq_some_iff.mp H
   obtain ⟨⟨t430, t431, t432⟩, A50, H⟩ := H
   replace H : (if (t425 != t432) = true then (some false) else (if t425 = true then ((spec_BusFine.f t415 t423 t424 t417).bind fun t437 => (some t437)) else (some true))) = some r := H
   have A5 := Aside0.mk A50
   clear A50
   by_cases c6 : (t425 != t432) = true
   ·rw [if_pos c6] at H
    have c6b0 : (t425 != t432) = true := c6
    (try (have c6b1 : decide (t425 = t432) = false := by simpa using c6))
    (try (have c6b2 : (t425 == t432) = false := by simpa using c6))
    (try (have c6b3 : ¬ (t425 = t432) := by simpa using c6))
    clear c6
    obtain rfl := Option.some.inj H
    go_enter Try.func7, Try.ntmps7
    go_wp2_with (first | ((with_reducible refine gate_callee (f := 23) rfl ?_); refine goesL_ (some 18) rfl rfl Try.func23 (by kernel_rfl) rfl #[.slice A0 l0.length c0] rfl ls_ ?_; (with_reducible refine (spec_DrawRunBus.calls k _ _ l0 t415 t416 t417 t418 _ ?side1 ?side2 A3.out).mono ?_); (case side1 => repeat (first | exact HR0.out | (with_reducible refine Kd.C_alloc ?_ _) | (with_reducible refine Kd.C_drewN ?_ _) | (with_reducible refine Kd.C_drew ?_))); (case side2 => exact HC0.out); rintro e w7 ⟨v419, v421, rfl, ho0, ho1, hb⟩; refine ⟨_, rfl, ?_⟩; have n0_ := Aside0.mk (Kd.R_lower ho0 (below_size hb_)); have n1_ := Aside0.mk (Kd.R_lower ho1 (below_size hb_)); have n2_ := Aside0.mk (below_step hb_ hb); clear HB; have HO420 := n0_; have HO422 := n1_; have HB := n2_; clear n0_ n1_ n2_; (try clear hb); (try clear hb2); (try clear hk); (try clear hi); (try clear ho0); (try clear ho1); obtain ⟨Ao8, co8, eo8⟩ := Kd.R_slice HO420.out; subst eo8; obtain ⟨Ao9, co9, eo9⟩ := Kd.R_slice HO422.out; subst eo9) | ((with_reducible refine gate_callee (f := 24) rfl ?_); refine goesL_ (some 28) rfl rfl Try.func24 (by kernel_rfl) rfl #[.slice Ao8 t415.length co8, .int .i64 t416, .int .i64 t417, .slice Ao9 t418.length co9] rfl ls_ ?_; (with_reducible refine (impl_RunBus.calls _ _ t415 t416 t417 _ _ t418 t423 t424 t425 _ ?side1 ?side2 ?side3 ?side4 A4.out).mono ?_); (case side1 => exact ca_ (Kd.R_reads' HO420.out).2.2); (case side2 => exact (Kd.R_reads' HO420.out).2.1); (case side3 => exact ca_ (Kd.R_reads' HO422.out).2.2); (case side4 => exact (Kd.R_reads' HO422.out).2.1); rintro e w10 ⟨v426, v428, rfl, ho0, ho1, hb⟩; refine ⟨_, rfl, ?_⟩; have n0_ := Aside0.mk (Kd.R_below (ra_ HO420.out) hb); have n1_ := Aside0.mk (Kd.R_below (ra_ HO422.out) hb); have n2_ := Aside0.mk (Kd.R_lower ho0 (below_size hb_)); have n3_ := Aside0.mk (Kd.N_lower ho1 (below_size hb_)); have n4_ := Aside0.mk (below_step hb_ hb); clear HO420; clear HO422; clear HB; have HO420 := n0_; have HO422 := n1_; have HO427 := n2_; have HO429 := n3_; have HB := n4_; clear n0_ n1_ n2_ n3_ n4_; (try clear hb); (try clear hb2); (try clear hk); (try clear hi); (try clear ho0); (try clear ho1)) | ((with_reducible refine gate_callee (f := 25) rfl ?_); refine goesL_ (some 37) rfl rfl Try.func25 (by kernel_rfl) rfl #[.slice Ao8 t415.length co8, .int .i64 t416, .int .i64 t417, .slice Ao9 t418.length co9] rfl ls_ ?_; (with_reducible refine (spec_RunBus.calls _ _ t415 t416 t417 _ _ t418 t430 t431 t432 _ ?side1 ?side2 ?side3 ?side4 A5.out).mono ?_); (case side1 => exact ca_ (Kd.R_reads' HO420.out).2.2); (case side2 => exact (Kd.R_reads' HO420.out).2.1); (case side3 => exact ca_ (Kd.R_reads' HO422.out).2.2); (case side4 => exact (Kd.R_reads' HO422.out).2.1); rintro e w11 ⟨v433, v435, rfl, hb⟩; refine ⟨_, rfl, ?_⟩; have n0_ := Aside0.mk (Kd.R_below (ra_ HO420.out) hb); have n1_ := Aside0.mk (Kd.R_below (ra_ HO422.out) hb); have n2_ := Aside0.mk (Kd.R_below (ra_ HO427.out) hb); have n3_ := Aside0.mk (Kd.N_below (by repeat (first | exact HO429.out | apply Kd.N_drewN | apply Kd.N_drew)) hb); have n6_ := Aside0.mk (below_step hb_ hb); clear HO420; clear HO422; clear HO427; clear HO429; clear HB; have HO420 := n0_; have HO422 := n1_; have HO427 := n2_; have HO429 := n3_; have HB := n6_; clear n0_ n1_ n2_ n3_ n6_; (try clear hb); (try clear hb2); (try clear hk); (try clear hi); (try clear ho0); (try clear ho1)))
    go_ret
    exact ⟨er_, hb_⟩
   ·rw [if_neg c6] at H
    have c6b0 : (t425 != t432) = false := by simpa using c6
    (try (have c6b1 : decide (t425 = t432) = true := by simpa using c6))
    (try (have c6b2 : (t425 == t432) = true := by simpa using c6))
    clear c6
    by_cases c12 : t425 = true
    ·subst c12
     rw [if_pos rfl] at H
     replace H := Option.bind_eq_some_iff.mp H
     obtain ⟨t437, A130, H⟩ := H
     replace H : (some t437) = some r := H
     have A13 := Aside0.mk A130
     clear A130
     obtain rfl := Option.some.inj H
     go_enter Try.func7, Try.ntmps7
     go_wp2_with (first | ((with_reducible refine gate_callee (f := 23) rfl ?_); refine goesL_ (some 18) rfl rfl Try.func23 (by kernel_rfl) rfl #[.slice A0 l0.length c0] rfl ls_ ?_; (with_reducible refine (spec_DrawRunBus.calls k _ _ l0 t415 t416 t417 t418 _ ?side1 ?side2 A3.out).mono ?_); (case side1 => repeat (first | exact HR0.out | (with_reducible refine Kd.C_alloc ?_ _) | (with_reducible refine Kd.C_drewN ?_ _) | (with_reducible refine Kd.C_drew ?_))); (case side2 => exact HC0.out); rintro e w14 ⟨v419, v421, rfl, ho0, ho1, hb⟩; refine ⟨_, rfl, ?_⟩; have n0_ := Aside0.mk (Kd.R_lower ho0 (below_size hb_)); have n1_ := Aside0.mk (Kd.R_lower ho1 (below_size hb_)); have n2_ := Aside0.mk (below_step hb_ hb); clear HB; have HO420 := n0_; have HO422 := n1_; have HB := n2_; clear n0_ n1_ n2_; (try clear hb); (try clear hb2); (try clear hk); (try clear hi); (try clear ho0); (try clear ho1); obtain ⟨Ao15, co15, eo15⟩ := Kd.R_slice HO420.out; subst eo15; obtain ⟨Ao16, co16, eo16⟩ := Kd.R_slice HO422.out; subst eo16) | ((with_reducible refine gate_callee (f := 24) rfl ?_); refine goesL_ (some 28) rfl rfl Try.func24 (by kernel_rfl) rfl #[.slice Ao15 t415.length co15, .int .i64 t416, .int .i64 t417, .slice Ao16 t418.length co16] rfl ls_ ?_; (with_reducible refine (impl_RunBus.calls _ _ t415 t416 t417 _ _ t418 t423 t424 true _ ?side1 ?side2 ?side3 ?side4 A4.out).mono ?_); (case side1 => exact ca_ (Kd.R_reads' HO420.out).2.2); (case side2 => exact (Kd.R_reads' HO420.out).2.1); (case side3 => exact ca_ (Kd.R_reads' HO422.out).2.2); (case side4 => exact (Kd.R_reads' HO422.out).2.1); rintro e w17 ⟨v426, v428, rfl, ho0, ho1, hb⟩; refine ⟨_, rfl, ?_⟩; have n0_ := Aside0.mk (Kd.R_below (ra_ HO420.out) hb); have n1_ := Aside0.mk (Kd.R_below (ra_ HO422.out) hb); have n2_ := Aside0.mk (Kd.R_lower ho0 (below_size hb_)); have n3_ := Aside0.mk (Kd.N_lower ho1 (below_size hb_)); have n4_ := Aside0.mk (below_step hb_ hb); clear HO420; clear HO422; clear HB; have HO420 := n0_; have HO422 := n1_; have HO427 := n2_; have HO429 := n3_; have HB := n4_; clear n0_ n1_ n2_ n3_ n4_; (try clear hb); (try clear hb2); (try clear hk); (try clear hi); (try clear ho0); (try clear ho1)) | ((with_reducible refine gate_callee (f := 25) rfl ?_); refine goesL_ (some 37) rfl rfl Try.func25 (by kernel_rfl) rfl #[.slice Ao15 t415.length co15, .int .i64 t416, .int .i64 t417, .slice Ao16 t418.length co16] rfl ls_ ?_; (with_reducible refine (spec_RunBus.calls _ _ t415 t416 t417 _ _ t418 t430 t431 t432 _ ?side1 ?side2 ?side3 ?side4 A5.out).mono ?_); (case side1 => exact ca_ (Kd.R_reads' HO420.out).2.2); (case side2 => exact (Kd.R_reads' HO420.out).2.1); (case side3 => exact ca_ (Kd.R_reads' HO422.out).2.2); (case side4 => exact (Kd.R_reads' HO422.out).2.1); rintro e w18 ⟨v433, v435, rfl, hb⟩; refine ⟨_, rfl, ?_⟩; have n0_ := Aside0.mk (Kd.R_below (ra_ HO420.out) hb); have n1_ := Aside0.mk (Kd.R_below (ra_ HO422.out) hb); have n2_ := Aside0.mk (Kd.R_below (ra_ HO427.out) hb); have n3_ := Aside0.mk (Kd.N_below (by repeat (first | exact HO429.out | apply Kd.N_drewN | apply Kd.N_drew)) hb); have n6_ := Aside0.mk (below_step hb_ hb); clear HO420; clear HO422; clear HO427; clear HO429; clear HB; have HO420 := n0_; have HO422 := n1_; have HO427 := n2_; have HO429 := n3_; have HB := n6_; clear n0_ n1_ n2_ n3_ n6_; (try clear hb); (try clear hb2); (try clear hk); (try clear hi); (try clear ho0); (try clear ho1); obtain ⟨Ao19, co19, eo19⟩ := Kd.R_slice HO427.out; subst eo19; obtain ⟨Ao20, co20, eo20⟩ := Kd.N_slice HO429.out; subst eo20) | (go_at_call 26; (with_reducible refine (spec_BusFine.calls _ _ t415 _ _ t423 _ _ t424 t417 t437 _ ?side1 ?side2 ?side3 ?side4 ?side5 ?side6 A13.out).mono ?_); (case side1 => exact ca_ (Kd.R_reads' HO420.out).2.2); (case side2 => exact (Kd.R_reads' HO420.out).2.1); (case side3 => exact ca_ (Kd.R_reads' HO427.out).2.2); (case side4 => exact (Kd.R_reads' HO427.out).2.1); (case side5 => exact ca_ (Kd.N_reads' HO429.out).2.2); (case side6 => exact (Kd.N_reads' HO429.out).2.1); rintro e w21 ⟨rfl, hb⟩; have n6_ := Aside0.mk (below_step hb_ hb); clear HO420; clear HO422; clear HO427; clear HO429; clear HB; have HB := n6_; clear n6_; (try clear hb); (try clear hb2); (try clear hk); (try clear hi)))
     go_ret
     exact ⟨er_, hb_⟩
    ·replace c12 := Bool.eq_false_iff.mpr c12
     subst c12
     rw [if_neg (show ¬ (false = true) by decide)] at H
     obtain rfl := Option.some.inj H
     go_enter Try.func7, Try.ntmps7
     go_wp2_with (first | ((with_reducible refine gate_callee (f := 23) rfl ?_); refine goesL_ (some 18) rfl rfl Try.func23 (by kernel_rfl) rfl #[.slice A0 l0.length c0] rfl ls_ ?_; (with_reducible refine (spec_DrawRunBus.calls k _ _ l0 t415 t416 t417 t418 _ ?side1 ?side2 A3.out).mono ?_); (case side1 => repeat (first | exact HR0.out | (with_reducible refine Kd.C_alloc ?_ _) | (with_reducible refine Kd.C_drewN ?_ _) | (with_reducible refine Kd.C_drew ?_))); (case side2 => exact HC0.out); rintro e w22 ⟨v419, v421, rfl, ho0, ho1, hb⟩; refine ⟨_, rfl, ?_⟩; have n0_ := Aside0.mk (Kd.R_lower ho0 (below_size hb_)); have n1_ := Aside0.mk (Kd.R_lower ho1 (below_size hb_)); have n2_ := Aside0.mk (below_step hb_ hb); clear HB; have HO420 := n0_; have HO422 := n1_; have HB := n2_; clear n0_ n1_ n2_; (try clear hb); (try clear hb2); (try clear hk); (try clear hi); (try clear ho0); (try clear ho1); obtain ⟨Ao23, co23, eo23⟩ := Kd.R_slice HO420.out; subst eo23; obtain ⟨Ao24, co24, eo24⟩ := Kd.R_slice HO422.out; subst eo24) | ((with_reducible refine gate_callee (f := 24) rfl ?_); refine goesL_ (some 28) rfl rfl Try.func24 (by kernel_rfl) rfl #[.slice Ao23 t415.length co23, .int .i64 t416, .int .i64 t417, .slice Ao24 t418.length co24] rfl ls_ ?_; (with_reducible refine (impl_RunBus.calls _ _ t415 t416 t417 _ _ t418 t423 t424 false _ ?side1 ?side2 ?side3 ?side4 A4.out).mono ?_); (case side1 => exact ca_ (Kd.R_reads' HO420.out).2.2); (case side2 => exact (Kd.R_reads' HO420.out).2.1); (case side3 => exact ca_ (Kd.R_reads' HO422.out).2.2); (case side4 => exact (Kd.R_reads' HO422.out).2.1); rintro e w25 ⟨v426, v428, rfl, ho0, ho1, hb⟩; refine ⟨_, rfl, ?_⟩; have n0_ := Aside0.mk (Kd.R_below (ra_ HO420.out) hb); have n1_ := Aside0.mk (Kd.R_below (ra_ HO422.out) hb); have n2_ := Aside0.mk (Kd.R_lower ho0 (below_size hb_)); have n3_ := Aside0.mk (Kd.N_lower ho1 (below_size hb_)); have n4_ := Aside0.mk (below_step hb_ hb); clear HO420; clear HO422; clear HB; have HO420 := n0_; have HO422 := n1_; have HO427 := n2_; have HO429 := n3_; have HB := n4_; clear n0_ n1_ n2_ n3_ n4_; (try clear hb); (try clear hb2); (try clear hk); (try clear hi); (try clear ho0); (try clear ho1)) | ((with_reducible refine gate_callee (f := 25) rfl ?_); refine goesL_ (some 37) rfl rfl Try.func25 (by kernel_rfl) rfl #[.slice Ao23 t415.length co23, .int .i64 t416, .int .i64 t417, .slice Ao24 t418.length co24] rfl ls_ ?_; (with_reducible refine (spec_RunBus.calls _ _ t415 t416 t417 _ _ t418 t430 t431 t432 _ ?side1 ?side2 ?side3 ?side4 A5.out).mono ?_); (case side1 => exact ca_ (Kd.R_reads' HO420.out).2.2); (case side2 => exact (Kd.R_reads' HO420.out).2.1); (case side3 => exact ca_ (Kd.R_reads' HO422.out).2.2); (case side4 => exact (Kd.R_reads' HO422.out).2.1); rintro e w26 ⟨v433, v435, rfl, hb⟩; refine ⟨_, rfl, ?_⟩; have n0_ := Aside0.mk (Kd.R_below (ra_ HO420.out) hb); have n1_ := Aside0.mk (Kd.R_below (ra_ HO422.out) hb); have n2_ := Aside0.mk (Kd.R_below (ra_ HO427.out) hb); have n3_ := Aside0.mk (Kd.N_below (by repeat (first | exact HO429.out | apply Kd.N_drewN | apply Kd.N_drew)) hb); have n6_ := Aside0.mk (below_step hb_ hb); clear HO420; clear HO422; clear HO427; clear HO429; clear HB; have HO420 := n0_; have HO422 := n1_; have HO427 := n2_; have HO429 := n3_; have HB := n6_; clear n0_ n1_ n2_ n3_ n6_; (try clear hb); (try clear hb2); (try clear hk); (try clear hi); (try clear ho0); (try clear ho1)))
     go_ret
     exact ⟨er_, hb_⟩

end Go.Proofs.Ytbdonoeellmeoaa.Pr
/-
Own text: drawn talkers are small.
-/
namespace Go.Proofs.Ytbdonoeellmeoaa.Pure
open Go.RowKit Go.Proofs.YtbdonoeellmeoaaW.PrintWords Go.Proofs.YtbdonoeellmeoaaW.PrintLast Go.Proofs.Ytbdonoeellmeoaa.Pr Go.Proofs.Ytbdonoeellmeoaa.EvKit Go.Proofs.Ytbdonoeellmeoaa.Bus
open Classical
set_option linter.unusedVariables false
theorem dec_w (d : Nat) (h : d ≤ 1000000) : wrap64 (((d + 1 : Nat) : Int) - 1) = (d : Int) := by rw [wrap64_id (by omega) (by omega)]; omega
theorem bytes_l0 {c : List Int} (hc : Code c) (d : Nat) : ∀ (l : List Int) (a s : Int), l.length + d ≤ 1000 → 0 ≤ a → a + d ≤ 1000000 →
    ∃ r a' s', Ev (fun k => spec_l1Cur_bytes.l0 k l (d : Int) c a s) (r, a', s') ∧ a ≤ a' ∧ a' ≤ a + d ∧ r.length ≤ l.length + d := by
  induction d with
  | zero =>
    intro l a s hl h0 h1
    refine ⟨l, a, s, Ev.succ ?_, by omega, by omega, by omega⟩
    simp only [spec_l1Cur_bytes.l0]
    exact Ev.neg (by decide) (Ev.some rfl)
  | succ d ih =>
    intro l a s hl h0 h1
    obtain ⟨b, s1, e1, _⟩ := next_ok hc a s h0 (by omega)
    obtain ⟨r, a', s', h, q1, q2, q3⟩ := ih (l ++ [b % 256]) (a + 1) s1 (by simp; omega) (by omega) (by omega)
    refine ⟨r, a', s', Ev.succ ?_, by omega, by omega, by simp at q3; omega⟩
    simp only [spec_l1Cur_bytes.l0]
    refine Ev.pos (by omega) (Ev.bnd0 e1 (Ev.pos (by omega) ?_))
    rw [dec_w d (by omega)]
    exact h
theorem bytes_ok {c : List Int} (hc : Code c) (a s : Int) (n : Nat) (hn : n ≤ 100) (h0 : 0 ≤ a) (h1 : a ≤ 900000) :
    ∃ r a' s', Ev (fun k => spec_l1Cur_bytes.f k c a s (n : Int)) (r, a', s') ∧ a ≤ a' ∧ a' ≤ a + 2 + n ∧ r.length ≤ n := by
  have hw : wrap64 ((n : Int) + 1) = ((n + 1 : Nat) : Int) := by rw [wrap64_id (by omega) (by omega)]; omega
  obtain ⟨v, a1, s1, e1, p1, p2, p3, p4, p5⟩ := pick_ok hc a s ((n + 1 : Nat) : Int) h0 (by omega)
  have hv : v ≤ n := by
    by_cases h : (1 : Int) < ((n + 1 : Nat) : Int)
    · have := p4 h; omega
    · have := p5 (by omega); omega
  obtain ⟨r, a', s', h, q1, q2, q3⟩ := bytes_l0 hc v.toNat [] a1 s1 (by simp; omega) (by omega) (by omega)
  rw [Int.toNat_of_nonneg p3] at h
  refine ⟨r, a', s', ?_, by omega, by omega, by simp at q3; omega⟩
  unfold spec_l1Cur_bytes.f
  rw [hw]
  exact Ev.bnd0 e1 h
theorem frame_ok {c : List Int} (hc : Code c) (a s : Int) (h0 : 0 ≤ a) (h1 : a ≤ 800000) :
    ∃ i l a' s', Ev (fun k => spec_l1Cur_frame.f k c a s) (i, l, a', s') ∧ a ≤ a' ∧ a' ≤ a + 30 ∧ l.length ≤ 20 := by
  obtain ⟨v, a1, s1, e1, p1, p2, p3, p4, _⟩ := pick_ok hc a s 40 h0 (by omega)
  obtain ⟨l, a2, s2, e2, q1, q2, q3⟩ := bytes_ok hc a1 s1 4 (by omega) (by omega) (by omega)
  obtain ⟨u, a3, s3, e3, r1, r2, r3, r4, _⟩ := pick_ok hc a2 s2 12 (by omega) (by omega)
  unfold spec_l1Cur_frame.f
  by_cases c0 : u = 0
  · obtain ⟨x, a4, s4, e4, t1, t2, _⟩ := among_ok hc a3 s3 [(-1), 0, 2047, 2048] (by simp) (by omega) (by omega)
    exact ⟨x, l, a4, s4, Ev.bnd0 e1 (Ev.bnd e2 (Ev.bnd0 e3 (Ev.pos c0 (Ev.bnd0 e4 (Ev.some rfl))))), by omega, by omega, by omega⟩
  · by_cases c1 : u = 1
    · obtain ⟨l2, a4, s4, e4, t1, t2, t3⟩ := bytes_ok hc a3 s3 9 (by omega) (by omega) (by omega)
      exact ⟨v, l2, a4, s4, Ev.bnd0 e1 (Ev.bnd e2 (Ev.bnd0 e3 (Ev.neg c0 (Ev.pos c1 (Ev.bnd e4 (Ev.some rfl)))))), by omega, by omega, by omega⟩
    · by_cases c2 : u = 2
      · obtain ⟨x, a4, s4, e4, t1, t2, _⟩ := pick_ok hc a3 s3 2048 (by omega) (by omega)
        exact ⟨x, l, a4, s4, Ev.bnd0 e1 (Ev.bnd e2 (Ev.bnd0 e3 (Ev.neg c0 (Ev.neg c1 (Ev.pos c2 (Ev.bnd0 e4 (Ev.some rfl))))))), by omega, by omega, by omega⟩
      · by_cases c3 : u = 3
        · obtain ⟨x, a4, s4, e4, t1, t2, t3, t4, _⟩ := pick_ok hc a3 s3 9 (by omega) (by omega)
          have := t4 (by omega)
          exact ⟨v, List.replicate x.toNat 0, a4, s4, Ev.bnd0 e1 (Ev.bnd e2 (Ev.bnd0 e3 (Ev.neg c0 (Ev.neg c1 (Ev.neg c2 (Ev.pos c3 (Ev.bnd0 e4 (Ev.pos t3 (Ev.pos (by omega) (Ev.some rfl)))))))))), by omega, by omega, by simp; omega⟩
        · exact ⟨v, l, a3, s3, Ev.bnd0 e1 (Ev.bnd e2 (Ev.bnd0 e3 (Ev.neg c0 (Ev.neg c1 (Ev.neg c2 (Ev.neg c3 (Ev.some rfl))))))), by omega, by omega, by omega⟩
/-! The talkers -/
def SmT (l : List S66) : Prop := l.all smallT = true
theorem SmT.snoc {l : List S66} {t : S66} (h : SmT l) (ht : smallT t = true) : SmT (l ++ [t]) := by unfold SmT at h ⊢; simp [h, ht]
def Qs (q : List S27) (m : Nat) : Prop := q.length ≤ m ∧ q.all smallF = true
theorem Qs.snoc {q : List S27} {m : Nat} (h : Qs q m) {f : S27} (hf : f.f1.length ≤ 20) : Qs (q ++ [f]) (m + 1) := by
  refine ⟨by have := h.1; simp; omega, ?_⟩
  have h1 : smallF f = true := decide_eq_true (by omega)
  have h2 := h.2
  simp only [List.all_append, h2, List.all_cons, h1, List.all_nil, Bool.and_self]
theorem Qs.small {q : List S27} {m : Nat} (h : Qs q m) (hm : m ≤ 1000) (x y : Int) (b : Bool) : smallT ⟨q, x, y, b⟩ = true := by
  unfold smallT
  have h1 := h.1
  show (decide (q.length ≤ 1048576) && q.all smallF) = true
  rw [decide_eq_true (by omega), h.2]
  rfl
abbrev DR := List S66 × Int × Int × List Int
def DOk (l : List S66) (n : Nat) (r : DR) : Prop := SmT r.1 ∧ r.1.length ≤ n ∧ r.2.2.2.length ≤ 10
theorem draw_l2 {c : List Int} (hc : Code c) (x7 : List S66) (h7 : SmT x7) (x12 : Int) (d : Nat) : ∀ (l : List Int) (a s : Int), l.length + d ≤ 10 → 0 ≤ a → a + 2 * d ≤ 900000 →
    ∃ r, Ev (fun k => spec_DrawRunBus.l2 k x7 x12 l (d : Int) c a s) r ∧ DOk x7 x7.length r := by
  induction d with
  | zero =>
    intro l a s hl h0 h1
    obtain ⟨v, a1, s1, e1, _⟩ := pick_ok hc a s 8 h0 (by omega)
    refine ⟨(x7, x12, wrap64 (1 + v), l), Ev.succ ?_, h7, Nat.le_refl _, by show l.length ≤ 10; omega⟩
    simp only [spec_DrawRunBus.l2]
    exact Ev.neg (by decide) (Ev.bnd0 e1 (Ev.some rfl))
  | succ d ih =>
    intro l a s hl h0 h1
    obtain ⟨v, a1, s1, e1, p1, p2, _⟩ := pick_ok hc a s 16 h0 (by omega)
    obtain ⟨r, h, hr⟩ := ih (l ++ [v]) a1 s1 (by simp; omega) (by omega) (by omega)
    refine ⟨r, Ev.succ ?_, hr⟩
    simp only [spec_DrawRunBus.l2]
    refine Ev.pos (by omega) (Ev.bnd0 e1 (Ev.pos (by omega) ?_))
    rw [dec_w d (by omega)]
    exact h
theorem draw_j3 {c : List Int} (hc : Code c) (x7 : List S66) (h7 : SmT x7) (x12 a s : Int) (h0 : 0 ≤ a) (h1 : a ≤ 800000) : ∃ r, Ev (fun k => spec_DrawRunBus.j3 k x7 x12 c a s) r ∧ DOk x7 x7.length r := by
  obtain ⟨v, a1, s1, e1, p1, p2, p3, p4, _⟩ := pick_ok hc a s 6 h0 (by omega)
  have := p4 (by omega)
  obtain ⟨r, h, hr⟩ := draw_l2 hc x7 h7 x12 v.toNat [] a1 s1 (by simp; omega) (by omega) (by omega)
  rw [Int.toNat_of_nonneg p3] at h
  refine ⟨r, Ev.succ ?_, hr⟩
  simp only [spec_DrawRunBus.j3]
  exact Ev.bnd0 e1 h
theorem draw_l1 {c : List Int} (hc : Code c) (x7 : List S66) (hx7 : x7.length ≤ 1000) (x8 : Int) (P : DR → Prop) (top : Int) (htop : top ≤ 700000)
    (H : ∀ (t : S66) (a s : Int), smallT t = true → 0 ≤ a → a ≤ top → ∃ r, Ev (fun k => spec_DrawRunBus.l0 k (x7 ++ [t]) (wrap64 (x8 - 1)) c a s) r ∧ P r) (y z : Int) (b : Bool) (d : Nat) :
    ∀ (q : List S27) (m : Nat) (a s : Int), Qs q m → m + d ≤ 100 → 0 ≤ a → a + 40 * d + 10 ≤ top → ∃ r, Ev (fun k => spec_DrawRunBus.l1 k x7 x8 (d : Int) c a s q y z b) r ∧ P r := by
  induction d with
  | zero =>
    intro q m a s hq hm h0 h1
    obtain ⟨v, a1, s1, e1, p1, p2, p3, p4, _⟩ := pick_ok hc a s 12 h0 (by omega)
    have sm (u w : Int) (b' : Bool) : smallT ⟨q, u, w, b'⟩ = true := hq.small (by omega) u w b'
    by_cases c0 : v = 0
    · obtain ⟨v2, a2, s2, e2, q1, q2, _⟩ := pick_ok hc a1 s1 15 (by omega) (by omega)
      obtain ⟨b2, a3, s3, e3, r1, r2⟩ := one_ok hc a2 s2 60 (by omega) (by omega)
      cases b2 with
      | true =>
        obtain ⟨r, h, hr⟩ := H ⟨q, y, wrap64 (240 + v2), !b⟩ a3 s3 (sm _ _ _) (by omega) (by omega)
        refine ⟨r, Ev.succ ?_, hr⟩
        simp only [spec_DrawRunBus.l1]
        exact Ev.neg (by decide) (Ev.bnd0 e1 (Ev.pos c0 (Ev.bnd0 e2 (Ev.bnd0 e3 (Ev.pos rfl (Ev.pos (by omega) h))))))
      | false =>
        obtain ⟨r, h, hr⟩ := H ⟨q, y, wrap64 (240 + v2), b⟩ a3 s3 (sm _ _ _) (by omega) (by omega)
        refine ⟨r, Ev.succ ?_, hr⟩
        simp only [spec_DrawRunBus.l1]
        exact Ev.neg (by decide) (Ev.bnd0 e1 (Ev.pos c0 (Ev.bnd0 e2 (Ev.bnd0 e3 (Ev.neg (by simp) (Ev.pos (by omega) h))))))
    · by_cases c1 : v = 1
      · obtain ⟨b2, a3, s3, e3, r1, r2⟩ := one_ok hc a1 s1 60 (by omega) (by omega)
        cases b2 with
        | true =>
          obtain ⟨r, h, hr⟩ := H ⟨q, y, 255, !true⟩ a3 s3 (sm _ _ _) (by omega) (by omega)
          refine ⟨r, Ev.succ ?_, hr⟩
          simp only [spec_DrawRunBus.l1]
          exact Ev.neg (by decide) (Ev.bnd0 e1 (Ev.neg c0 (Ev.pos c1 (Ev.bnd0 e3 (Ev.pos rfl (Ev.pos (by omega) h))))))
        | false =>
          obtain ⟨r, h, hr⟩ := H ⟨q, y, 255, true⟩ a3 s3 (sm _ _ _) (by omega) (by omega)
          refine ⟨r, Ev.succ ?_, hr⟩
          simp only [spec_DrawRunBus.l1]
          exact Ev.neg (by decide) (Ev.bnd0 e1 (Ev.neg c0 (Ev.pos c1 (Ev.bnd0 e3 (Ev.neg (by simp) (Ev.pos (by omega) h))))))
      · obtain ⟨b2, a3, s3, e3, r1, r2⟩ := one_ok hc a1 s1 60 (by omega) (by omega)
        cases b2 with
        | true =>
          obtain ⟨r, h, hr⟩ := H ⟨q, y, z, !b⟩ a3 s3 (sm _ _ _) (by omega) (by omega)
          refine ⟨r, Ev.succ ?_, hr⟩
          simp only [spec_DrawRunBus.l1]
          exact Ev.neg (by decide) (Ev.bnd0 e1 (Ev.neg c0 (Ev.neg c1 (Ev.bnd0 e3 (Ev.pos rfl (Ev.pos (by omega) h))))))
        | false =>
          obtain ⟨r, h, hr⟩ := H ⟨q, y, z, b⟩ a3 s3 (sm _ _ _) (by omega) (by omega)
          refine ⟨r, Ev.succ ?_, hr⟩
          simp only [spec_DrawRunBus.l1]
          exact Ev.neg (by decide) (Ev.bnd0 e1 (Ev.neg c0 (Ev.neg c1 (Ev.bnd0 e3 (Ev.neg (by simp) (Ev.pos (by omega) h))))))
  | succ d ih =>
    intro q m a s hq hm h0 h1
    obtain ⟨i, a1, s1, e1, p1, p2, _⟩ := pick_ok hc a s 9 h0 (by omega)
    obtain ⟨l, a2, s2, e2, q1, q2, q3⟩ := bytes_ok hc a1 s1 2 (by omega) (by omega) (by omega)
    obtain ⟨b2, a3, s3, e3, r1, r2⟩ := one_ok hc a2 s2 60 (by omega) (by omega)
    have hql := hq.1
    cases b2 with
    | true =>
      obtain ⟨i', l', a4, s4, e4, t1, t2, t3⟩ := frame_ok hc a3 s3 (by omega) (by omega)
      obtain ⟨r, h, hr⟩ := ih (q ++ [⟨i', l'⟩]) (m + 1) a4 s4 (hq.snoc t3) (by omega) (by omega) (by omega)
      refine ⟨r, Ev.succ ?_, hr⟩
      simp only [spec_DrawRunBus.l1]
      refine Ev.pos (by omega) (Ev.bnd0 e1 (Ev.bnd e2 (Ev.bnd0 e3 (Ev.pos rfl (Ev.bnd e4 (Ev.pos (by omega) ?_))))))
      rw [dec_w d (by omega)]
      exact h
    | false =>
      obtain ⟨r, h, hr⟩ := ih (q ++ [⟨i, l⟩]) (m + 1) a3 s3 (hq.snoc (by show l.length ≤ 20; omega)) (by omega) (by omega) (by omega)
      refine ⟨r, Ev.succ ?_, hr⟩
      simp only [spec_DrawRunBus.l1]
      refine Ev.pos (by omega) (Ev.bnd0 e1 (Ev.bnd e2 (Ev.bnd0 e3 (Ev.neg (by simp) (Ev.pos (by omega) ?_)))))
      rw [dec_w d (by omega)]
      exact h
theorem draw_l0 {c : List Int} (hc : Code c) (d : Nat) : ∀ (x7 : List S66) (a s : Int), SmT x7 → x7.length + d ≤ 100 → 0 ≤ a → a + 300 * d ≤ 100000 →
    ∃ r, Ev (fun k => spec_DrawRunBus.l0 k x7 (d : Int) c a s) r ∧ SmT r.1 ∧ r.1.length ≤ x7.length + d ∧ r.2.2.2.length ≤ 10 := by
  induction d with
  | zero =>
    intro x7 a s h7 hl h0 h1
    obtain ⟨v, a1, s1, e1, p1, p2, _⟩ := pick_ok hc a s 16 h0 (by omega)
    obtain ⟨b2, a2, s2, e2, r1, r2⟩ := one_ok hc a1 s1 16 (by omega) (by omega)
    cases b2 with
    | true =>
      obtain ⟨x, a4, s4, e4, t1, t2, _⟩ := among_ok hc a2 s2 [(-1), 40, 41] (by simp) (by omega) (by omega)
      obtain ⟨r, h, hr⟩ := draw_j3 hc x7 h7 x a4 s4 (by omega) (by omega)
      refine ⟨r, Ev.succ ?_, hr.1, hr.2.1, hr.2.2⟩
      simp only [spec_DrawRunBus.l0]
      exact Ev.neg (by decide) (Ev.bnd0 e1 (Ev.bnd0 e2 (Ev.pos rfl (Ev.bnd0 e4 h))))
    | false =>
      obtain ⟨r, h, hr⟩ := draw_j3 hc x7 h7 v a2 s2 (by omega) (by omega)
      refine ⟨r, Ev.succ ?_, hr.1, hr.2.1, hr.2.2⟩
      simp only [spec_DrawRunBus.l0]
      exact Ev.neg (by decide) (Ev.bnd0 e1 (Ev.bnd0 e2 (Ev.neg (by simp) h)))
  | succ d ih =>
    intro x7 a s h7 hl h0 h1
    obtain ⟨v, a1, s1, e1, p1, p2, _⟩ := pick_ok hc a s 3 h0 (by omega)
    obtain ⟨v2, a2, s2, e2, q1, q2, _⟩ := pick_ok hc a1 s1 20 (by omega) (by omega)
    obtain ⟨v3, a3, s3, e3, r1, r2, r3, r4, _⟩ := pick_ok hc a2 s2 5 (by omega) (by omega)
    have := r4 (by omega)
    obtain ⟨r, h, hr⟩ := draw_l1 hc x7 (by omega) ((d + 1 : Nat) : Int) (fun r => SmT r.1 ∧ r.1.length ≤ x7.length + (d + 1) ∧ r.2.2.2.length ≤ 10) (a + 300) (by omega)
      (fun t a' s' ht g0 g1 => by
        rw [dec_w d (by omega)]
        obtain ⟨r, h, k1, k2, k3⟩ := ih (x7 ++ [t]) a' s' (h7.snoc ht) (by simp; omega) g0 (by omega)
        exact ⟨r, h, k1, by simp at k2; omega, k3⟩) (wrap64 (1 + v)) v2 false v3.toNat [] 0 a3 s3 ⟨Nat.le_refl _, rfl⟩ (by omega) (by omega) (by omega)
    rw [Int.toNat_of_nonneg r3] at h
    refine ⟨r, Ev.succ ?_, hr⟩
    simp only [spec_DrawRunBus.l0]
    exact Ev.pos (by omega) (Ev.bnd0 e1 (Ev.bnd0 e2 (Ev.bnd0 e3 h)))
theorem draw_ok {c : List Int} (hc : Code c) : ∃ r : DR, Ev (fun k => spec_DrawRunBus.f k c) r ∧ smallB r.1 r.2.2.2 = true := by
  have fin (r : DR) (n : Nat) (hn : n ≤ 100) (h : SmT r.1 ∧ r.1.length ≤ n ∧ r.2.2.2.length ≤ 10) : smallB r.1 r.2.2.2 = true := by
    obtain ⟨h1, h2, h3⟩ := h
    unfold smallB
    rw [decide_eq_true (by omega), decide_eq_true (by omega), h1]
    rfl
  obtain ⟨v, a1, s1, e1, p1, p2, p3, p4, _⟩ := pick_ok hc 0 0 4 (by omega) (by omega)
  have := p4 (by omega)
  obtain ⟨b2, a2, s2, e2, r1, r2⟩ := one_ok hc a1 s1 16 (by omega) (by omega)
  have st (n : Int) (a s : Int) (h0 : 0 ≤ n) (h1 : n ≤ 20) (g0 : 0 ≤ a) (g1 : a ≤ 100) : ∃ r : DR, Ev (fun k => spec_DrawRunBus.j0 k ([] : List S66) n c a s) r ∧ smallB r.1 r.2.2.2 = true := by
    obtain ⟨r, h, hr⟩ := draw_l0 hc n.toNat [] a s rfl (by simp; omega) g0 (by omega)
    rw [Int.toNat_of_nonneg h0] at h
    refine ⟨r, Ev.succ ?_, fin r (0 + n.toNat) (by omega) (by simpa using hr)⟩
    simp only [spec_DrawRunBus.j0]
    exact h
  unfold spec_DrawRunBus.f
  cases b2 with
  | true =>
    obtain ⟨v2, a3, s3, e3, q1, q2, q3, q4, _⟩ := pick_ok hc a2 s2 3 (by omega) (by omega)
    have := q4 (by omega)
    obtain ⟨r, h, hr⟩ := st (wrap64 (5 + v2)) a3 s3 (by rw [wrap64_id (by omega) (by omega)]; omega) (by rw [wrap64_id (by omega) (by omega)]; omega) (by omega) (by omega)
    exact ⟨r, Ev.bnd0 e1 (Ev.bnd0 e2 (Ev.pos rfl (Ev.bnd0 e3 h))), hr⟩
  | false =>
    obtain ⟨r, h, hr⟩ := st v a2 s2 (by omega) (by omega) (by omega) (by omega)
    exact ⟨r, Ev.bnd0 e1 (Ev.bnd0 e2 (Ev.neg (by simp) h)), hr⟩
end Go.Proofs.Ytbdonoeellmeoaa.Pure
/- THE LAW FnBus, as a statement over numbers and lists: proved here. No condition. -/
namespace Go.Proofs.Ytbdonoeellmeoaa.Pure
open Go.RowKit Go.Proofs.YtbdonoeellmeoaaW.PrintWords Go.Proofs.YtbdonoeellmeoaaW.PrintLast Go.Proofs.Ytbdonoeellmeoaa.Pr Go.Proofs.Ytbdonoeellmeoaa.EvKit Go.Proofs.Ytbdonoeellmeoaa.Bus
open Classical
set_option linter.unusedVariables false
theorem least_mem : ∀ xs : List Int, xs ≠ [] → ∃ x ∈ xs, ∀ y ∈ xs, x ≤ y
  | [], h => absurd rfl h
  | [a], _ => ⟨a, List.mem_singleton.2 rfl, fun y hy => by rw [List.mem_singleton.1 hy]; exact Int.le_refl _⟩
  | a :: b :: r, _ => by
    obtain ⟨x, h1, h2⟩ := least_mem (b :: r) (by simp)
    by_cases c : a ≤ x
    · refine ⟨a, List.mem_cons_self, fun y hy => ?_⟩
      rcases List.mem_cons.1 hy with e | hy
      · rw [e]; exact Int.le_refl _
      · exact Int.le_trans c (h2 y hy)
    · refine ⟨x, List.mem_cons_of_mem _ h1, fun y hy => ?_⟩
      rcases List.mem_cons.1 hy with e | hy
      · rw [e]; omega
      · exact h2 y hy
theorem pkOf_ok (xs : List Int) (h : xs ≠ []) : pkOf xs < xs.length ∧ ∀ x ∈ xs, xs.getD (pkOf xs) 0 ≤ x := by
  obtain ⟨x, h1, h2⟩ := least_mem xs h
  have hp : pkOf xs < xs.length := by
    unfold pkOf
    rw [List.findIdx_lt_length]
    exact ⟨x, h1, List.all_eq_true.2 fun y hy => decide_eq_true (h2 y hy)⟩
  refine ⟨hp, fun y hy => ?_⟩
  have e : xs.getD (pkOf xs) 0 = xs[pkOf xs] := by simp [List.getD_eq_getElem?_getD, hp]
  rw [e]
  have := List.findIdx_getElem (p := fun x => xs.all fun y => decide (x ≤ y)) (xs := xs) (w := hp)
  exact of_decide_eq_true (List.all_eq_true.1 this y hy)
theorem run_out (pk : List Int → Nat) (w : Nat) (sp : List Int) (n : Nat) : ∀ (r : Nat) (now : List S66) (used : List Int) (out : List S73),
    (busFrom pk w sp n r now used out).1.length ≤ out.length + n ∧ ∀ s ∈ (busFrom pk w sp n r now used out).1, s ∈ out ∨ ((r : Int) ≤ s.f0 ∧ s.f0 < ((r + n : Nat) : Int)) := by
  induction n with
  | zero => intro r now used out; exact ⟨Nat.le_refl _, fun s h => Or.inl h⟩
  | succ n ih =>
    intro r now used out
    rw [busFrom_succ]
    by_cases c : candTo now (if r % w = 0 then List.replicate now.length 0 else used) now.length = []
    · rw [if_pos c]
      obtain ⟨h1, h2⟩ := ih (r + 1) now (if r % w = 0 then List.replicate now.length 0 else used) out
      refine ⟨by omega, fun s hs => ?_⟩
      rcases h2 s hs with h | h
      · exact Or.inl h
      · exact Or.inr ⟨by omega, by omega⟩
    · rw [if_neg c]
      generalize (now.set (stepI pk now (if r % w = 0 then List.replicate now.length 0 else used)) (sentBy (!decide ((r : Int) ∈ sp)) (tkAt now (stepI pk now (if r % w = 0 then List.replicate now.length 0 else used))))) = now'
      generalize ((if r % w = 0 then List.replicate now.length 0 else used).set (stepI pk now (if r % w = 0 then List.replicate now.length 0 else used)) ((if r % w = 0 then List.replicate now.length 0 else used).getD (stepI pk now (if r % w = 0 then List.replicate now.length 0 else used)) 0 + 1)) = used'
      obtain ⟨h1, h2⟩ := ih (r + 1) now' used' (out ++ [⟨(r : Int), (stepI pk now (if r % w = 0 then List.replicate now.length 0 else used) : Int), headId (tkAt now (stepI pk now (if r % w = 0 then List.replicate now.length 0 else used))), !decide ((r : Int) ∈ sp)⟩])
      rw [List.length_append] at h1
      refine ⟨by simp only [List.length_cons, List.length_nil] at h1; omega, fun s hs => ?_⟩
      rcases h2 s hs with h | h
      · rcases List.mem_append.1 h with h | h
        · exact Or.inl h
        · rw [List.mem_singleton.1 h]
          exact Or.inr ⟨Int.le_refl _, by show (r : Int) < _; omega⟩
      · exact Or.inr ⟨by omega, by omega⟩
theorem good_err {l : List S66} (h : l.all goodT = true) : ∀ i, i < l.length → 0 ≤ (tkAt l i).f2 ∧ (tkAt l i).f2 ≤ 255 ∧ (tkAt l i).f3 = decide ((tkAt l i).f2 = 255) := by
  intro i hi
  have hm : tkAt l i ∈ l := by
    show l.getD i tk0 ∈ l
    rw [List.getD_eq_getElem?_getD, List.getElem?_eq_getElem hi]
    exact List.getElem_mem hi
  have hg := List.all_eq_true.1 h _ hm
  unfold goodT at hg
  simp only [Bool.and_eq_true, decide_eq_true_eq] at hg
  obtain ⟨_, _, _, ⟨h1, h2⟩, h3⟩ := hg
  refine ⟨h1, h2, ?_⟩
  have h4 := beq_iff_eq.1 h3
  rw [h4]
  rfl
theorem fine_of (l : List S66) (rounds window : Int) (sp : List Int) (h : (runOf l rounds window sp).2.2 = true) : FineP l (runOf l rounds window sp).1 (runOf l rounds window sp).2.1 window := by
  unfold runOf at h ⊢
  by_cases c : argsOk l rounds window sp = true ∧ l.all goodT = true
  · rw [if_pos c]
    obtain ⟨c1, c2⟩ := c
    have c3 := of_decide_eq_true c1
    obtain ⟨a1, a2, a3, a4⟩ := c3
    obtain ⟨o1, o2⟩ := run_out pkOf window.toNat sp rounds.toNat 0 l (List.replicate l.length 0) []
    refine ⟨a1, c2, ?_, a3, fun s hs => ?_, ?_⟩
    · simp only [List.length_nil] at o1
      show (busFrom pkOf window.toNat sp rounds.toNat 0 l (List.replicate l.length 0) []).1.length ≤ 40
      omega
    · rcases o2 s hs with h | h
      · cases h
      · exact ⟨by omega, by omega⟩
    · exact run_fine pkOf pkOf_ok l window.toNat (by omega) sp (Bus.start l) rounds.toNat 0 l _ [] (Bus.start l) (start_rel l window.toNat (good_err c2)) rfl
  · rw [if_neg c] at h
    cases h
theorem FnBus : ∀ (l0 : List Int), (l0.length ≤ maxLen ∧ l0.length * 1 ≤ 140737488351232 ∧ ∀ y0 ∈ l0, (Lit.int .u8 y0).wf = true) → ∃ k, laws_FnBus.f k l0 = some true := by
  rintro c ⟨_, _, q0⟩
  apply Ev.rounds
  unfold laws_FnBus.f
  by_cases c0 : (c.length : Int) > 1048576
  · exact Ev.pos c0 (Ev.some rfl)
  · have hc : Code c := ⟨by omega, fun y hy => by
      have := q0 y hy
      simp [Lit.wf, IntKind.min, IntKind.max, IntKind.bits, IntKind.signed] at this
      omega⟩
    obtain ⟨r, hd, hs⟩ := draw_ok hc
    have h1 : impl_RunBus.f r.1 r.2.1 r.2.2.1 r.2.2.2 = some (runOf r.1 r.2.1 r.2.2.1 r.2.2.2) := if_pos hs
    have h2 : spec_RunBus.f r.1 r.2.1 r.2.2.1 r.2.2.2 = some (runOf r.1 r.2.1 r.2.2.1 r.2.2.2) := if_pos hs
    refine Ev.neg c0 (Ev.bnd hd (Ev.bnd0 h1 (Ev.bnd0 h2 (Ev.neg (by simp) ?_))))
    by_cases ok : (runOf r.1 r.2.1 r.2.2.1 r.2.2.2).2.2 = true
    · have hf := fine_of _ _ _ _ ok
      have h3 : spec_BusFine.f r.1 (runOf r.1 r.2.1 r.2.2.1 r.2.2.2).1 (runOf r.1 r.2.1 r.2.2.1 r.2.2.2).2.1 r.2.2.1 = some true := if_pos hf
      exact Ev.pos ok (Ev.bnd0 h3 (Ev.some rfl))
    · exact Ev.neg ok (Ev.some rfl)
end Go.Proofs.Ytbdonoeellmeoaa.Pure
